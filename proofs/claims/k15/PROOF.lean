import PyProof.Rows.All
import HandS.ForMost
import HandS.ForExc
import HandS.IsInst
import HandS.Property
import HandS.ClsMeth
import HandS.Star
import HandS.Wide
import HandS.Strs
import HandS.Style
import HandS.StrMore
import HandS.Evl
import KE.GoesNew
import KE.GoesMore
import HandS.SetKeys
import PyProof.InstNe
import HandS.Defaults
import HandS.Head0
import HandS.Head1
import HandS.Head2
import HandS.HeadEnd
import HandS.HeadHook1
import HandS.HeadHook2
import HandS.ExcInit
import HandS.TryMany
import PyProof.Rows.RegReprOcc
import PyProof.StrOps2
import PyProof.Rows.FactsT1
import PyProof.Rows.FactsT2
import PyProof.Rows.FactsN_isinstance
import PyProof.Rows.FactsN_divmod
import PyProof.Rows.RuleB_bool
import HandS.GenList
import HandS.GenYield
import HandS.GenOver
import PyProof.Rows.StrFirst
import HandS.Conv
import HandS.RaiseMore
import HandS.Dict
import PySem.Challenge.RW_sieverows_k15_sets_of_numbers
set_option Elab.async false
set_option linter.all false
set_option maxRecDepth 100000
set_option maxHeartbeats 4000000
/-! Judgements by syntax over the hand layer: what a piece of syntax asks, as a statement of its own; each rule goes from the syntax to its parts. -/
namespace Sv
open PySem PySem.Spec PyProof.Rows L2

/-- an expression, a test, arguments, a statement, a block, a target -/
structure WE (X : Cx) (e : Expr) (σ : L2.St) (H : Hp) (Q : VK) : Prop where
  run : ∀ (pins : List (Addr × Obj)) (s : Shared), Inv X pins σ H s → wpAny (model X.prog X.w) X.A (eval e X.env) (EP X pins σ Q) X.xe s
structure WT (X : Cx) (e : Expr) (σ : L2.St) (H : Hp) (Q : Bool → Hp → Prop) : Prop where
  run : ∀ (pins : List (Addr × Obj)) (s : Shared), Inv X pins σ H s → wpAny (model X.prog X.w) X.A (isTrue e X.env (eval e X.env)) (TP X pins σ Q) X.xe s
structure WW (X : Cx) (e : Expr) (σ : L2.St) (H : Hp) (Q : Bool → Hp → Prop) : Prop where
  run : ∀ (whole : Sem Value) (pins : List (Addr × Obj)) (s : Shared), Inv X pins σ H s → wpAny (model X.prog X.w) X.A (isTrue e X.env whole) (TP X pins σ Q) X.xe s
structure WA (X : Cx) (es : List Expr) (σ : L2.St) (H : Hp) (Q : List V → Hp → Prop) : Prop where
  run : ∀ (pos : Pos) (pins : List (Addr × Obj)) (s : Shared), Inv X pins σ H s → wpAny (model X.prog X.w) X.A (spliced (backTo pos (starEach es X.env))) (AP X pins σ Q) X.xe s
structure WS (X : Cx) (st : Stmt) (D : Ends) (σ : L2.St) (H : Hp) : Prop where
  run : ∀ (pins : List (Addr × Obj)) (s : Shared), Inv X pins σ H s → wpAny (model X.prog X.w) X.A (exec st X.env) (SP X pins D) X.xe s
structure WL (X : Cx) (sts : List Stmt) (D : Ends) (σ : L2.St) (H : Hp) : Prop where
  run : ∀ (pins : List (Addr × Obj)) (s : Shared), Inv X pins σ H s → wpAny (model X.prog X.w) X.A (execs sts X.env) (SP X pins D) X.xe s
structure WG (X : Cx) (tg : Expr) (v : V) (σ : L2.St) (H : Hp) (Q : L2.St → Hp → Prop) : Prop where
  run : ∀ (pins : List (Addr × Obj)) (s : Shared) (u : Value), Inv X pins σ H s → RelV v u → wpAny (model X.prog X.w) X.A (assign tg X.env u) (fun _ s' => ∃ σ' H', Inv X pins σ' H' s' ∧ Q σ' H') X.xe s
structure WGs (X : Cx) (ts : List Expr) (vs : List V) (σ : L2.St) (H : Hp) (Q : L2.St → Hp → Prop) : Prop where
  run : ∀ (pins : List (Addr × Obj)) (s : Shared) (us : List Value), Inv X pins σ H s → Vals vs us → wpAny (model X.prog X.w) X.A (assignInOrder ((assignEach ts X.env).map (·.2)) us) (fun _ s' => ∃ σ' H', Inv X pins σ' H' s' ∧ Q σ' H') X.xe s
structure WO (X : Cx) (oe : Option Expr) (σ : L2.St) (H : Hp) (Q : Option Int → Hp → Prop) : Prop where
  run : ∀ t : TO, PO X oe t → t σ H Q → True
section
variable {X : Cx} {e : Expr} {es : List Expr} {st : Stmt} {sts : List Stmt} {σ : L2.St} {H : Hp}
theorem pe_w : PE X e (WE X e) := ⟨fun pins s _ _ _ I h => h.run pins s I⟩
theorem pt_w : PT X e (WT X e) := ⟨fun pins s _ _ _ I h => h.run pins s I⟩
theorem pw_w : PW X e (WW X e) := ⟨fun wh pins s _ _ _ I h => h.run wh pins s I⟩
theorem pa_w : PA X es (WA X es) := ⟨fun pos pins s _ _ _ I h => h.run pos pins s I⟩
theorem ps_w : PS X st (WS X st) := ⟨fun pins s _ _ _ I h => h.run pins s I⟩
theorem pss_w : PSs X sts (WL X sts) := ⟨fun pins s _ _ _ I h => h.run pins s I⟩
theorem pg_w : PG X e (WG X e) := ⟨fun pins s _ _ _ u _ I r h => h.run pins s u I r⟩
theorem pgs_w : PGs X es (WGs X es) := ⟨fun pins s _ _ _ us _ I r h => h.run pins s us I r⟩
theorem _root_.L2.PE.w {t : TE} {Q : VK} (h : PE X e t) (q : t σ H Q) : WE X e σ H Q := ⟨fun pins s I => h.run pins s σ H Q I q⟩
theorem _root_.L2.PT.w {t : TT} {Q : Bool → Hp → Prop} (h : PT X e t) (q : t σ H Q) : WT X e σ H Q := ⟨fun pins s I => h.run pins s σ H Q I q⟩
theorem _root_.L2.PW.w {t : TT} {Q : Bool → Hp → Prop} (h : PW X e t) (q : t σ H Q) : WW X e σ H Q := ⟨fun wh pins s I => h.run wh pins s σ H Q I q⟩
theorem _root_.L2.PA.w {t : TA} {Q : List V → Hp → Prop} (h : PA X es t) (q : t σ H Q) : WA X es σ H Q := ⟨fun pos pins s I => h.run pos pins s σ H Q I q⟩
theorem _root_.L2.PS.w {t : TS} {D : Ends} (h : PS X st t) (q : t D σ H) : WS X st D σ H := ⟨fun pins s I => h.run pins s σ H D I q⟩
theorem _root_.L2.PSs.w {t : TS} {D : Ends} (h : PSs X sts t) (q : t D σ H) : WL X sts D σ H := ⟨fun pins s I => h.run pins s σ H D I q⟩
theorem _root_.L2.PG.w {t : TG} {v : V} {Q : L2.St → Hp → Prop} (h : PG X e t) (q : t v σ H Q) : WG X e v σ H Q := ⟨fun pins s u I r => h.run pins s σ H v u Q I r q⟩
theorem _root_.L2.PGs.w {t : TGs} {vs : List V} {Q : L2.St → Hp → Prop} (h : PGs X es t) (q : t vs σ H Q) : WGs X es vs σ H Q := ⟨fun pins s us I r => h.run pins s σ H vs us Q I r q⟩
/-- weaken -/
theorem WE.imp {Q Q' : VK} (h : WE X e σ H Q) (q : ∀ v H', Q v H' → Q' v H') : WE X e σ H Q' :=
  ⟨fun pins s I => thn (h.run pins s I) fun _ _ ⟨v, H', I', r, z⟩ => ⟨v, H', I', r, q v H' z⟩⟩
end

theorem WA.imp {X : Cx} {es : List Expr} {σ : L2.St} {H : Hp} {Q Q' : List V → Hp → Prop} (h : WA X es σ H Q) (q : ∀ v H', Q v H' → Q' v H') : WA X es σ H Q' :=
  ⟨fun pos pins s I => thn (h.run pos pins s I) fun _ _ ⟨v, H', I', r, z⟩ => ⟨v, H', I', r, q v H' z⟩⟩
theorem WT.imp {X : Cx} {e : Expr} {σ : L2.St} {H : Hp} {Q Q' : Bool → Hp → Prop} (h : WT X e σ H Q) (q : ∀ v H', Q v H' → Q' v H') : WT X e σ H Q' :=
  ⟨fun pins s I => thn (h.run pins s I) fun _ _ ⟨H', I', z⟩ => ⟨H', I', q _ H' z⟩⟩

/-! ### slots by name -/
/-- the name x holds v -/
inductive At : List Str → L2.St → Str → V → Prop where
  | here {x : Str} {N : List Str} {v : V} {σ : L2.St} : At (x :: N) (some v :: σ) x v
  | there {x y : Str} {N : List Str} {v : V} {o : Option V} {σ : L2.St} : At N σ x v → At (y :: N) (o :: σ) x v
/-- x stored -/
inductive Put : List Str → L2.St → Str → V → L2.St → Prop where
  | here {x : Str} {N : List Str} {v : V} {o : Option V} {σ : L2.St} : Put (x :: N) (o :: σ) x v (some v :: σ)
  | there {x y : Str} {N : List Str} {v : V} {o : Option V} {σ σ' : L2.St} : Put N σ x v σ' → Put (y :: N) (o :: σ) x v (o :: σ')
theorem At.ix {N : List Str} {σ : L2.St} {x : Str} {v : V} (h : At N σ x v) : ∃ i : Nat, N[i]? = some x ∧ σ[i]? = some (some v) := by
  induction h with
  | here => exact ⟨0, rfl, rfl⟩
  | there _ ih => obtain ⟨i, a, b⟩ := ih; exact ⟨i + 1, by simpa using a, by simpa using b⟩
theorem Put.ix {N : List Str} {σ σ' : L2.St} {x : Str} {v : V} (h : Put N σ x v σ') : ∃ i : Nat, N[i]? = some x ∧ σ' = σ.set i (some v) := by
  induction h with
  | here => exact ⟨0, rfl, rfl⟩
  | there _ ih => obtain ⟨i, a, b⟩ := ih; exact ⟨i + 1, by simpa using a, by rw [b, List.set_cons_succ]⟩
/-- what is known of the names: N all slots; L the visible ones; S those that may be stored; G the global ones -/
structure Nm (X : Cx) (N L S G B : List Str) : Prop where
  names : X.N = N
  nd : N.Nodup
  vis : ∀ x ∈ L, Vis X.env.scope x ∧ (x == ("__debug__" : Str)) = false ∧ (x == ("__classdict__" : Str)) = false
  sto : ∀ x ∈ S, Loc X.env.scope x ∧ (X.fn x = true ∨ X.env.scope.names.lookup x = some .local)
  glo : ∀ x ∈ G, Gl X x ∧ (x == ("__debug__" : Str)) = false ∧ x ≠ "__name__"
  blt : ∀ x ∈ B, X.mg x = none
  bgl : ∀ x ∈ B, Gl X x ∧ (x == ("__debug__" : Str)) = false ∧ x ≠ "__name__"
  calm : X.calm = true
/-- membership by its own shape -/
inductive Mb (x : Str) : List Str → Prop where
  | here {l : List Str} : Mb x (x :: l)
  | there {y : Str} {l : List Str} : Mb x l → Mb x (y :: l)
theorem Mb.mem {x : Str} {l : List Str} (h : Mb x l) : x ∈ l := by
  induction h with
  | here => exact List.mem_cons_self
  | there _ ih => exact List.mem_cons_of_mem _ ih

section
variable {X : Cx} {N L S G B : List Str} {σ : L2.St} {H : Hp} {Q : VK} {x : Str} {v : V} {pos : Pos}
theorem w_name (c : Nm X N L S G B) (h : At N σ x v) (m : Mb x L) (q : Q v H) : WE X (.Name x pos) σ H Q := by
  obtain ⟨i, h1, h2⟩ := h.ix
  obtain ⟨a, b, d⟩ := c.vis x m.mem
  exact (pe_var (i := i) (by rw [c.names]; exact h1) a b d).w ⟨v, h2, q⟩
theorem w_gname {v : V} {u : Value} (c : Nm X N L S G B) (m : Mb x G) (hm : X.mg x = some u) (r : RelV v u) (q : Q v H) : WE X (.Name x pos) σ H Q := by
  obtain ⟨a, b, d⟩ := c.glo x m.mem
  exact (pe_glob a hm r b).w q
theorem w_bname {v : V} {u : Value} (c : Nm X N L S G B) (m : Mb x B) (hv : bootBuiltins x = some u) (r : RelV v u) (q : Q v H) : WE X (.Name x pos) σ H Q := by
  obtain ⟨a, b, d⟩ := c.bgl x m.mem
  exact (pe_bltn a (c.blt x m.mem) hv r d b).w q
theorem w_int {i : Int} {j} (q : Q (.int i) H) : WE X (.Constant (.int i) j pos) σ H Q := (pe_int).w q
theorem w_bl {b : Bool} {j} (q : Q (.bl b) H) : WE X (.Constant (.bool b) j pos) σ H Q := (pe_bl).w q
theorem w_non {j} (q : Q .non H) : WE X (.Constant .none j pos) σ H Q := (pe_non).w q
theorem w_str {z : Str} {j} (q : Q (.str z) H) : WE X (.Constant (.str z) j pos) σ H Q := (pe_str).w q
/-- a target that is a name -/
theorem wg_name {Q : L2.St → Hp → Prop} {σ' : L2.St} (c : Nm X N L S G B) (h : Put N σ x v σ') (m : Mb x S) (q : Q σ' H) : WG X (.Name x pos) v σ H Q := by
  obtain ⟨i, h1, rfl⟩ := h.ix
  obtain ⟨a, b⟩ := c.sto x m.mem
  exact (pg_name (i := i) (by rw [c.names]; exact c.nd) (by rw [c.names]; exact h1) a b).w q
end

/-! ### operators: by values -/
structure WB (X : Cx) (f : Value → Value → Sem Value) (x y : V) (σ : L2.St) (H : Hp) (Q : VK) : Prop where
  run : ∀ (pins : List (Addr × Obj)) (s : Shared) (v u : Value), Inv X pins σ H s → RelV x v → RelV y u → wpAny (model X.prog X.w) X.A (f v u) (EP X pins σ Q) X.xe s
structure WU (X : Cx) (f : Value → Sem Value) (x : V) (σ : L2.St) (H : Hp) (Q : VK) : Prop where
  run : ∀ (pins : List (Addr × Obj)) (s : Shared) (v : Value), Inv X pins σ H s → RelV x v → wpAny (model X.prog X.w) X.A (f v) (EP X pins σ Q) X.xe s
theorem _root_.L2.OpR.w {X : Cx} {f : Value → Value → Sem Value} {r : R2} {x y : V} {σ : L2.St} {H : Hp} {Q : VK} (h : OpR X f r) (q : r x y H Q) : WB X f x y σ H Q := ⟨fun pins s v u I rx ry => h pins s σ H x y v u Q I rx ry q⟩
theorem _root_.L2.UnR.w {X : Cx} {f : Value → Sem Value} {r : V → Hp → VK → Prop} {x : V} {σ : L2.St} {H : Hp} {Q : VK} (h : UnR X f r) (q : r x H Q) : WU X f x σ H Q := ⟨fun pins s v I rx => h pins s σ H x v Q I rx q⟩
section
variable {X : Cx} {a b c : Expr} {σ : L2.St} {H : Hp} {Q : VK} {pos : Pos}
theorem w_bin {op : Operator} (h : WE X a σ H fun x H1 => WE X b σ H1 fun y H2 => WB X (binaryOp op) x y σ H2 Q) : WE X (.BinOp a op b pos) σ H Q :=
  ⟨fun pins s I => wpAny_BinOp (thn (h.run pins s I) fun v s1 ⟨x, H1, I1, r1, q1⟩ => thn (q1.run pins s1 I1) fun u s2 ⟨y, H2, I2, r2, q2⟩ => q2.run pins s2 v u I2 r1 r2)⟩
theorem w_un {op : UnaryOp} (h : WE X a σ H fun x H1 => WU X (unaryOp op) x σ H1 Q) : WE X (.UnaryOp op a pos) σ H Q :=
  ⟨fun pins s I => UnaryOp_ (thn (h.run pins s I) fun v s1 ⟨x, H1, I1, r1, q1⟩ => q1.run pins s1 v I1 r1)⟩
/-- one comparison as a value; hm by nomark (rfl for in, not in) -/
theorem w_cmp {op : CmpOp} (h : WE X a σ H fun x H1 => WE X b σ H1 fun y H2 => WB X (compareOp op) x y σ H2 Q) (hm : behindInMarks op b = false) : WE X (.Compare a [op] [b] pos) σ H Q :=
  ⟨fun pins s I => wpAny_Compare1 (thn (h.run pins s I) fun v s1 ⟨x, H1, I1, r1, q1⟩ => thn (q1.run pins s1 I1) fun u s2 ⟨y, H2, I2, r2, q2⟩ => q2.run pins s2 v u I2 r1 r2) hm⟩
theorem wt_cmp {op : CmpOp} {Q : Bool → Hp → Prop} (h : WE X a σ H fun x H1 => WE X b σ H1 fun y H2 => WB X (compareOp op) x y σ H2 fun z H3 => ∃ k, z = .bl k ∧ Q k H3) (hm : behindInMarks op b = false) : WT X (.Compare a [op] [b] pos) σ H Q :=
  ⟨fun pins s I => wpAny_isTrue_Compare1 (thn (h.run pins s I) fun v s1 ⟨x, H1, I1, r1, q1⟩ => thn (q1.run pins s1 I1) fun u s2 ⟨y, H2, I2, r2, q2⟩ => thn (q2.run pins s2 v u I2 r1 r2) fun d s3 ⟨z, H3, I3, r3, k, e, q3⟩ => by
    subst e
    cases r3
    exact wpAny_truthy_bool ⟨H3, I3, q3⟩) hm⟩
/-- a < b < c -/
theorem w_chain {op op' : CmpOp} (h : WE X a σ H fun x H1 => WE X b σ H1 fun y H2 => WB X (compareOp op) x y σ H2 fun z H3 => ∃ k, z = .bl k ∧ if k = true then WE X c σ H3 fun w' H4 => WB X (compareOp op') y w' σ H4 Q else Q (.bl false) H3)
    (hm : lastMarks [op, op'] [b, c] = false := by with_unfolding_all rfl) : WE X (.Compare a [op, op'] [b, c] pos) σ H Q :=
  ⟨fun pins s I => Compare_chain (thn (h.run pins s I) fun v s1 ⟨x, H1, I1, r1, q1⟩ => chain_link (thn (q1.run pins s1 I1) fun u s2 ⟨y, H2, I2, r2, q2⟩ => thn (q2.run pins s2 v u I2 r1 r2) fun d s3 ⟨z, H3, I3, r3, k, e, q3⟩ => by
    subst e
    cases r3
    refine wpAny_truthy_bool ?_
    cases k with
    | false => exact ite_ff ⟨.bl false, H3, I3, rfl, q3⟩
    | true => exact ite_tt (chain_last (thn (q3.run pins s3 I3) fun w' s4 ⟨z', H4, I4, r4, q4⟩ => q4.run pins s4 u w' I4 r2 r4)))) hm⟩
theorem wt_chain {op op' : CmpOp} {Q : Bool → Hp → Prop} (h : WE X a σ H fun x H1 => WE X b σ H1 fun y H2 => WB X (compareOp op) x y σ H2 fun z H3 => ∃ k, z = .bl k ∧ if k = true then WE X c σ H3 fun w' H4 => WB X (compareOp op') y w' σ H4 fun z' H5 => ∃ k', z' = .bl k' ∧ Q k' H5 else Q false H3)
    (hm : lastMarks [op, op'] [b, c] = false := by with_unfolding_all rfl) : WT X (.Compare a [op, op'] [b, c] pos) σ H Q :=
  ⟨fun pins s I => isTrue_chain (thn (h.run pins s I) fun v s1 ⟨x, H1, I1, r1, q1⟩ => test_link (thn (q1.run pins s1 I1) fun u s2 ⟨y, H2, I2, r2, q2⟩ => thn (q2.run pins s2 v u I2 r1 r2) fun d s3 ⟨z, H3, I3, r3, k, e, q3⟩ => by
    subst e
    cases r3
    refine wpAny_truthy_bool ?_
    cases k with
    | false => exact ite_ff ⟨H3, I3, q3⟩
    | true =>
      refine ite_tt (test_last (thn (q3.run pins s3 I3) fun w' s4 ⟨z', H4, I4, r4, q4⟩ => thn (q4.run pins s4 u w' I4 r2 r4) fun d' s5 ⟨z2, H5, I5, r5, k2, e2, q5⟩ => ?_))
      subst e2
      cases r5
      exact wpAny_truthy_bool ⟨H5, I5, q5⟩)) hm⟩
/-! ### tests -/
variable {T : Bool → Hp → Prop} {rest : List Expr}
theorem wt_of_ww (h : WW X a σ H T) : WT X a σ H T := (pw_w.pt).w h
theorem ww_and1 (h : WT X a σ H T) : WW X (.BoolOp .And [a] pos) σ H T := (pw_and1 pt_w).w h
theorem ww_or1 (h : WT X a σ H T) : WW X (.BoolOp .Or [a] pos) σ H T := (pw_or1 pt_w).w h
theorem ww_and (h : WT X a σ H fun k H1 => if k = true then WW X (.BoolOp .And (b :: rest) pos) σ H1 T else T false H1) : WW X (.BoolOp .And (a :: b :: rest) pos) σ H T := (pw_and pt_w pw_w).w h
theorem ww_or (h : WT X a σ H fun k H1 => if k = true then T true H1 else WW X (.BoolOp .Or (b :: rest) pos) σ H1 T) : WW X (.BoolOp .Or (a :: b :: rest) pos) σ H T := (pw_or pt_w pw_w).w h
theorem wt_not (h : WT X a σ H fun k H1 => T (!k) H1) : WT X (.UnaryOp .Not a pos) σ H T := (pt_not pt_w).w h
/-- any other expression, by its value's truth -/
theorem wt_val (h : WE X a σ H fun x H1 => ∃ k, TruV X.K x H1 k ∧ T k H1) (he : ∀ whole, isTrue a X.env whole = (do let v ← whole; standAt a.pos; holding [v] (truthy v)) := by intro _; with_unfolding_all rfl) : WT X a σ H T := (pt_truth pe_w he).w h
/-- as values, all but the last True or False -/
theorem w_one {op} (h : WE X a σ H Q) : WE X (.BoolOp op [a] pos) σ H Q := (pe_one pe_w).w h
theorem w_and (h : WE X a σ H fun x H1 => ∃ k, x = .bl k ∧ if k = true then WE X (.BoolOp .And (b :: rest) pos) σ H1 Q else Q (.bl false) H1) : WE X (.BoolOp .And (a :: b :: rest) pos) σ H Q := (pe_and pe_w pe_w).w h
theorem w_or (h : WE X a σ H fun x H1 => ∃ k, x = .bl k ∧ if k = true then Q (.bl true) H1 else WE X (.BoolOp .Or (b :: rest) pos) σ H1 Q) : WE X (.BoolOp .Or (a :: b :: rest) pos) σ H Q := (pe_or pe_w pe_w).w h
theorem w_not (h : WE X a σ H fun x H1 => ∃ k, x = .bl k ∧ Q (.bl (!k)) H1) : WE X (.UnaryOp .Not a pos) σ H Q := (pe_not pe_w).w h
theorem w_if (h : WT X c σ H fun k H1 => if k = true then WE X a σ H1 Q else WE X b σ H1 Q) : WE X (.IfExp c a b pos) σ H Q := (pe_ifExp pt_w pe_w pe_w).w h
end
/-- a new object: what stood stands -/
theorem same_new {H : Hp} {p : Addr} {o : HO} (h : H p = none) : Same H (upd H p o) := fun a u e => by
  rw [upd_ne (ne_of_none e h)]
  exact e
theorem newly {H : Hp} {p : Addr} {o : HO} {Q : Hp → Prop} (h : ∀ H', Same H H' → H' p = some o → Q H') (n : H p = none) : Q (upd H p o) := h _ (same_new n) upd_same
theorem newly' {H : Hp} {o : HO} {Q : Addr → Hp → Prop} (h : ∀ p H', H p = none → Same H H' → H' p = some o → Q p H') : ∀ p, H p = none → Q p (upd H p o) := fun p n => h p _ n (same_new n) upd_same
/-- an object that H does not know changes -/
theorem same_mut {H H' : Hp} {p : Addr} {o : HO} (e : Same H H') (h : H p = none) : Same H (upd H' p o) := fun a u q => by
  rw [upd_ne (ne_of_none q h)]
  exact e a u q
theorem same_at {H H' : Hp} {p : Addr} {o : HO} (e : Same H H') (h : H p = some o) : H' p = some o := e p o h
theorem same_t {K : PySem.W.Frag} {H H' : Hp} {a : Addr} {xs : List V} (e : Same H H') (h : SqT K H a xs) : SqT K H' a xs := by
  rcases h with (h | ⟨o, h⟩) | h
  · exact .inl (.inl (e _ _ h))
  · exact .inl (.inr ⟨o, e _ _ h⟩)
  · exact .inr h
theorem ite_bl {k : Bool} {A B : Prop} (h1 : k = true → A) (h2 : k = false → B) : if k = true then A else B := by
  cases k with
  | true => rw [if_pos rfl]; exact h1 rfl
  | false => rw [if_neg (by decide)]; exact h2 rfl
end Sv

namespace Sv
open PySem PySem.Spec PyProof.Rows L2

/-! ### operators on values -/
section
variable {X : Cx} {σ : L2.St} {H : Hp} {Q : VK}
theorem b_add {i j : Int} (q : Q (.int (i + j)) H) : WB X (binaryOp .Add) (.int i) (.int j) σ H Q := op_add.w ⟨_, _, rfl, rfl, q⟩
theorem b_sub {i j : Int} (q : Q (.int (i - j)) H) : WB X (binaryOp .Sub) (.int i) (.int j) σ H Q := op_sub.w ⟨_, _, rfl, rfl, q⟩
theorem b_mul {i j : Int} (h : IntMulOk i j) (q : Q (.int (i * j)) H) : WB X (binaryOp .Mult) (.int i) (.int j) σ H Q :=
  ⟨fun pins s v u I rx ry => by
    obtain ⟨t, rfl⟩ := rx
    obtain ⟨t', rfl⟩ := ry
    exact mul_int (show EP X pins σ Q _ _ from ⟨V.int (i * j), H, I.tok _, ⟨_, rfl⟩, q⟩) h⟩
theorem b_mod {i j : Int} (h : 0 < j) (q : Q (.int (i % j)) H) : WB X (binaryOp .Mod) (.int i) (.int j) σ H Q := op_mod.w ⟨_, _, rfl, rfl, h, q⟩
theorem b_fdiv {i j : Int} (h : 0 < j) (h2 : j < 1073741824) (q : Q (.int (i / j)) H) : WB X (binaryOp .FloorDiv) (.int i) (.int j) σ H Q := op_fdiv.w ⟨_, _, rfl, rfl, ⟨h, h2⟩, q⟩
theorem b_pow {i j : Int} (h : 0 ≤ j ∧ j ≤ 1000000 ∧ i.natAbs < 2 ^ 64) (q : Q (.int (i ^ j.toNat)) H) : WB X (binaryOp .Pow) (.int i) (.int j) σ H Q := op_pow.w ⟨_, _, rfl, rfl, h, q⟩
theorem b_addS {x y : Str} (h : x.length + y.length ≤ sizeLine) (q : Q (.str (x ++ y)) H) : WB X (binaryOp .Add) (.str x) (.str y) σ H Q := op_add_str.w ⟨_, _, rfl, rfl, h, q⟩
theorem b_cat {l b : Addr} {xs zs : List V} (h1 : H l = some (.lst xs)) (h2 : H b = some (.lst zs)) (hz : xs.length + zs.length ≤ sizeLine) (q : ∀ p H', H p = none → Same H H' → H' p = some (.lst (xs ++ zs)) → Q (.ref p) H') :
    WB X (binaryOp .Add) (.ref l) (.ref b) σ H Q := op_cat.w ⟨_, _, _, _, rfl, rfl, h1, h2, hz, newly' (Q := fun p H' => Q (.ref p) H') q⟩
theorem b_rep {l : Addr} {k : Int} {xs : List V} (h1 : H l = some (.lst xs)) (h2 : -(2 ^ 63) ≤ k) (h3 : k < 2 ^ 63) (hz : xs.length * k.toNat ≤ sizeLine) (q : ∀ p H', H p = none → Same H H' → H' p = some (.lst (List.replicate k.toNat xs).flatten) → Q (.ref p) H') :
    WB X (binaryOp .Mult) (.ref l) (.int k) σ H Q := op_rep.w ⟨_, _, _, rfl, rfl, h1, h2, h3, hz, newly' (Q := fun p H' => Q (.ref p) H') q⟩
theorem b_lt {i j : Int} (q : Q (.bl (decide (i < j))) H) : WB X (compareOp .Lt) (.int i) (.int j) σ H Q := op_lt.w ⟨_, _, rfl, rfl, q⟩
theorem b_le {i j : Int} (q : Q (.bl (decide (i ≤ j))) H) : WB X (compareOp .LtE) (.int i) (.int j) σ H Q := op_le.w ⟨_, _, rfl, rfl, q⟩
theorem b_gt {i j : Int} (q : Q (.bl (decide (j < i))) H) : WB X (compareOp .Gt) (.int i) (.int j) σ H Q := op_gt.w ⟨_, _, rfl, rfl, q⟩
theorem b_ge {i j : Int} (q : Q (.bl (decide (j ≤ i))) H) : WB X (compareOp .GtE) (.int i) (.int j) σ H Q := op_ge.w ⟨_, _, rfl, rfl, q⟩
theorem b_eqI {i j : Int} (q : Q (.bl (decide (i = j))) H) : WB X (compareOp .Eq) (.int i) (.int j) σ H Q := op_eq.w ⟨rfl, by simpa using q⟩
theorem b_neI {i j : Int} (q : Q (.bl (!decide (i = j))) H) : WB X (compareOp .NotEq) (.int i) (.int j) σ H Q := op_ne.w ⟨rfl, by simpa using q⟩
theorem b_eqS {x y : Str} (q : Q (.bl (decide (x = y))) H) : WB X (compareOp .Eq) (.str x) (.str y) σ H Q := op_eq.w ⟨rfl, by simpa using q⟩
theorem b_neS {x y : Str} (q : Q (.bl (!decide (x = y))) H) : WB X (compareOp .NotEq) (.str x) (.str y) σ H Q := op_ne.w ⟨rfl, by simpa using q⟩
theorem b_eqB {x y : Bool} (q : Q (.bl (decide (x = y))) H) : WB X (compareOp .Eq) (.bl x) (.bl y) σ H Q := op_eq.w ⟨rfl, by simpa using q⟩
theorem b_neB {x y : Bool} (q : Q (.bl (!decide (x = y))) H) : WB X (compareOp .NotEq) (.bl x) (.bl y) σ H Q := op_ne.w ⟨rfl, by simpa using q⟩
theorem b_eqV {x y : V} (h : scal x y = true) (q : Q (.bl (decide (x = y))) H) : WB X (compareOp .Eq) x y σ H Q := op_eq.w ⟨h, q⟩
theorem b_neV {x y : V} (h : scal x y = true) (q : Q (.bl (!decide (x = y))) H) : WB X (compareOp .NotEq) x y σ H Q := op_ne.w ⟨h, q⟩
theorem b_isN {x : V} (q : Q (.bl (decide (x = .non))) H) : WB X (compareOp .Is) x .non σ H Q := op_isN.w ⟨rfl, q⟩
theorem b_notN {x : V} (q : Q (.bl (!decide (x = .non))) H) : WB X (compareOp .IsNot) x .non σ H Q := op_notN.w ⟨rfl, q⟩
theorem b_isB {x y : Bool} (q : Q (.bl (decide (x = y))) H) : WB X (compareOp .Is) (.bl x) (.bl y) σ H Q := op_isBl.w ⟨_, _, rfl, rfl, q⟩
theorem b_notB {x y : Bool} (q : Q (.bl (!decide (x = y))) H) : WB X (compareOp .IsNot) (.bl x) (.bl y) σ H Q := op_notBl.w ⟨_, _, rfl, rfl, q⟩
theorem b_inS {c : Nat} {z : Str} (q : Q (.bl (decide (c ∈ z.cps.toList))) H) : WB X (compareOp .In) (.str ⟨#[c]⟩) (.str z) σ H Q := op_in_sign.w ⟨_, _, rfl, rfl, q⟩
theorem b_notinS {c : Nat} {z : Str} (q : Q (.bl (!decide (c ∈ z.cps.toList))) H) : WB X (compareOp .NotIn) (.str ⟨#[c]⟩) (.str z) σ H Q := op_notIn_sign.w ⟨_, _, rfl, rfl, q⟩
theorem b_inSet {k : Int} {a : Addr} {S : Int → Bool} {n : Nat} (h : H a = some (SetO X.w a S n)) (q : Q (.bl (S k)) H) : WB X (compareOp .In) (.int k) (.ref a) σ H Q := or_sin.w ⟨_, _, _, _, rfl, rfl, h, q⟩
theorem b_inL {x : V} {p : Addr} {xs : List V} (h : SqL X.K H p xs ∨ SqT X.K H p xs) (hx : flatV x = true) (ha : xs.all flatV = true) (q : Q (.bl (inV x xs)) H) : WB X (compareOp .In) x (.ref p) σ H Q := op_in_seq.w ⟨_, _, rfl, h, hx, ha, q⟩
theorem b_notinL {x : V} {p : Addr} {xs : List V} (h : SqL X.K H p xs ∨ SqT X.K H p xs) (hx : flatV x = true) (ha : xs.all flatV = true) (q : Q (.bl (!inV x xs)) H) : WB X (compareOp .NotIn) x (.ref p) σ H Q := op_notIn_seq.w ⟨_, _, rfl, h, hx, ha, q⟩
theorem u_neg {i : Int} (q : Q (.int (-i)) H) : WU X (unaryOp .USub) (.int i) σ H Q := un_neg.w ⟨_, rfl, q⟩
/-- == of data at any depth -/
theorem b_eqD {x y : V} {d e : PyData} (hu : X.A.units + 64 < cLine) (h1 : Dp X.K H x d) (h2 : Dp X.K H y e) (s1 : SeqAt.shaped d = true) (s2 : SeqAt.shaped e = true) (q : Q (.bl (PyData.eqv d e)) H) : WB X (compareOp .Eq) x y σ H Q :=
  (op_eqD hu).w ⟨d, e, h1, h2, s1, s2, q⟩
theorem b_neD {x y : V} {d e : PyData} (hu : X.A.units + 64 < cLine) (h1 : Dp X.K H x d) (h2 : Dp X.K H y e) (s1 : SeqAt.shaped d = true) (s2 : SeqAt.shaped e = true) (q : Q (.bl (!PyData.eqv d e)) H) : WB X (compareOp .NotEq) x y σ H Q :=
  (op_neD hu).w ⟨d, e, h1, h2, s1, s2, q⟩
end

/-! ### displays, arguments -/
section
variable {X : Cx} {e : Expr} {es : List Expr} {σ : L2.St} {H : Hp} {Q : VK} {pos : Pos} {R : List V → Hp → Prop}
theorem wa_nil (q : R [] H) : WA X [] σ H R := pa_nil.w q
theorem wa_cons (h : WE X e σ H fun x H1 => WA X es σ H1 fun xs H2 => R (x :: xs) H2) (hs : starEach (e :: es) X.env = (false, eval e X.env) :: starEach es X.env := by with_unfolding_all rfl) : WA X (e :: es) σ H R := (pa_cons pe_w pa_w hs).w h
theorem wa_star {p} (h : WE X e σ H fun x H1 => ∃ a xs, x = .ref a ∧ (SqT X.K H1 a xs ∨ SqL X.K H1 a xs) ∧ WA X es σ H1 fun ys H2 => R (xs ++ ys) H2) (hs : starEach (.Starred e p :: es) X.env = (true, eval e X.env) :: starEach es X.env := by with_unfolding_all rfl) : WA X (.Starred e p :: es) σ H R :=
  (StX.pa_star pe_w pa_w hs).w h
theorem w_lst (h : WA X es σ H fun xs H1 => xs.length ≤ sizeLine ∧ ∀ p H2, H1 p = none → Same H1 H2 → H2 p = some (.lst xs) → Q (.ref p) H2) : WE X (.List es pos) σ H Q :=
  (pe_lst pa_w).w (WA.imp h fun xs H1 ⟨a, q⟩ => ⟨a, newly' (Q := fun p H' => Q (.ref p) H') q⟩)
theorem w_tup {k} (h : WA X es σ H fun xs H1 => xs.length ≤ sizeLine ∧ ∀ p H2, H1 p = none → Same H1 H2 → H2 p = some (.tup xs) → Q (.ref p) H2) : WE X (.Tuple es k pos) σ H Q :=
  (pe_tup pa_w).w (WA.imp h fun xs H1 ⟨a, q⟩ => ⟨a, newly' (Q := fun p H' => Q (.ref p) H') q⟩)
end

/-! ### subscripts, slices -/
structure WX (X : Cx) (x y : V) (σ : L2.St) (H : Hp) (Q : VK) : Prop where
  ex : ∃ r : R2, IxR X r ∧ r x y H Q
structure WPt (X : Cx) (oe : Option Expr) (σ : L2.St) (H : Hp) (Q : Option Int → Hp → Prop) : Prop where
  run : ∀ (pins : List (Addr × Obj)) (s : Shared), Inv X pins σ H s → wpAny (model X.prog X.w) X.A (evalPart oe X.env) (fun u s' => ∃ o H', Inv X pins σ H' s' ∧ IsPart u o ∧ Q o H') X.xe s
theorem po_w {X : Cx} {oe : Option Expr} : PO X oe (WPt X oe) := ⟨fun pins s _ _ _ I h => h.run pins s I⟩
structure WSl (X : Cx) (x : V) (lo hi : Option Int) (σ : L2.St) (H : Hp) (Q : VK) : Prop where
  ex : ∃ r : V → Option Int → Option Int → Hp → VK → Prop, SlR X r ∧ r x lo hi H Q
section
variable {X : Cx} {a b e : Expr} {lo hi : Option Expr} {σ : L2.St} {H : Hp} {Q : VK} {pos p2 : Pos}
theorem ixr_w : IxR X fun x y H Q => ∀ σ, WX X x y σ H Q := by
  intro value slice pins s σ H x y v u Q I rx ry q hs
  obtain ⟨r, h, q⟩ := (q σ).ex
  exact h value slice pins s σ H x y v u Q I rx ry q hs
theorem w_ix (h : WE X a σ H fun x H1 => WE X b σ H1 fun y H2 => WX X x y σ H2 Q) (hs : PlainIx b := by with_unfolding_all exact fun _ _ => rfl) : WE X (.Subscript a b pos) σ H Q :=
  ⟨fun pins s I => Subscript_ (thn (h.run pins s I) fun v s1 ⟨x, H1, I1, r1, q1⟩ => thn (q1.run pins s1 I1) fun u s2 ⟨y, H2, I2, r2, q2⟩ => by
    obtain ⟨r, hr, q⟩ := q2.ex
    exact hr a b pins s2 σ H2 x y v u Q I2 r1 r2 q (hs _ _))⟩
theorem ix_l {p : Addr} {xs : List V} {i : Int} {v : V} (h : SqL X.K H p xs) (hv : atI xs i = some v) (q : Q v H) : WX X (.ref p) (.int i) σ H Q := ⟨_, ix_list, _, _, _, _, rfl, rfl, h, hv, q⟩
theorem ix_t {p : Addr} {xs : List V} {i : Int} {v : V} (h : SqT X.K H p xs) (hv : atI xs i = some v) (q : Q v H) : WX X (.ref p) (.int i) σ H Q := ⟨_, ix_tup, _, _, _, _, rfl, rfl, h, hv, q⟩
theorem ix_s {z : Str} {i : Int} {c : Nat} (h : z.length ≤ sizeLine) (hv : atI z.cps.toList i = some c) (q : Q (.str ⟨#[c]⟩) H) : WX X (.str z) (.int i) σ H Q := ⟨_, ix_str, _, _, _, rfl, rfl, h, hv, q⟩
theorem wp_none {Q : Option Int → Hp → Prop} (q : Q none H) : WPt X none σ H Q := ⟨fun pins s I => po_none.run pins s σ H Q I q⟩
theorem wp_some {Q : Option Int → Hp → Prop} (h : WE X e σ H fun x H1 => ∃ i, x = .int i ∧ Q (some i) H1) : WPt X (some e) σ H Q := ⟨fun pins s I => (po_some pe_w).run pins s σ H Q I h⟩
theorem w_slice (h : WE X e σ H fun x H1 => WPt X lo σ H1 fun l H2 => WPt X hi σ H2 fun u H3 => WSl X x l u σ H3 Q) : WE X (.Subscript e (.Slice lo hi none p2) pos) σ H Q := by
  have hr : SlR X fun x l u H Q => ∀ σ, WSl X x l u σ H Q := by
    intro pins s σ H x v vl vu lo hi sl Q I rx hs pl pu q
    obtain ⟨r, h, q⟩ := (q σ).ex
    exact h pins s σ H x v vl vu lo hi sl Q I rx hs pl pu q
  refine ⟨fun pins s I => ?_⟩
  refine Subscript_ (thn (h.run pins s I) fun v s1 ⟨x, H1, I1, r1, q1⟩ => ?_)
  refine wpAny_Slice (thn (q1.run pins s1 I1) fun vl s2 ⟨l, H2, I2, pl, q2⟩ => thn (q2.run pins s2 I2) fun vu s3 ⟨u, H3, I3, pu, q3⟩ => ?_)
  rw [evalPart_none]
  refine wpAny_pure ?_
  have I4 : Inv X pins σ H3 { s3 with heap := s3.heap.push { cls := .type "slice", data := .fields #[vl, vu, .none] } } := I3.kept (t' := s3.toks) fun b ob q => Heap.get?_push_of_some _ q
  obtain ⟨r, hr', q4⟩ := q3.ex
  obtain ⟨T, id, hT, ht, hg⟩ := hr' pins { s3 with heap := s3.heap.push { cls := .type "slice", data := .fields #[vl, vu, .none] } } σ H3 x v vl vu l u s3.heap.objs.size Q I4 r1 (Heap.IsSliceOf.new ..) pl pu q4
  show wpAny (model X.prog X.w) X.A (subscriptTail e (.Slice lo hi none p2) v (.ref s3.heap.objs.size)) (EP X pins σ Q) X.xe { s3 with heap := s3.heap.push { cls := .type "slice", data := .fields #[vl, vu, .none] } }
  exact tail_any (ops := [.ref s3.heap.objs.size, v]) ht hT hg (by with_unfolding_all rfl)
theorem sl_l {p : Addr} {xs : List V} {l u : Option Int} (h : SqL X.K H p xs) (q : ∀ p' H', H p' = none → Same H H' → H' p' = some (.lst (cutV xs l u)) → Q (.ref p') H') : WSl X (.ref p) l u σ H Q := ⟨_, sl_list, _, _, rfl, h, newly' (Q := fun p H' => Q (.ref p) H') q⟩
theorem sl_s {z : Str} {l u : Option Int} (h : z.length ≤ sizeLine) (q : Q (.str (cutS z l u)) H) : WSl X (.str z) l u σ H Q := ⟨_, sl_str, _, rfl, h, q⟩
end

/-! ### statements -/
section
variable {X : Cx} {N L S G B : List Str} {e c : Expr} {st : Stmt} {rest a b : List Stmt} {σ : L2.St} {H : Hp} {D : Ends} {pos : Pos} {x : Str}
theorem wl_nil (q : D.nx σ H) : WL X [] D σ H := pss_nil.w q
theorem wl_cons (h : WS X st { D with nx := fun σ' H' => WL X rest D σ' H' } σ H) : WL X (st :: rest) D σ H := (pss_cons ps_w pss_w).w h
theorem ws_pass (q : D.nx σ H) : WS X (.Pass pos) D σ H := ps_pass.w q
theorem ws_break (q : D.bk σ H) : WS X (.Break pos) D σ H := ps_break.w q
theorem ws_continue (q : D.ct σ H) : WS X (.Continue pos) D σ H := ps_continue.w q
theorem ws_doc {z j p'} (q : D.nx σ H) : WS X (.Expr (.Constant (.str z) j pos) p') D σ H := ps_doc.w q
theorem ws_expr (h : WE X e σ H fun _ H1 => D.nx σ H1) (hs : swapsWith e none pos.line X.env = pure false := by with_unfolding_all rfl) : WS X (.Expr e pos) D σ H := (ps_expr pe_w hs).w h
theorem ws_ret (h : WE X e σ H D.rt) : WS X (.Return (some e) pos) D σ H := (ps_ret pe_w).w h
theorem ws_retN (q : D.rt .non H) : WS X (.Return none pos) D σ H := ps_retN.w q
theorem ws_if (h : WT X c σ H fun k H1 => if k = true then WL X a D σ H1 else WL X b D σ H1) : WS X (.If c a b pos) D σ H := (ps_if pt_w pss_w pss_w).w h
theorem ws_set {p' : Pos} (c : Nm X N L S G B) (m : Mb x S) (h : WE X e σ H fun v H1 => ∃ σ', Put N σ x v σ' ∧ D.nx σ' H1) (hs : swapsWith e (some (.Name x p')) pos.line X.env = pure false := by with_unfolding_all rfl) : WS X (.Assign [.Name x p'] e pos) D σ H := by
  obtain ⟨a, b⟩ := c.sto x m.mem
  refine ⟨fun pins s I => ?_⟩
  refine wpAny_Assign_Name (thn (h.run pins s I) fun v s1 ⟨y, H1, I1, r1, σ', hp, q⟩ => ?_) hs
  obtain ⟨i, hi, rfl⟩ := hp.ix
  exact store_ok I1 (by rw [c.names]; exact c.nd) (by rw [c.names]; exact hi) a r1 (fun s2 I2 => ⟨_, H1, I2, q⟩) b
theorem ws_asg {tg : Expr} (h : WE X e σ H fun v H1 => WG X tg v σ H1 D.nx) (hs : swapsWithSole [tg] e pos.line X.env = pure false := by with_unfolding_all rfl) (hw : swappedStores [tg] e X.env = pure none := by with_unfolding_all rfl)
    (h1 : (assignEach [tg] X.env).map (·.2) = [assign tg X.env] := by with_unfolding_all rfl) : WS X (.Assign [tg] e pos) D σ H := (ps_asg pe_w pg_w hs hw h1).w h
/-- a, b = e, f with plain local names -/
theorem ws_par {y : Str} {ea eb : Expr} {px py pt : Pos} {kt k2 pt2} (c : Nm X N L S G B) (hx : X.env.scope.names.lookup x = some .local) (hy : X.env.scope.names.lookup y = some .local) (hxy : x ≠ y)
    (h : WE X ea σ H fun v H1 => WE X eb σ H1 fun w H2 => ∃ σ1 σ2, Put N σ x v σ1 ∧ Put N σ1 y w σ2 ∧ D.nx σ2 H2)
    (hw : swappedStores [.Tuple [.Name x px, .Name y py] kt pt] (.Tuple [ea, eb] k2 pt2) X.env = pure (some [x, y]))
    (hs : swapsWithSole [.Tuple [.Name x px, .Name y py] kt pt] (.Tuple [ea, eb] k2 pt2) pos.line X.env = pure false := by with_unfolding_all rfl)
    (h1 : starEach [ea, eb] X.env = (false, eval ea X.env) :: starEach [eb] X.env := by with_unfolding_all rfl) (h2 : starEach [eb] X.env = (false, eval eb X.env) :: starEach [] X.env := by with_unfolding_all rfl)
    (ix : ∃ i j : Nat, N[i]? = some x ∧ N[j]? = some y) :
    WS X (.Assign [.Tuple [.Name x px, .Name y py] kt pt] (.Tuple [ea, eb] k2 pt2) pos) D σ H := by
  obtain ⟨i, j, hi, hj⟩ := ix
  have nd : X.N.Nodup := by rw [c.names]; exact c.nd
  have hi' : X.N[i]? = some x := by rw [c.names]; exact hi
  have hj' : X.N[j]? = some y := by rw [c.names]; exact hj
  have hij : i ≠ j := fun z => by
    rw [z, hj'] at hi'
    exact hxy (Option.some.inj hi').symm
  refine (ps_par (i := i) (j := j) c.calm nd hi' hj' hij hx hy (pa_cons pe_w (pa_cons pe_w pa_nil h2) h1) hw hs).w ?_
  refine WE.imp h fun v H1 h1 => WE.imp h1 fun w H2 ⟨σ1, σ2, p1, p2, q⟩ => ⟨v, w, rfl, ?_⟩
  obtain ⟨i', hi2, rfl⟩ := p1.ix
  obtain ⟨j', hj2, rfl⟩ := p2.ix
  have ei : i' = i := nodup_ix nd (by rw [c.names]; exact hi2) hi'
  have ej : j' = j := nodup_ix nd (by rw [c.names]; exact hj2) hj'
  subst ei ej
  exact q
theorem ws_never (h : False) : WS X st D σ H := h.elim
/-- targets -/
theorem wgs_nil {Q : L2.St → Hp → Prop} (q : Q σ H) : WGs X [] [] σ H Q := pgs_nil.w ⟨rfl, q⟩
theorem wgs_cons {Q : L2.St → Hp → Prop} {es : List Expr} {v : V} {vs : List V} (h : WG X e v σ H fun σ' H' => WGs X es vs σ' H' Q) (hs : (assignEach (e :: es) X.env).map (·.2) = assign e X.env :: (assignEach es X.env).map (·.2) := by with_unfolding_all rfl) : WGs X (e :: es) (v :: vs) σ H Q :=
  (pgs_cons pg_w pgs_w hs).w ⟨v, vs, rfl, h⟩
theorem wg_tup {Q : L2.St → Hp → Prop} {es : List Expr} {k} {p : Addr} {xs : List V} (c : Nm X N L S G B) (h : SqT X.K H p xs) (q : WGs X es xs σ H Q) (hn : (assignEach es X.env).length = xs.length := by with_unfolding_all rfl) (hst : (assignEach es X.env).findIdx? (·.1) = none := by with_unfolding_all rfl) :
    WG X (.Tuple es k pos) (.ref p) σ H Q := (pg_tup c.calm pgs_w hn hst).w ⟨p, xs, rfl, h, rfl, q⟩
theorem wg_lst {Q : L2.St → Hp → Prop} {es : List Expr} {k} {p : Addr} {xs : List V} (c : Nm X N L S G B) (h : SqL X.K H p xs) (q : WGs X es xs σ H Q) (hn : (assignEach es X.env).length = xs.length := by with_unfolding_all rfl) (hst : (assignEach es X.env).findIdx? (·.1) = none := by with_unfolding_all rfl) :
    WG X (.Tuple es k pos) (.ref p) σ H Q := (pg_lst c.calm pgs_w hn hst).w ⟨p, xs, rfl, h, rfl, q⟩
/-- o[i] = v of a list -/
theorem wg_subL {Q : L2.St → Hp → Prop} {o i : Expr} {v : V} (h : WE X o σ H fun x H1 => WE X i σ H1 fun y H2 => ∃ l xs k j, x = .ref l ∧ y = .int k ∧ H2 l = some (.lst xs) ∧ ixN xs.length k = some j ∧ Q σ (upd H2 l (.lst (xs.set j v))))
    (ha : ∀ v, assign (.Subscript o i pos) X.env v = (do
      let ov ← holding [v] (eval o X.env)
      let iv ← holding [v, ov] (eval i X.env)
      standAt pos
      holding [v, ov, iv] (setItem ov iv v)
      release [v, ov, iv] []) := by intro _; with_unfolding_all rfl) : WG X (.Subscript o i pos) v σ H Q := (pg_sub pe_w pe_w set_list ha).w h
/-- o.f = e -/
theorem ws_fld {o e : Expr} {f : Str} {p' : Pos} (h : WE X e σ H fun y H1 => WE X o σ H1 fun x H2 => ∃ a C dx fs, x = .ref a ∧ H2 a = some (.ins C dx fs) ∧ Cls X.K C ∧ NoAttr X.K C f ∧ fs.length < 1000 ∧ D.nx σ (upd H2 a (.ins C dx (putF f y fs))))
    (hs : swapsWith e (some (.Attribute o f p')) pos.line X.env = pure false := by with_unfolding_all rfl) : WS X (.Assign [.Attribute o f p'] e pos) D σ H := (ps_fld pe_w pe_w hs).w h
/-- x op= e -/
theorem ws_aug {p' : Pos} {op : Operator} {v : V} (c : Nm X N L S G B) (m : Mb x S) (h0 : At N σ x v) (h : WE X e σ H fun w H1 => WB X (inplaceOp op) v w σ H1 fun z H2 => ∃ σ', Put N σ x z σ' ∧ D.nx σ' H2) : WS X (.AugAssign (.Name x p') op e pos) D σ H := by
  obtain ⟨a, b⟩ := c.sto x m.mem
  obtain ⟨i, h1, h2⟩ := h0.ix
  have nd : X.N.Nodup := by rw [c.names]; exact c.nd
  have h1' : X.N[i]? = some x := by rw [c.names]; exact h1
  have hip : PIp X op fun x y H Q => ∀ σ, WB X (inplaceOp op) x y σ H Q := fun pins s σ H x y v u Q I rx ry q => (q σ).run pins s v u I rx ry
  refine ⟨fun pins s I => ?_⟩
  obtain ⟨mm, hn, hl⟩ := I.loc
  have vis : Vis X.env.scope x := by rcases a with k | k; exact .inl k; exact .inr (.inl k)
  obtain ⟨u, r, l⟩ := hl i x v h1' h2 vis
  refine wpAny_AugAssign_Name ?_
  have go : wpAny (model X.prog X.w) X.A (eval e X.env) (fun w s₂ => wpAny (model X.prog X.w) X.A (inplaceOp op u w) (fun r s₃ => wpAny (model X.prog X.w) X.A (storeName X.env x r) (fun _ => SP X pins D .next) X.xe s₃) X.xe s₂) X.xe s := by
    refine thn (h.run pins s I) fun w s1 ⟨y, H1, I1, r1, q1⟩ => ?_
    refine thn (q1.run pins s1 u w I1 r r1) fun z s2 ⟨zv, H2, I2, r2, σ', hp, q2⟩ => ?_
    obtain ⟨i', hi2, rfl⟩ := hp.ix
    exact store_ok I2 nd (by rw [c.names]; exact hi2) a r2 (fun s3 I3 => ⟨_, H2, I3, q2⟩) b
  rcases l with ⟨hk, hm⟩ | ⟨hk, c', hc, hcell⟩
  · exact wpAny_loadName_local I.ok.kind hk hn hm go
  · rcases hk with hk | hk
    · exact wpAny_loadName_cell I.ok.kind hk hc hcell go
    · rcases a with k | k
      · have : X.env.scope.names.lookup x = some .free := hk
        rw [k] at this; cases this
      · have : X.env.scope.names.lookup x = some .free := hk
        rw [k] at this; cases this
theorem i_add {i j : Int} {Q : VK} (q : Q (.int (i + j)) H) : WB X (inplaceOp .Add) (.int i) (.int j) σ H Q := iop_add.w ⟨_, _, rfl, rfl, q⟩
theorem i_sub {i j : Int} {Q : VK} (q : Q (.int (i - j)) H) : WB X (inplaceOp .Sub) (.int i) (.int j) σ H Q := iop_sub.w ⟨_, _, rfl, rfl, q⟩
end
/-- a branch by its known bool, by a decided one -/
theorem if_dec {p : Prop} [Decidable p] {A B : Prop} (h1 : p → A) (h2 : ¬ p → B) : if decide p = true then A else B := by
  by_cases h : p
  · rw [decide_eq_true h, if_pos rfl]; exact h1 h
  · rw [decide_eq_false h, if_neg (by decide)]; exact h2 h
theorem if_ndec {p : Prop} [Decidable p] {A B : Prop} (h1 : ¬ p → A) (h2 : p → B) : if (!decide p) = true then A else B := by
  by_cases h : p
  · rw [decide_eq_true h]; exact h2 h
  · rw [decide_eq_false h]; exact h1 h
end Sv

namespace Sv
open PySem PySem.Spec PyProof.Rows L2

/-! ### walks that hand out new tuples -/
def Itg (n : Nat) (xs : Nat → List V) : It := ⟨fun i _ => i < n, fun i H v H' => i < n ∧ ∃ T, v = .ref T ∧ H T = none ∧ H' = upd H T (.tup (xs i)), fun i _ => n ≤ i⟩
theorem turn_goes {P : Program} {w : World} {K : PySem.W.Frag} {elts : List Expr} {kk : Nat} {tpos : Pos} {I : Addr} {fp wr : List Addr} {n : Nat} {St : Nat → Heap → Prop} {xs : Nat → List V}
    (W : ∀ A : Around, A.handled = none → ∃ Y, GoesN P w A (.Tuple elts kk tpos) I fp wr n Y St ∧ ∀ i h0 v h, i < n → Y i h0 v h → ∃ T vals, v = .ref T ∧ h0.objs.size ≤ T ∧ Vals (xs i) vals.toList ∧ h.IsTuple T vals)
    (hz : ∀ i, i < n → (xs i).length ≤ sizeLine) (mem : I ∈ fp) (obj : ∀ i h, St i h → ∀ b ∈ fp, ∃ o, h.get? b = some o ∧ ∀ v, o.data ≠ .cell v)
    (fr : ∀ i h h', St i h → (∀ b ∈ fp, ∀ o, h.get? b = some o → h'.get? b = some o) → St i h')
    (sf : ∀ (A : Around) (i : Nat) (s : Shared) (Q : Value → Shared → Prop) (E : Value → Shared → Prop), St i s.heap → Q (.ref I) s → wpAny (model P w) A (pyIter (.ref I)) Q E s) :
    Turn P w K (.Tuple elts kk tpos) (Itg n xs) fp I (fun i h => i ≤ n ∧ St i h) where
  mem := mem
  obj := fun i h st b hb => obj i h st.2 b hb
  keep := fun i h h' st k => ⟨st.1, fr i h h' st.2 k⟩
  item := by
    intro X hP hw hK hc i pins s σ H E I0 hf st hg
    subst hP hw hK
    obtain ⟨Y, G, hY⟩ := W X.A (I0.ok.hd hc)
    have hi : i < n := hg
    refine thn (G.goes i s (fun u s2 => ∃ x H', Inv X pins σ H' s2 ∧ RelV x u ∧ (Itg n xs).yld i H x H' ∧ (i + 1 ≤ n ∧ St (i + 1) s2.heap) ∧ ∀ b ∈ fp, H' b = none) E hi st.2 fun v h' tk y st' k _ => ?_) fun r s1 h => h
    obtain ⟨T, vals, rfl, hT, rv, ht⟩ := hY i s.heap v h' hi y
    have hwf : ∀ b ∈ wr, b ∈ fp := G.sub
    have new : ObjOk X.prog X.w (upd H T (.tup (xs i))) h' T (.tup (xs i)) := ⟨hz i hi, vals.toList, rv, by
      obtain ⟨o, ho, hcl, m, hd⟩ := ht
      exact ⟨o, ho, hcl, m, by simpa using hd⟩⟩
    have I1 : Inv X pins σ (upd H T (.tup (xs i))) { s with heap := h', toks := tk } :=
      I0.turnedNew (ch := fp) (fun b ob hb q => k b ob (fun z => hb (hwf b z)) q) hf hT new
    refine ⟨.ref T, _, I1, rfl, ⟨hi, T, rfl, I0.hok.fresh hT, rfl⟩, ⟨hi, st'⟩, fun b hb => ?_⟩
    obtain ⟨o, ho, _⟩ := obj i s.heap st.2 b hb
    rw [upd_ne (Nat.ne_of_lt (Nat.lt_of_lt_of_le (Heap.lt_size ho) hT))]
    exact (hf b hb).1
  done := by
    intro X hP hw hK hc i pins s σ H E I0 hf st hg
    subst hP hw hK
    obtain ⟨Y, G, hY⟩ := W X.A (I0.ok.hd hc)
    have hi : n ≤ i := hg
    have e : i = n := Nat.le_antisymm st.1 hi
    subst e
    refine thn (G.stops s (fun s1 => Inv X pins σ H s1) E st.2 fun h' tk k _ => ?_) fun r s1 h => h
    have hwf : ∀ b ∈ wr, b ∈ fp := G.sub
    refine I0.step (g' := s.gens) (d' := s.drawn) (ch := fp) (fun b hb => ⟨(hf b hb).2.2.2.1, (hf b hb).2.1, (hf b hb).2.2.2.2.1, (hf b hb).2.2.2.2.2⟩) (fun b o _ _ hc e _ => k b o (fun z => hc (hwf b z)) e) (fun b o _ _ hc e _ => ⟨o.slots, k b o (fun z => hc (hwf b z)) e⟩) (fun _ _ _ _ n => n)
      (fun b o hc e => ⟨o, k b o (fun z => hc (hwf b z)) e⟩) (fun _ _ e => e) (fun _ _ _ e => e) (fun b ps e => ⟨#[], by rw [e]; simp⟩) (fun m hm => ?_) (fun b u e => ?_) I0.bare
    · obtain ⟨o, es, ep, ho, r⟩ := hm
      exact ⟨o, es, ep, k _ o (fun z => (hf _ (hwf _ z)).2.1 rfl) ho, r⟩
    · refine (I0.hok b u e).stay (fun c v hc q => k c v (fun z => ?_) q) (fun _ q => q) fun _ _ q => q
      have hn := (hf c (hwf c z)).1
      rcases hc with rfl | hc
      · rw [hn] at e; cases e
      · rw [hn] at hc; cases hc
  self := fun A i s Q E st h => sf A i s Q E st.2 h

/-- the signs of a text, numbered -/
def signAt (x : Str) (i : Nat) : V := .str ⟨#[x.cps.getD i 0]⟩
def iEnumS (ta : TA) : TI := fun σ H R => ta σ H fun vs H1 => ∃ x, vs = [.str x] ∧ R (Itg x.cps.size fun i => [.int (i : Nat), signAt x i]) H1
theorem pi_enumS {X : Cx} {e : Expr} {ta : TA} {p pos tpos : Pos} {elts : List Expr} {kk : Nat} (hg : Gl X "enumerate") (hm : X.mg "enumerate" = none) (ha : PA X [e] ta) (hs : starEach [e] X.env = [(false, eval e X.env)] := by with_unfolding_all rfl) :
    PI X (.Tuple elts kk tpos) (.Call (.Name "enumerate" p) [e] [] pos) (iEnumS ta) := by
  refine ⟨fun pins s σ H R I h => ?_⟩
  refine Call_ (ld_blt I hg hm boot_enumerate (PyProof.Rows.callWith_type1 (thn (ha.run pos pins s σ H _ I h) fun us s1 ⟨vs, H1, I1, r1, q1⟩ => ?_) hs rfl))
  obtain ⟨x, ex, q⟩ := q1
  subst ex
  cases r1 with
  | cons r rr =>
    cases rr
    obtain ⟨t, rfl⟩ := r
    refine call_enumerate_str fun h' he hit hsz hk => wpAny_pyIter_enum he ?_
    have I2 : Inv X pins σ H1 { s1 with heap := h' } := I1.kept (t' := s1.toks) hk
    have T := turn_goes (P := X.prog) (w := X.w) (K := X.K) (elts := elts) (kk := kk) (tpos := tpos) (I := s1.heap.objs.size + 1) (fp := [s1.heap.objs.size + 1, s1.heap.objs.size]) (n := x.cps.size) (xs := fun i => [.int (i : Nat), signAt x i])
      (fun A hA => ⟨_, GoesN.enumFrom (elts := elts) (x1 := kk) (pos := tpos) 0 (Draws.text (A := A.in1) hA s1.heap.objs.size x t) (s1.heap.objs.size + 1) (Nat.succ_ne_self _) (by simp) (by simp), fun i h0 v h hi ⟨T, tk, y, ev, hn, ⟨c, u, hc, ey⟩, hT⟩ => ⟨T, _, ev, hn, .cons ⟨tk, by simp⟩ (.cons ⟨u, by rw [ey, Array.getD_eq_getD_getElem?, hc]; rfl⟩ .nil), hT⟩⟩)
      (fun i _ => by show 2 ≤ sizeLine; decide) (by simp) (fun i h st b hb => ?_) (fun i h h' st k => ?_) (fun A i s Q E st h => let ⟨⟨_, he⟩, _⟩ := st; wpAny_pyIter_enum he h)
    · refine ⟨_, _, _, _, H1, rfl, I2, T, ⟨Nat.zero_le _, ⟨.none, by simpa using he⟩, hit⟩, fun b hb => ?_, q⟩
      have e' : b = s1.heap.objs.size + 1 ∨ b = s1.heap.objs.size := by simpa using hb
      have hle : s1.heap.objs.size ≤ b := by
        rcases e' with z | z
        · rw [z]; exact Nat.le_add_right _ _
        · rw [z]; exact Nat.le_refl _
      exact I1.fpOk hle (I1.hok.fresh hle)
    · obtain ⟨⟨old, he⟩, ⟨o, ho, hc, hd⟩⟩ := st
      have e' : b = s1.heap.objs.size + 1 ∨ b = s1.heap.objs.size := by simpa using hb
      rcases e' with z | z
      · rw [z]; exact ⟨_, he, fun v q => nomatch q⟩
      · rw [z]; exact ⟨o, ho, fun v q => by rw [hd] at q; cases q⟩
    · obtain ⟨⟨old, he⟩, o, ho, hc, hd⟩ := st
      exact ⟨⟨old, k _ (by simp) _ he⟩, o, k _ (by simp) o ho, hc, hd⟩

/-! ### what is walked -/
structure WI (X : Cx) (tg iter : Expr) (σ : L2.St) (H : Hp) (R : It → Hp → Prop) : Prop where
  run : ∀ (pins : List (Addr × Obj)) (s : Shared), Inv X pins σ H s → wpAny (model X.prog X.w) X.A (eval iter X.env) (fun v s1 => wpAny (model X.prog X.w) X.A (pyIter v) (PIE X pins σ tg R) X.xe s1) X.xe s
theorem pi_w {X : Cx} {tg iter : Expr} : PI X tg iter (WI X tg iter) := ⟨fun pins s _ _ _ I h => h.run pins s I⟩
theorem _root_.L2.PI.w {X : Cx} {tg iter : Expr} {t : TI} {σ : L2.St} {H : Hp} {R : It → Hp → Prop} (h : PI X tg iter t) (q : t σ H R) : WI X tg iter σ H R := ⟨fun pins s I => h.run pins s σ H R I q⟩
/-- J walks n items, the i-th it i, while what stood in H1 stands -/
structure Wlk (J : It) (n : Nat) (it : Nat → V) (H1 : Hp) : Prop where
  go : ∀ i H, i < n → Same H1 H → J.go i H
  yld : ∀ i H v H', i < n → Same H1 H → J.yld i H v H' → v = it i ∧ H' = H
  stop : ∀ i H, n ≤ i → Same H1 H → J.stop i H
/-- the same, each item a new tuple -/
structure WlkT (J : It) (n : Nat) (it : Nat → List V) (H1 : Hp) : Prop where
  go : ∀ i H, i < n → Same H1 H → J.go i H
  yld : ∀ i H v H', i < n → Same H1 H → J.yld i H v H' → ∃ T, v = .ref T ∧ H T = none ∧ H' = upd H T (.tup (it i))
  stop : ∀ i H, n ≤ i → Same H1 H → J.stop i H
theorem wlk_list {K : PySem.W.Frag} {a : Addr} {xs : List V} {H1 : Hp} (h : SqL K H1 a xs) : Wlk (Itl K a) xs.length (fun i => xs.getD i .non) H1 where
  go := fun i H hi e => ⟨xs, xs[i], Same.seq e h, by simp [hi]⟩
  yld := fun i H v H' hi e y => ⟨by have := y.2 xs (Same.seq e h); rw [List.getD_eq_getElem?_getD, this]; rfl, y.1⟩
  stop := fun i H hi e => ⟨xs, Same.seq e h, hi⟩
theorem wlk_tup {K : PySem.W.Frag} {a : Addr} {xs : List V} {H1 : Hp} (h : SqT K H1 a xs) : Wlk (Itt K a) xs.length (fun i => xs.getD i .non) H1 where
  go := fun i H hi e => ⟨xs, xs[i], same_t e h, by simp [hi]⟩
  yld := fun i H v H' hi e y => ⟨by have := y.2 xs (same_t e h); rw [List.getD_eq_getElem?_getD, this]; rfl, y.1⟩
  stop := fun i H hi e => ⟨xs, same_t e h, hi⟩
theorem wlk_range {lo : Int} {n : Nat} {H1 : Hp} : Wlk (Itr lo n) n (fun i => .int (lo + (i : Nat))) H1 where
  go := fun i H hi e => hi
  yld := fun i H v H' hi e y => ⟨y.2, y.1⟩
  stop := fun i H hi e => hi
theorem wlk_str {x : Str} {H1 : Hp} : Wlk (Its x) x.cps.size (signAt x) H1 where
  go := fun i H hi e => hi
  yld := fun i H v H' hi e y => by
    obtain ⟨e1, c, hc, ev⟩ := y
    refine ⟨?_, e1⟩
    rw [ev]
    unfold signAt
    rw [Array.getD_eq_getD_getElem?, hc]; rfl
  stop := fun i H hi e => hi
theorem wlk_g {n : Nat} {xs : Nat → List V} {H1 : Hp} : WlkT (Itg n xs) n xs H1 where
  go := fun i H hi e => hi
  yld := fun i H v H' hi e y => y.2
  stop := fun i H hi e => hi
theorem wlk_enum {K : PySem.W.Frag} {a : Addr} {xs : List V} {H1 : Hp} (h : SqL K H1 a xs) : WlkT (Ite K a) xs.length (fun i => [.int (i : Nat), xs.getD i .non]) H1 where
  go := fun i H hi e => ⟨xs, xs[i], Same.seq e h, by simp [hi]⟩
  yld := fun i H v H' hi e y => by
    obtain ⟨T, x, ev, hT, eH, hx⟩ := y
    have := hx xs (Same.seq e h)
    exact ⟨T, ev, hT, by rw [eH, List.getD_eq_getElem?_getD, this]; rfl⟩
  stop := fun i H hi e => ⟨xs, Same.seq e h, hi⟩
theorem wlk_zip {K : PySem.W.Frag} {a b : Addr} {xs ys : List V} {H1 : Hp} (h : SqL K H1 a xs) (h' : SqL K H1 b ys) : WlkT (Itz K a b) (min xs.length ys.length) (fun i => [xs.getD i .non, ys.getD i .non]) H1 where
  go := fun i H hi e => ⟨xs, ys, xs[i]'(by omega), ys[i]'(by omega), Same.seq e h, Same.seq e h', by simp [show i < xs.length by omega], by simp [show i < ys.length by omega]⟩
  yld := fun i H v H' hi e y => by
    obtain ⟨T, x, z, ev, hT, eH, hx, hy⟩ := y
    have e1 := hx xs (Same.seq e h)
    have e2 := hy ys (Same.seq e h')
    exact ⟨T, ev, hT, by rw [eH, List.getD_eq_getElem?_getD, List.getD_eq_getElem?_getD, e1, e2]; rfl⟩
  stop := fun i H hi e => ⟨xs, ys, Same.seq e h, Same.seq e h', by omega⟩
section
variable {X : Cx} {N L S G B : List Str} {tg e a b : Expr} {σ : L2.St} {H : Hp} {R : It → Hp → Prop} {p pos : Pos}
theorem wi_list (h : WE X e σ H fun x H1 => ∃ a xs, x = .ref a ∧ SqL X.K H1 a xs ∧ R (Itl X.K a) H1) : WI X tg e σ H R := (pi_list pe_w).w (WE.imp h fun x H1 ⟨a, xs, e, h, q⟩ => ⟨a, e, ⟨xs, h⟩, q⟩)
theorem wi_tup (h : WE X e σ H fun x H1 => ∃ a xs, x = .ref a ∧ SqT X.K H1 a xs ∧ R (Itt X.K a) H1) : WI X tg e σ H R := (pi_tup pe_w).w (WE.imp h fun x H1 ⟨a, xs, e, h, q⟩ => ⟨a, e, ⟨xs, h⟩, q⟩)
theorem wi_str (h : WE X e σ H fun x H1 => ∃ z, x = .str z ∧ R (Its z) H1) : WI X tg e σ H R := (pi_str pe_w).w h
theorem wi_range1 (c : Nm X N L S G B) (m : Mb "range" B) (h : WE X a σ H fun x H1 => ∃ j : Int, x = .int j ∧ -(2 ^ 62) ≤ j ∧ j < 2 ^ 62 ∧ R (Itr 0 j.toNat) H1) (hs : starEach [a] X.env = [(false, eval a X.env)] := by with_unfolding_all rfl) : WI X tg (.Call (.Name "range" p) [a] [] pos) σ H R :=
  (pi_range1 (c.bgl _ m.mem).1 (c.blt _ m.mem) (pa_cons pe_w pa_nil hs) hs).w (WE.imp h fun x H1 ⟨j, e, h⟩ => ⟨j, by rw [e], h⟩)
theorem wi_range2 (c : Nm X N L S G B) (m : Mb "range" B) (h : WE X a σ H fun x H1 => WE X b σ H1 fun y H2 => ∃ i j : Int, x = .int i ∧ y = .int j ∧ (-(2 ^ 62) ≤ i ∧ i < 2 ^ 62 ∧ -(2 ^ 62) ≤ j ∧ j < 2 ^ 62) ∧ R (Itr i (j - i).toNat) H2) (hs : starEach [a, b] X.env = [(false, eval a X.env), (false, eval b X.env)] := by with_unfolding_all rfl) (hs2 : starEach [b] X.env = [(false, eval b X.env)] := by with_unfolding_all rfl) :
    WI X tg (.Call (.Name "range" p) [a, b] [] pos) σ H R :=
  (pi_range2 (c.bgl _ m.mem).1 (c.blt _ m.mem) (pa_cons pe_w (pa_cons pe_w pa_nil hs2) (hs.trans (by rw [hs2]))) hs hs2).w (WE.imp h fun x H1 h1 => WE.imp h1 fun y H2 ⟨i, j, e1, e2, h⟩ => ⟨i, j, by rw [e1, e2], h⟩)
theorem wi_enumS {elts : List Expr} {kk : Nat} {tpos : Pos} (c : Nm X N L S G B) (m : Mb "enumerate" B) (h : WE X a σ H fun x H1 => ∃ z, x = .str z ∧ R (Itg z.cps.size fun i => [.int (i : Nat), signAt z i]) H1) (hs : starEach [a] X.env = [(false, eval a X.env)] := by with_unfolding_all rfl) :
    WI X (.Tuple elts kk tpos) (.Call (.Name "enumerate" p) [a] [] pos) σ H R :=
  (pi_enumS (c.bgl _ m.mem).1 (c.blt _ m.mem) (pa_cons pe_w pa_nil hs) hs).w (WE.imp h fun x H1 ⟨j, e, h⟩ => ⟨j, by rw [e], h⟩)
theorem wi_enumL {elts : List Expr} {kk : Nat} {tpos : Pos} (c : Nm X N L S G B) (m : Mb "enumerate" B) (h : WE X a σ H fun x H1 => ∃ l xs, x = .ref l ∧ SqL X.K H1 l xs ∧ R (Ite X.K l) H1) (hs : starEach [a] X.env = [(false, eval a X.env)] := by with_unfolding_all rfl) :
    WI X (.Tuple elts kk tpos) (.Call (.Name "enumerate" p) [a] [] pos) σ H R :=
  (pi_enum (c.bgl _ m.mem).1 (c.blt _ m.mem) (pa_cons pe_w pa_nil hs) hs).w (WE.imp h fun x H1 ⟨l, xs, e, h, q⟩ => ⟨l, xs, by rw [e], h, q⟩)
theorem wi_zip {elts : List Expr} {kk : Nat} {tpos : Pos} (c : Nm X N L S G B) (m : Mb "zip" B) (h : WE X a σ H fun x H1 => WE X b σ H1 fun y H2 => ∃ l l' xs ys, x = .ref l ∧ y = .ref l' ∧ SqL X.K H2 l xs ∧ SqL X.K H2 l' ys ∧ R (Itz X.K l l') H2) (hs : starEach [a, b] X.env = [(false, eval a X.env), (false, eval b X.env)] := by with_unfolding_all rfl) (hs2 : starEach [b] X.env = [(false, eval b X.env)] := by with_unfolding_all rfl) :
    WI X (.Tuple elts kk tpos) (.Call (.Name "zip" p) [a, b] [] pos) σ H R :=
  (pi_zip (c.bgl _ m.mem).1 (c.blt _ m.mem) (pa_cons pe_w (pa_cons pe_w pa_nil hs2) (hs.trans (by rw [hs2]))) (hs.trans (by rw [hs2])) (by rw [hs2]; rfl)).w (WE.imp h fun x H1 h1 => WE.imp h1 fun y H2 ⟨l, l', xs, ys, e1, e2, h, h', q⟩ => ⟨l, l', xs, ys, by rw [e1, e2], h, h', q⟩)
end

/-! ### loops -/
section
variable {X : Cx} {N L S G B : List Str} {tg iter c : Expr} {body : List Stmt} {σ : L2.St} {H : Hp} {D : Ends} {pos : Pos}
/-- for: W over n items, an invariant -/
theorem ws_for (hp : PassesOwn (model X.prog X.w) X.A X.env X.xe) (hc : Nm X N L S G B)
    (h : WI X tg iter σ H fun J H1 => ∃ n it, Wlk J n it H1 ∧ ∃ Pv : Nat → L2.St → Hp → Prop, Pv 0 σ H1 ∧ (∀ i σ' H', Pv i σ' H' → Same H1 H') ∧
      (∀ i σ' H', i < n → Pv i σ' H' → WG X tg (it i) σ' H' fun σ2 H2 => WL X body { D with nx := Pv (i + 1), ct := Pv (i + 1), bk := D.nx } σ2 H2) ∧ ∀ σ' H', Pv n σ' H' → D.nx σ' H')
    (hs : ∀ x, foldedSetIterable iter X.env x = pure x := by intro _; with_unfolding_all rfl) : WS X (.For tg iter body [] pos) D σ H := by
  refine (ps_for hp hc.calm pi_w pg_w pss_w hs).w ?_
  refine ⟨fun pins s I => thn (h.run pins s I) fun v s1 h1 => thn h1 fun itv s2 ⟨it, fp, tn, J, H', e, I', T, t0, hf, n, itm, W, Pv, p0, hsm, hst, hd⟩ => ⟨it, fp, tn, J, H', e, I', T, t0, hf, ?_⟩⟩
  refine ⟨fun i m σ' H'' => m = n - i ∧ i ≤ n ∧ Pv i σ' H'', ⟨n, by simp, Nat.zero_le _, p0⟩, ?_⟩
  rintro i m σ' H'' ⟨rfl, hi, p⟩
  by_cases hlt : i < n
  · refine .inr ⟨W.go i H'' hlt (hsm _ _ _ p), Pv (i + 1), fun σ2 H2 p' => ⟨n - (i + 1), by omega, rfl, hlt, p'⟩, fun x H3 y => ?_⟩
    obtain ⟨rfl, rfl⟩ := W.yld i H'' x H3 hlt (hsm _ _ _ p) y
    exact hst i σ' _ hlt p
  · have e : i = n := by omega
    subst e
    exact .inl ⟨W.stop _ _ (Nat.le_refl _) (hsm _ _ _ p), hd _ _ p⟩
/-- .. each item a new tuple -/
theorem ws_forT (hp : PassesOwn (model X.prog X.w) X.A X.env X.xe) (hc : Nm X N L S G B)
    (h : WI X tg iter σ H fun J H1 => ∃ n it, WlkT J n it H1 ∧ ∃ Pv : Nat → L2.St → Hp → Prop, Pv 0 σ H1 ∧ (∀ i σ' H', Pv i σ' H' → Same H1 H') ∧
      (∀ i σ' H', i < n → Pv i σ' H' → ∀ T H'', H' T = none → Same H' H'' → H'' T = some (.tup (it i)) → WG X tg (.ref T) σ' H'' fun σ2 H2 => WL X body { D with nx := Pv (i + 1), ct := Pv (i + 1), bk := D.nx } σ2 H2) ∧ ∀ σ' H', Pv n σ' H' → D.nx σ' H')
    (hs : ∀ x, foldedSetIterable iter X.env x = pure x := by intro _; with_unfolding_all rfl) : WS X (.For tg iter body [] pos) D σ H := by
  refine (ps_for hp hc.calm pi_w pg_w pss_w hs).w ?_
  refine ⟨fun pins s I => thn (h.run pins s I) fun v s1 h1 => thn h1 fun itv s2 ⟨it, fp, tn, J, H', e, I', T, t0, hf, n, itm, W, Pv, p0, hsm, hst, hd⟩ => ⟨it, fp, tn, J, H', e, I', T, t0, hf, ?_⟩⟩
  refine ⟨fun i m σ' H'' => m = n - i ∧ i ≤ n ∧ Pv i σ' H'', ⟨n, by simp, Nat.zero_le _, p0⟩, ?_⟩
  rintro i m σ' H'' ⟨rfl, hi, p⟩
  by_cases hlt : i < n
  · refine .inr ⟨W.go i H'' hlt (hsm _ _ _ p), Pv (i + 1), fun σ2 H2 p' => ⟨n - (i + 1), by omega, rfl, hlt, p'⟩, fun x H3 y => ?_⟩
    obtain ⟨T, rfl, hT, rfl⟩ := W.yld i H'' x H3 hlt (hsm _ _ _ p) y
    exact hst i σ' _ hlt p T _ hT (same_new hT) upd_same
  · have e : i = n := by omega
    subst e
    exact .inl ⟨W.stop _ _ (Nat.le_refl _) (hsm _ _ _ p), hd _ _ p⟩
theorem ws_while (hp : PassesOwn (model X.prog X.w) X.A X.env X.xe) (Pv : Nat → L2.St → Hp → Prop) (m : Nat) (h0 : Pv m σ H)
    (hs : ∀ m σ' H', Pv m σ' H' → WT X c σ' H' fun k H1 => if k = true then WL X body { D with nx := fun σ2 H2 => ∃ m', m' < m ∧ Pv m' σ2 H2, ct := fun σ2 H2 => ∃ m', m' < m ∧ Pv m' σ2 H2, bk := D.nx } σ' H1 else D.nx σ' H1) : WS X (.While c body [] pos) D σ H :=
  (ps_while hp pt_w pss_w).w ⟨Pv, ⟨m, h0⟩, fun m σ' H' p => WT.imp (hs m σ' H' p) fun k H1 q => by
    cases k with
    | true => exact ⟨_, fun _ _ z => z, q⟩
    | false => exact q⟩
end
end Sv

namespace Sv
open PySem PySem.Spec PyProof.Rows L2

/-! ### comprehensions -/
/-- X' is the context of a block (of that scope) of X -/
def Blk (X : Cx) (scope : Scope) (X' : Cx) : Prop := ∃ (s : Shared) (H : Hp) (C : Addr) (cl : List (Str × Addr)) (fp : List Addr), X' = X.blk s H scope (compEnvC scope cl C X.env) fp
structure WTs (X : Cx) (ifs : List Expr) (σ : L2.St) (H : Hp) (Q : Bool → Hp → Prop) : Prop where
  run : ∀ (pins : List (Addr × Obj)) (s : Shared), Inv X pins σ H s →
    wpAny (model X.prog X.w) X.A (forIn ifs true fun c r => if r = true then do let ok ← isTrue c X.env (eval c X.env); pure (ForInStep.yield ok) else pure (ForInStep.yield r)) (TP X pins σ Q) X.xe s
theorem pts_w {X : Cx} {ifs : List Expr} : PTs X ifs (WTs X ifs) := ⟨fun pins s _ _ _ I h => h.run pins s I⟩
theorem wts_nil {X : Cx} {σ : L2.St} {H : Hp} {Q : Bool → Hp → Prop} (q : Q true H) : WTs X [] σ H Q := ⟨fun pins s I => pts_nil.run pins s σ H Q I q⟩
theorem wts_one {X : Cx} {c : Expr} {σ : L2.St} {H : Hp} {Q : Bool → Hp → Prop} (h : WT X c σ H Q) : WTs X [c] σ H Q := ⟨fun pins s I => (pts_one pt_w).run pins s σ H Q I h⟩
def WEb (X : Cx) (scope : Scope) (e : Expr) (σ : L2.St) (H : Hp) (Q : VK) : Prop := ∀ X', Blk X scope X' → WE X' e σ H Q
def WTb (X : Cx) (scope : Scope) (ifs : List Expr) (σ : L2.St) (H : Hp) (Q : Bool → Hp → Prop) : Prop := ∀ X', Blk X scope X' → WTs X' ifs σ H Q
def WGb (X : Cx) (scope : Scope) (tg : Expr) (v : V) (σ : L2.St) (H : Hp) (Q : L2.St → Hp → Prop) : Prop := ∀ X', Blk X scope X' → WG X' tg v σ H Q

/-- a list comprehension over W's items, by an invariant of the list so far; new objects may be made, nothing that stood changes -/
theorem lc_of {X : Cx} {N L S G B : List Str} {tg elt iter : Expr} {ifs : List Expr} {scope : Scope} {own : List (Str × Nat)} {σ : L2.St} {H : Hp} {Q : VK} (c : Nm X N L S G B) (P : Nat → List V → Prop)
    (h : WI X tg iter σ H fun J H1 => ∃ n it, Wlk J n it H1 ∧ n < sizeLine ∧ P 0 [] ∧
      (∀ i acc H', i < n → acc.length ≤ i → P i acc → Same H1 H' → WGb X scope tg (it i) (wipe σ (own.map (·.2))) H' fun σ2 H2 => H2 = H' ∧ wipe σ2 (own.map (·.2)) = wipe σ (own.map (·.2)) ∧ WTb X scope ifs σ2 H2 fun k H3 => Same H2 H3 ∧
        if k = true then WEb X scope elt σ2 H3 fun y H4 => Same H3 H4 ∧ P (i + 1) (acc ++ [y]) else P (i + 1) acc) ∧
      ∀ acc D H', acc.length ≤ n → P n acc → H1 D = none → Same H1 H' → H' D = some (.lst acc) → Q (.ref D) H') :
    tLc (WI X tg iter) (WGb X scope tg) (WTb X scope ifs) (WEb X scope elt) (own.map (·.2)) σ H Q := by
  refine ⟨fun pins s I => thn (h.run pins s I) fun v s1 h1 => thn h1 fun itv s2 ⟨it, fp, tn, J, H1, e, I', T, t0, hf, n, itm, W, hz, p0, hst, hd⟩ => ⟨it, fp, tn, J, H1, e, I', T, t0, hf, fun D hD => ?_⟩⟩
  refine ⟨fun i m H' => m = n - i ∧ i ≤ n ∧ ∃ acc, acc.length ≤ i ∧ P i acc ∧ Same H1 H' ∧ H' D = some (.lst acc), ⟨n, by simp, Nat.zero_le _, [], Nat.le_refl _, p0, same_new hD, upd_same⟩, ?_⟩
  rintro i m H' ⟨rfl, hi, acc, hl, hp, hsm, hDa⟩
  by_cases hlt : i < n
  · refine .inr ⟨W.go i H' hlt hsm, fun H2 => i + 1 ≤ n ∧ ∃ acc, acc.length ≤ i + 1 ∧ P (i + 1) acc ∧ Same H1 H2 ∧ H2 D = some (.lst acc), fun H2 q => ⟨n - (i + 1), by omega, rfl, q⟩, fun x H3 y => ?_⟩
    obtain ⟨rfl, rfl⟩ := W.yld i H' x H3 hlt hsm y
    intro X' bX
    refine ⟨fun pins' s' u I' r => thn ((hst i acc H3 hlt hl hp hsm X' bX).run pins' s' u I' r) fun _ s2 ⟨σ2, H2, I2, e2, ew, q2⟩ => ⟨σ2, H2, I2, ew, fun X2 b2 => ?_⟩⟩
    subst e2
    refine ⟨fun pins3 s3 I3 => thn ((q2 X2 b2).run pins3 s3 I3) fun k s4 ⟨H4, I4, e4, q4⟩ => ⟨H4, I4, ?_⟩⟩
    cases k with
    | false =>
      rw [if_neg (by decide)] at q4 ⊢
      exact ⟨hlt, acc, Nat.le_succ_of_le hl, q4, hsm.trans e4, e4 _ _ hDa⟩
    | true =>
      rw [if_pos rfl] at q4 ⊢
      intro X5 b5
      refine WE.imp (q4 X5 b5) fun y H5 ⟨e5, q5⟩ => ⟨acc, e5 _ _ (e4 _ _ hDa), by omega, hlt, acc ++ [y], by rw [List.length_append]; show acc.length + 1 ≤ i + 1; omega, q5, same_mut (hsm.trans (e4.trans e5)) hD, upd_same⟩
  · have e : i = n := by omega
    subst e
    exact .inl ⟨W.stop _ _ (Nat.le_refl _) hsm, hd acc D H' hl hp hD hsm hDa⟩
theorem w_lc {X : Cx} {N L S G B : List Str} {tg elt iter : Expr} {ifs : List Expr} {scope : Scope} {own : List (Str × Nat)} {σ : L2.St} {H : Hp} {Q : VK} {pos : Pos} (c : Nm X N L S G B) (ok : blkC N X.env.scope scope own = true) (P : Nat → List V → Prop)
    (h : WI X tg iter σ H fun J H1 => ∃ n it, Wlk J n it H1 ∧ n < sizeLine ∧ P 0 [] ∧
      (∀ i acc H', i < n → acc.length ≤ i → P i acc → Same H1 H' → WGb X scope tg (it i) (wipe σ (own.map (·.2))) H' fun σ2 H2 => H2 = H' ∧ wipe σ2 (own.map (·.2)) = wipe σ (own.map (·.2)) ∧ WTb X scope ifs σ2 H2 fun k H3 => Same H2 H3 ∧
        if k = true then WEb X scope elt σ2 H3 fun y H4 => Same H3 H4 ∧ P (i + 1) (acc ++ [y]) else P (i + 1) acc) ∧
      ∀ acc D H', acc.length ≤ n → P n acc → H1 D = none → Same H1 H' → H' D = some (.lst acc) → Q (.ref D) H')
    (hs : ∀ x, foldedSetIterable iter X.env x = pure x := by intro _; with_unfolding_all rfl) : WE X (.ListComp elt [⟨tg, iter, ifs, 0⟩] scope pos) σ H Q := by
  have hN : X.N.Nodup := by rw [c.names]; exact c.nd
  have ok' : BlkOk X.N X.env.scope scope own := by rw [c.names]; exact blkOk_by ok
  have p := pe_lc (X := X) (pos := pos) (g := WGb X scope tg) (tt := WTb X scope ifs) (te := WEb X scope elt) c.calm hN (pi_w (X := X) (tg := tg) (iter := iter)) ok'
    (fun s H C cl fp => ⟨fun pins s1 σ1 H1 v u R I r q => (q _ ⟨s, H, C, cl, fp, rfl⟩).run pins s1 u I r⟩)
    (fun s H C cl fp => ⟨fun pins s1 σ1 H1 R I q => (q _ ⟨s, H, C, cl, fp, rfl⟩).run pins s1 I⟩)
    (fun s H C cl fp => ⟨fun pins s1 σ1 H1 R I q => (q _ ⟨s, H, C, cl, fp, rfl⟩).run pins s1 I⟩) hs
  exact p.w (lc_of c P h)
theorem ws_setLc {y : Str} {py spos : Pos} {D0 : Ends} {X : Cx} {N L S G B : List Str} {tg elt iter : Expr} {ifs : List Expr} {scope : Scope} {own : List (Str × Nat)} {σ : L2.St} {H : Hp} {pos : Pos} (c : Nm X N L S G B) (ok : blkC N X.env.scope scope own = true) (P : Nat → List V → Prop)
    (h : WI X tg iter σ H fun J H1 => ∃ n it, Wlk J n it H1 ∧ n < sizeLine ∧ P 0 [] ∧
      (∀ i acc H', i < n → acc.length ≤ i → P i acc → Same H1 H' → WGb X scope tg (it i) (wipe σ (own.map (·.2))) H' fun σ2 H2 => H2 = H' ∧ wipe σ2 (own.map (·.2)) = wipe σ (own.map (·.2)) ∧ WTb X scope ifs σ2 H2 fun k H3 => Same H2 H3 ∧
        if k = true then WEb X scope elt σ2 H3 fun y H4 => Same H3 H4 ∧ P (i + 1) (acc ++ [y]) else P (i + 1) acc) ∧
      ∀ acc D H', acc.length ≤ n → P n acc → H1 D = none → Same H1 H' → H' D = some (.lst acc) → ∃ σ', Put N σ y (.ref D) σ' ∧ D0.nx σ' H')
    (hyl : X.env.scope.names.lookup y = some .local) (hsw : swapsWith (.ListComp elt [⟨tg, iter, ifs, 0⟩] scope pos) (some (.Name y py)) spos.line X.env = pure true)
    (hs : ∀ x, foldedSetIterable iter X.env x = pure x := by intro _; with_unfolding_all rfl) (iy : ∃ i : Nat, N[i]? = some y) : WS X (.Assign [.Name y py] (.ListComp elt [⟨tg, iter, ifs, 0⟩] scope pos) spos) D0 σ H := by
  have hN : X.N.Nodup := by rw [c.names]; exact c.nd
  have ok' : BlkOk X.N X.env.scope scope own := by rw [c.names]; exact blkOk_by ok
  obtain ⟨i, hi⟩ := iy
  have hi' : X.N[i]? = some y := by rw [c.names]; exact hi
  have p := ps_setLc (X := X) (pos := pos) (spos := spos) (py := py) (g := WGb X scope tg) (tt := WTb X scope ifs) (te := WEb X scope elt) c.calm hN hi' hyl hsw (pi_w (X := X) (tg := tg) (iter := iter)) ok'
    (fun s H C cl fp => ⟨fun pins s1 σ1 H1 v u R I r q => (q _ ⟨s, H, C, cl, fp, rfl⟩).run pins s1 u I r⟩)
    (fun s H C cl fp => ⟨fun pins s1 σ1 H1 R I q => (q _ ⟨s, H, C, cl, fp, rfl⟩).run pins s1 I⟩)
    (fun s H C cl fp => ⟨fun pins s1 σ1 H1 R I q => (q _ ⟨s, H, C, cl, fp, rfl⟩).run pins s1 I⟩) hs
  refine p.w ?_
  refine lc_of (Q := fun v H1 => D0.nx (σ.set i (some v)) H1) c P ⟨fun pins s I => thn (h.run pins s I) fun v s1 h1 => thn h1 fun itv s2 ⟨it, fp, tn, J, H1, e, I', T, t0, hf, n, itm, W, hz, p0, hst, hd⟩ => ⟨it, fp, tn, J, H1, e, I', T, t0, hf, n, itm, W, hz, p0, hst, fun acc D H' h1 h2 h3 h4 h5 => ?_⟩⟩
  obtain ⟨σ', hp, q⟩ := hd acc D H' h1 h2 h3 h4 h5
  obtain ⟨i', hi2, rfl⟩ := hp.ix
  have ei : i' = i := nodup_ix hN (by rw [c.names]; exact hi2) hi'
  rw [← ei]
  exact q
/-- .. where each item is a new tuple -/
theorem lc_ofT {X : Cx} {N L S G B : List Str} {tg elt iter : Expr} {ifs : List Expr} {scope : Scope} {own : List (Str × Nat)} {σ : L2.St} {H : Hp} {Q : VK} (c : Nm X N L S G B) (P : Nat → List V → Prop)
    (h : WI X tg iter σ H fun J H1 => ∃ n it, WlkT J n it H1 ∧ n < sizeLine ∧ P 0 [] ∧
      (∀ i acc H0 H' T, i < n → acc.length ≤ i → P i acc → Same H1 H0 → Same H0 H' → H' T = some (.tup (it i)) → WGb X scope tg (.ref T) (wipe σ (own.map (·.2))) H' fun σ2 H2 => H2 = H' ∧ wipe σ2 (own.map (·.2)) = wipe σ (own.map (·.2)) ∧ WTb X scope ifs σ2 H2 fun k H3 => Same H2 H3 ∧
        if k = true then WEb X scope elt σ2 H3 fun y H4 => Same H3 H4 ∧ P (i + 1) (acc ++ [y]) else P (i + 1) acc) ∧
      ∀ acc D H', acc.length ≤ n → P n acc → H1 D = none → Same H1 H' → H' D = some (.lst acc) → Q (.ref D) H') :
    tLc (WI X tg iter) (WGb X scope tg) (WTb X scope ifs) (WEb X scope elt) (own.map (·.2)) σ H Q := by
  refine ⟨fun pins s I => thn (h.run pins s I) fun v s1 h1 => thn h1 fun itv s2 ⟨it, fp, tn, J, H1, e, I', T, t0, hf, n, itm, W, hz, p0, hst, hd⟩ => ⟨it, fp, tn, J, H1, e, I', T, t0, hf, fun D hD => ?_⟩⟩
  refine ⟨fun i m H' => m = n - i ∧ i ≤ n ∧ ∃ acc, acc.length ≤ i ∧ P i acc ∧ Same H1 H' ∧ H' D = some (.lst acc), ⟨n, by simp, Nat.zero_le _, [], Nat.le_refl _, p0, same_new hD, upd_same⟩, ?_⟩
  rintro i m H' ⟨rfl, hi, acc, hl, hp, hsm, hDa⟩
  by_cases hlt : i < n
  · refine .inr ⟨W.go i H' hlt hsm, fun H2 => i + 1 ≤ n ∧ ∃ acc, acc.length ≤ i + 1 ∧ P (i + 1) acc ∧ Same H1 H2 ∧ H2 D = some (.lst acc), fun H2 q => ⟨n - (i + 1), by omega, rfl, q⟩, fun x H3 y => ?_⟩
    obtain ⟨T, rfl, hT, rfl⟩ := W.yld i H' x H3 hlt hsm y
    have eT := same_new (o := .tup (itm i)) hT
    intro X' bX
    refine ⟨fun pins' s' u I' r => thn ((hst i acc H' _ T hlt hl hp hsm eT upd_same X' bX).run pins' s' u I' r) fun _ s2 ⟨σ2, H2, I2, e2, ew, q2⟩ => ⟨σ2, H2, I2, ew, fun X2 b2 => ?_⟩⟩
    subst e2
    refine ⟨fun pins3 s3 I3 => thn ((q2 X2 b2).run pins3 s3 I3) fun k s4 ⟨H4, I4, e4, q4⟩ => ⟨H4, I4, ?_⟩⟩
    cases k with
    | false =>
      rw [if_neg (by decide)] at q4 ⊢
      exact ⟨hlt, acc, Nat.le_succ_of_le hl, q4, hsm.trans (eT.trans e4), e4 _ _ (eT _ _ hDa)⟩
    | true =>
      rw [if_pos rfl] at q4 ⊢
      intro X5 b5
      refine WE.imp (q4 X5 b5) fun y H5 ⟨e5, q5⟩ => ⟨acc, e5 _ _ (e4 _ _ (eT _ _ hDa)), by omega, hlt, acc ++ [y], by rw [List.length_append]; show acc.length + 1 ≤ i + 1; omega, q5, same_mut (hsm.trans (eT.trans (e4.trans e5))) hD, upd_same⟩
  · have e : i = n := by omega
    subst e
    exact .inl ⟨W.stop _ _ (Nat.le_refl _) hsm, hd acc D H' hl hp hD hsm hDa⟩
theorem w_lcT {X : Cx} {N L S G B : List Str} {tg elt iter : Expr} {ifs : List Expr} {scope : Scope} {own : List (Str × Nat)} {σ : L2.St} {H : Hp} {Q : VK} {pos : Pos} (c : Nm X N L S G B) (ok : blkC N X.env.scope scope own = true) (P : Nat → List V → Prop)
    (h : WI X tg iter σ H fun J H1 => ∃ n it, WlkT J n it H1 ∧ n < sizeLine ∧ P 0 [] ∧
      (∀ i acc H0 H' T, i < n → acc.length ≤ i → P i acc → Same H1 H0 → Same H0 H' → H' T = some (.tup (it i)) → WGb X scope tg (.ref T) (wipe σ (own.map (·.2))) H' fun σ2 H2 => H2 = H' ∧ wipe σ2 (own.map (·.2)) = wipe σ (own.map (·.2)) ∧ WTb X scope ifs σ2 H2 fun k H3 => Same H2 H3 ∧
        if k = true then WEb X scope elt σ2 H3 fun y H4 => Same H3 H4 ∧ P (i + 1) (acc ++ [y]) else P (i + 1) acc) ∧
      ∀ acc D H', acc.length ≤ n → P n acc → H1 D = none → Same H1 H' → H' D = some (.lst acc) → Q (.ref D) H')
    (hs : ∀ x, foldedSetIterable iter X.env x = pure x := by intro _; with_unfolding_all rfl) : WE X (.ListComp elt [⟨tg, iter, ifs, 0⟩] scope pos) σ H Q := by
  have hN : X.N.Nodup := by rw [c.names]; exact c.nd
  have ok' : BlkOk X.N X.env.scope scope own := by rw [c.names]; exact blkOk_by ok
  have p := pe_lc (X := X) (pos := pos) (g := WGb X scope tg) (tt := WTb X scope ifs) (te := WEb X scope elt) c.calm hN (pi_w (X := X) (tg := tg) (iter := iter)) ok'
    (fun s H C cl fp => ⟨fun pins s1 σ1 H1 v u R I r q => (q _ ⟨s, H, C, cl, fp, rfl⟩).run pins s1 u I r⟩)
    (fun s H C cl fp => ⟨fun pins s1 σ1 H1 R I q => (q _ ⟨s, H, C, cl, fp, rfl⟩).run pins s1 I⟩)
    (fun s H C cl fp => ⟨fun pins s1 σ1 H1 R I q => (q _ ⟨s, H, C, cl, fp, rfl⟩).run pins s1 I⟩) hs
  exact p.w (lc_ofT c P h)
theorem ws_setLcT {y : Str} {py spos : Pos} {D0 : Ends} {X : Cx} {N L S G B : List Str} {tg elt iter : Expr} {ifs : List Expr} {scope : Scope} {own : List (Str × Nat)} {σ : L2.St} {H : Hp} {pos : Pos} (c : Nm X N L S G B) (ok : blkC N X.env.scope scope own = true) (P : Nat → List V → Prop)
    (h : WI X tg iter σ H fun J H1 => ∃ n it, WlkT J n it H1 ∧ n < sizeLine ∧ P 0 [] ∧
      (∀ i acc H0 H' T, i < n → acc.length ≤ i → P i acc → Same H1 H0 → Same H0 H' → H' T = some (.tup (it i)) → WGb X scope tg (.ref T) (wipe σ (own.map (·.2))) H' fun σ2 H2 => H2 = H' ∧ wipe σ2 (own.map (·.2)) = wipe σ (own.map (·.2)) ∧ WTb X scope ifs σ2 H2 fun k H3 => Same H2 H3 ∧
        if k = true then WEb X scope elt σ2 H3 fun y H4 => Same H3 H4 ∧ P (i + 1) (acc ++ [y]) else P (i + 1) acc) ∧
      ∀ acc D H', acc.length ≤ n → P n acc → H1 D = none → Same H1 H' → H' D = some (.lst acc) → ∃ σ', Put N σ y (.ref D) σ' ∧ D0.nx σ' H')
    (hyl : X.env.scope.names.lookup y = some .local) (hsw : swapsWith (.ListComp elt [⟨tg, iter, ifs, 0⟩] scope pos) (some (.Name y py)) spos.line X.env = pure true)
    (hs : ∀ x, foldedSetIterable iter X.env x = pure x := by intro _; with_unfolding_all rfl) (iy : ∃ i : Nat, N[i]? = some y) : WS X (.Assign [.Name y py] (.ListComp elt [⟨tg, iter, ifs, 0⟩] scope pos) spos) D0 σ H := by
  have hN : X.N.Nodup := by rw [c.names]; exact c.nd
  have ok' : BlkOk X.N X.env.scope scope own := by rw [c.names]; exact blkOk_by ok
  obtain ⟨i, hi⟩ := iy
  have hi' : X.N[i]? = some y := by rw [c.names]; exact hi
  have p := ps_setLc (X := X) (pos := pos) (spos := spos) (py := py) (g := WGb X scope tg) (tt := WTb X scope ifs) (te := WEb X scope elt) c.calm hN hi' hyl hsw (pi_w (X := X) (tg := tg) (iter := iter)) ok'
    (fun s H C cl fp => ⟨fun pins s1 σ1 H1 v u R I r q => (q _ ⟨s, H, C, cl, fp, rfl⟩).run pins s1 u I r⟩)
    (fun s H C cl fp => ⟨fun pins s1 σ1 H1 R I q => (q _ ⟨s, H, C, cl, fp, rfl⟩).run pins s1 I⟩)
    (fun s H C cl fp => ⟨fun pins s1 σ1 H1 R I q => (q _ ⟨s, H, C, cl, fp, rfl⟩).run pins s1 I⟩) hs
  refine p.w ?_
  refine lc_ofT (Q := fun v H1 => D0.nx (σ.set i (some v)) H1) c P ⟨fun pins s I => thn (h.run pins s I) fun v s1 h1 => thn h1 fun itv s2 ⟨it, fp, tn, J, H1, e, I', T, t0, hf, n, itm, W, hz, p0, hst, hd⟩ => ⟨it, fp, tn, J, H1, e, I', T, t0, hf, n, itm, W, hz, p0, hst, fun acc D H' h1 h2 h3 h4 h5 => ?_⟩⟩
  obtain ⟨σ', hp, q⟩ := hd acc D H' h1 h2 h3 h4 h5
  obtain ⟨i', hi2, rfl⟩ := hp.ix
  have ei : i' = i := nodup_ix hN (by rw [c.names]; exact hi2) hi'
  rw [← ei]
  exact q

/-! ### calls -/
structure WC (X : Cx) (f : Value) (xs : List V) (σ : L2.St) (H : Hp) (Q : VK) : Prop where
  run : ∀ (pins : List (Addr × Obj)) (s : Shared) (us : List Value), Inv X pins σ H s → Vals xs us → wpAny (model X.prog X.w) X.A (call f us) (EP X pins σ Q) X.xe s
theorem cr_w {X : Cx} {f : Value} : CallR X f fun xs H Q => ∀ σ, WC X f xs σ H Q := fun pins s σ H xs us Q I r q => (q σ).run pins s us I r
theorem _root_.L2.CallR.w {X : Cx} {f : Value} {r : List V → Hp → VK → Prop} {xs : List V} {σ : L2.St} {H : Hp} {Q : VK} (h : CallR X f r) (q : r xs H Q) : WC X f xs σ H Q := ⟨fun pins s us I rv => h pins s σ H xs us Q I rv q⟩
section
variable {X : Cx} {N L S G B : List Str} {e o : Expr} {es : List Expr} {σ : L2.St} {H : Hp} {Q : VK} {x m : Str} {p pos apos : Pos} {id T : String}
/-- f(e, ..), f a built-in function; T(e, ..) a built-in type -/
theorem w_callB (c : Nm X N L S G B) (m : Mb x B) (hv : bootBuiltins x = some (.builtin id)) (h : WA X (e :: es) σ H fun vs H1 => WC X (.builtin id) vs σ H1 Q)
    (he : starEach (e :: es) X.env = (false, eval e X.env) :: starEach es X.env := by with_unfolding_all rfl) (hpl : (backTo pos (starEach es X.env)).any (·.1) = false := by with_unfolding_all rfl) : WE X (.Call (.Name x p) (e :: es) [] pos) σ H Q := by
  obtain ⟨a, b, d⟩ := c.bgl x m.mem
  refine ⟨fun pins s I => wpAny_Call_Name_kw (ld_blt I a (c.blt x m.mem) hv ?_ d b)⟩
  exact PyProof.Rows.callWith_builtin1 (thn (h.run pos pins s I) fun us s1 ⟨vs, H1, I1, r1, q1⟩ => q1.run pins s1 us I1 r1) he hpl
theorem w_callTy (c : Nm X N L S G B) (m : Mb x B) (hv : bootBuiltins x = some (.type T)) (h : WA X (e :: es) σ H fun vs H1 => WC X (.type T) vs σ H1 Q)
    (he : starEach (e :: es) X.env = (false, eval e X.env) :: starEach es X.env := by with_unfolding_all rfl) (hpl : (backTo pos (starEach es X.env)).any (·.1) = false := by with_unfolding_all rfl) : WE X (.Call (.Name x p) (e :: es) [] pos) σ H Q := by
  obtain ⟨a, b, d⟩ := c.bgl x m.mem
  refine ⟨fun pins s I => wpAny_Call_Name_kw (ld_blt I a (c.blt x m.mem) hv ?_ d b)⟩
  exact PyProof.Rows.callWith_type1 (thn (h.run pos pins s I) fun us s1 ⟨vs, H1, I1, r1, q1⟩ => q1.run pins s1 us I1 r1) he hpl
theorem c_len {x : V} {n : Nat} (h : LenV X.K x H n) (q : Q (.int n) H) : WC X (.builtin "len") [x] σ H Q := call_len.w ⟨x, n, rfl, h, q⟩
theorem c_abs {i : Int} (q : Q (.int (if i < 0 then -i else i)) H) : WC X (.builtin "abs") [.int i] σ H Q := call_abs.w ⟨i, rfl, q⟩
theorem c_max {i j : Int} (hc : X.calm = true) (q : Q (.int (if j > i then j else i)) H) : WC X (.builtin "max") [.int i, .int j] σ H Q := (call_max2 hc).w ⟨i, j, rfl, q⟩
theorem c_min {i j : Int} (hc : X.calm = true) (q : Q (.int (if j < i then j else i)) H) : WC X (.builtin "min") [.int i, .int j] σ H Q := (call_min2 hc).w ⟨i, j, rfl, q⟩
theorem c_intB {k : Bool} (q : Q (.int (if k then 1 else 0)) H) : WC X (.type "int") [.bl k] σ H Q := call_int1.w (.inr ⟨k, rfl, q⟩)
theorem c_divmod {i j : Int} (h : 0 < j ∧ j < 1073741824) (q : ∀ p H', H p = none → Same H H' → H' p = some (.tup [.int (i / j), .int (i % j)]) → Q (.ref p) H') : WC X (.builtin "divmod") [.int i, .int j] σ H Q :=
  call_divmod.w ⟨i, j, rfl, h, newly' (Q := fun p H' => Q (.ref p) H') q⟩
theorem c_all {a : Addr} {bs : List Bool} (hc : X.calm = true) (h : SqL X.K H a (bs.map V.bl)) (q : Q (.bl (bs.all fun k => k)) H) : WC X (.builtin "all") [.ref a] σ H Q := (cr_all hc).w ⟨a, bs, rfl, h, q⟩
theorem c_sum {a : Addr} {ns : List Int} (hc : X.calm = true) (h : SqL X.K H a (ns.map V.int)) (q : Q (.int ns.sum) H) : WC X (.builtin "sum") [.ref a] σ H Q := (cr_sum hc).w ⟨a, ns, rfl, h, q⟩
theorem c_list {a : Addr} {xs : List V} (h : SqL X.K H a xs ∨ SqT X.K H a xs) (q : ∀ p H', H p = none → Same H H' → H' p = some (.lst xs) → Q (.ref p) H') : WC X (.type "list") [.ref a] σ H Q :=
  call_list_of.w ⟨a, xs, rfl, h, newly' (Q := fun p H' => Q (.ref p) H') q⟩
theorem c_isi {x c : V} {t u : Value} {b : Bool} (hc : ClsV c u) (ht : TyX X.K H x t) (hk : PySem.W.kitOne X.K t u = some b) (q : Q (.bl b) H) : WC X (.builtin "isinstance") [x, c] σ H Q := call_isi.w ⟨x, c, t, u, b, rfl, hc, ht, hk, q⟩
/-- a set of ints -/
def SetI (P : Program) (w : World) (a : Addr) (S : Int → Bool) (n : Nat) : HO := .ext fun h => h.SetOf (intKind P w) a S n
theorem setI_at {P : Program} {w : World} {h h' : Heap} {a : Addr} {S : Int → Bool} {n : Nat} (R : h.SetOf (intKind P w) a S n) (k : ∀ o, h.get? a = some o → h'.get? a = some o) : h'.SetOf (intKind P w) a S n := by
  obtain ⟨o, es, ep, t, e, c⟩ := R
  exact ⟨o, es, ep, t, k _ e, c⟩
theorem c_set {a : Addr} {ns : List Int} (hc : X.calm = true) (h : SqL X.K H a (ns.map V.int)) (hz : ns.length + 1 < scanBound) (q : ∀ p H' n, H p = none → Same H H' → H' p = some (SetI X.prog X.w p (fun k => ns.any (· == k)) n) → Q (.ref p) H') : WC X (.type "set") [.ref a] σ H Q := by
  refine ⟨fun pins s us I rv => ?_⟩
  obtain ⟨its, rw', hl, hzl⟩ := I.list h
  rw [Vals.ref1 rv]
  have hi := rw'.ints
  have hlen : its.length = ns.length := by rw [← rw'.length, List.length_map]
  refine call_set_list (I.ok.hd hc) hl.isList (by simpa using hi) (by simpa [hlen] using hz) fun h' tk hS hk => ?_
  have hS' : h'.SetOf (intKind X.prog X.w) s.heap.objs.size (fun k => ns.any (· == k)) (firstMet (fun i => ns.getD i 0) its.toArray.size).length := by
    refine SetOf_congr hS (fun k => ?_) rfl
    rw [firstMet_any]
    have e : (List.range its.toArray.size).map (fun i => ns.getD i 0) = ns := by
      apply List.ext_getElem
      · simp [hlen]
      · intro i h1 h2
        simp [h2]
    rw [e]
  have hn : H s.heap.objs.size = none := I.fresh
  have new : ObjOk X.prog X.w (upd H s.heap.objs.size (SetI X.prog X.w s.heap.objs.size (fun k => ns.any (· == k)) (firstMet (fun i => ns.getD i 0) its.toArray.size).length)) h' s.heap.objs.size (SetI X.prog X.w s.heap.objs.size (fun k => ns.any (· == k)) (firstMet (fun i => ns.getD i 0) its.toArray.size).length) := by
    have hS2 := hS'
    obtain ⟨o, es, ep, t, e, c⟩ := hS2
    exact ⟨hS', ⟨o, e⟩, fun h1 h2 p k => setI_at p k⟩
  exact ⟨.ref s.heap.objs.size, _, I.laid (t' := tk) (fun b o e => hk b o (Heap.lt_size e) e) (Nat.le_refl _) new, rfl, q _ _ _ hn (same_new hn) upd_same⟩
theorem b_inSetI {k : Int} {a : Addr} {S : Int → Bool} {n : Nat} (h : H a = some (SetI X.prog X.w a S n)) (q : Q (.bl (S k)) H) : WB X (compareOp .In) (.int k) (.ref a) σ H Q :=
  ⟨fun pins s v u I rx ry => by
    obtain ⟨tk, rfl⟩ := rx
    cases ry
    exact wpAny_inSet_of (intKind_is _ _ _ _) rfl (I.hok a _ h).1 (show EP X pins σ Q _ _ from ⟨.bl (S k), H, I.tok _, rfl, q⟩)⟩
/-! ### the calls of the text's own -/
/-- the module's name x is a def with the positional promise sp -/
structure Fn (P : Program) (w : World) (K : PySem.W.Frag) (mg : Str → Option Value) (base : Heap) (x : Str) (k : Nat) (sp : Sp) : Prop where
  ex : ∃ f, mg x = some (.ref f) ∧ PySem.W.keepIn K (.ref f) = true ∧ FnR P w K mg base (L2.CX P w) k f sp
theorem w_call {k j : Nat} {sp : Sp} {E : XK} (c : Nm X N L S G B) (mm : Mb x G) (F : Fn X.prog X.w X.K X.mg X.base x k sp) (hr : Room j X.A) (hj : k ≤ j) (hx : Passes (L2.CX X.prog X.w) X E) (h : WA X (e :: es) σ H fun vs H1 => sp vs H1 Q E)
    (he : starEach (e :: es) X.env = (false, eval e X.env) :: starEach es X.env := by with_unfolding_all rfl) (hpl : (backTo pos (starEach es X.env)).any (·.1) = false := by with_unfolding_all rfl) : WE X (.Call (.Name x p) (e :: es) [] pos) σ H Q := by
  obtain ⟨f, hm, hk, F⟩ := F.ex
  obtain ⟨a, b, d⟩ := c.glo x mm.mem
  refine ⟨fun pins s I => wpAny_Call_Name_kw (ld_glob I a hm ?_ b)⟩
  refine PySem.W.callWith_K (h₀ := X.base) I.ok.mod.kin hk (thn (h.run pos pins s I) fun us s1 ⟨vs, H1, I1, r, q⟩ => ⟨I1.kIn, ?_⟩) he hpl
  exact wpAny_call (run_fnR F (hr.mono hj) hx I1 r q)
theorem w_call0 {k j : Nat} {sp : Sp} {E : XK} (c : Nm X N L S G B) (mm : Mb x G) (F : Fn X.prog X.w X.K X.mg X.base x k sp) (hr : Room j X.A) (hj : k ≤ j) (hx : Passes (L2.CX X.prog X.w) X E) (h : sp [] H Q E) : WE X (.Call (.Name x p) [] [] pos) σ H Q := by
  obtain ⟨f, hm, hk, F⟩ := F.ex
  obtain ⟨a, b, d⟩ := c.glo x mm.mem
  refine ⟨fun pins s I => wpAny_Call_Name_kw (ld_glob I a hm ?_ b)⟩
  exact PySem.W.callWith_K0 I.kIn hk (wpAny_call (run_fnR F (hr.mono hj) hx I .nil h))
/-- C(e, ..) -/
structure Mkr (P : Program) (w : World) (K : PySem.W.Frag) (mg : Str → Option Value) (base : Heap) (C : Addr) (k : Nat) (sp : Sp) : Prop where
  ex : ∃ f, Mk K C f ∧ FnR P w K mg base (L2.CX P w) k f sp
/-- what a new instance owes -/
def Made (C : Addr) (sp : Sp) (vs : List V) (H1 : Hp) (Q : VK) (E : XK) : Prop :=
  ∀ x dx H2, H1 x = none → H1 dx = none → dx ≠ x → Same H1 H2 → H2 dx = some (.own x) → H2 x = some (.ins C dx []) → sp (.ref x :: vs) H2 (fun v H3 => v = .non ∧ Q (.ref x) H3) E
theorem run_mkr {k j : Nat} {C : Addr} {sp : Sp} {E : XK} {pins : List (Addr × Obj)} {s : Shared} {us : List Value} {vs : List V} (F : Mkr X.prog X.w X.K X.mg X.base C k sp) (hr : Room j X.A) (hj : k + 1 ≤ j) (hx : Passes (L2.CX X.prog X.w) X E) (I : Inv X pins σ H s) (r : Vals vs us) (q : Made C sp vs H Q E) :
    wpAny (model X.prog X.w) X.A (call (.ref C) us) (EP X pins σ Q) X.xe s := by
  obtain ⟨f, M, F⟩ := F.ex
  exact StX.run_makeR M F (hr.mono hj) hx I r fun x dx nx nd ne => q x dx _ nx nd ne ((same_new nd).trans (same_new (by rw [upd_ne (Ne.symm ne)]; exact nx))) (by rw [upd_ne ne]; exact upd_same) upd_same
theorem w_make {k j : Nat} {C : Addr} {sp : Sp} {E : XK} (c : Nm X N L S G B) (mm : Mb x G) (hm : X.mg x = some (.ref C)) (F : Mkr X.prog X.w X.K X.mg X.base C k sp) (hr : Room j X.A) (hj : k + 1 ≤ j) (hx : Passes (L2.CX X.prog X.w) X E)
    (h : WA X (e :: es) σ H fun vs H1 => Made C sp vs H1 Q E)
    (he : starEach (e :: es) X.env = (false, eval e X.env) :: starEach es X.env := by with_unfolding_all rfl) (hpl : (backTo pos (starEach es X.env)).any (·.1) = false := by with_unfolding_all rfl) : WE X (.Call (.Name x p) (e :: es) [] pos) σ H Q := by
  have kp := F.ex
  obtain ⟨f, M, _⟩ := kp
  obtain ⟨a, b, d⟩ := c.glo x mm.mem
  refine ⟨fun pins s I => wpAny_Call_Name_kw (ld_glob I a hm ?_ b)⟩
  refine PySem.W.callWith_K (h₀ := X.base) I.ok.mod.kin M.kp (thn (h.run pos pins s I) fun us s1 ⟨vs, H1, I1, r, q⟩ => ⟨I1.kIn, ?_⟩) he hpl
  exact run_mkr F hr hj hx I1 r q
/-- x(e, ..) where the local x holds the class at C -/
theorem w_makeL {k j : Nat} {C : Addr} {sp : Sp} {E : XK} (c : Nm X N L S G B) (ha : At N σ x (.ref C)) (mm : Mb x L) (F : Mkr X.prog X.w X.K X.mg X.base C k sp) (hr : Room j X.A) (hj : k + 1 ≤ j) (hx : Passes (L2.CX X.prog X.w) X E)
    (h : WA X (e :: es) σ H fun vs H1 => Made C sp vs H1 Q E)
    (he : starEach (e :: es) X.env = (false, eval e X.env) :: starEach es X.env := by with_unfolding_all rfl) (hpl : (backTo pos (starEach es X.env)).any (·.1) = false := by with_unfolding_all rfl) : WE X (.Call (.Name x p) (e :: es) [] pos) σ H Q := by
  have kp := F.ex
  obtain ⟨f, M, _⟩ := kp
  refine ⟨fun pins s I => wpAny_Call_Name_kw ?_⟩
  refine thn ((w_name (Q := fun v H' => v = .ref C ∧ H' = H) c ha mm ⟨rfl, rfl⟩).run pins s I) fun u s1 ⟨v, H', I', rv, ev, eH⟩ => ?_
  subst ev eH
  obtain rfl : u = Value.ref C := rv
  refine PySem.W.callWith_K (h₀ := X.base) I'.ok.mod.kin M.kp (thn (h.run pos pins s1 I') fun us s1 ⟨vs, H1, I1, r, q⟩ => ⟨I1.kIn, ?_⟩) he hpl
  exact run_mkr F hr hj hx I1 r q
/-! ### attributes -/
structure WAt (X : Cx) (x : V) (f : Str) (σ : L2.St) (H : Hp) (Q : VK) : Prop where
  run : ∀ (pins : List (Addr × Obj)) (s : Shared) (v : Value), Inv X pins σ H s → RelV x v → wpAny (model X.prog X.w) X.A (getAttr v f true) (EP X pins σ Q) X.xe s
theorem w_attr {f : Str} (h : WE X e σ H fun x H1 => WAt X x f σ H1 Q) (hb : attributeBase e f X.env (eval e X.env) = eval e X.env := by with_unfolding_all rfl) : WE X (.Attribute e f pos) σ H Q :=
  ⟨fun pins s I => attr_of hb (thn (h.run pins s I) fun u s1 ⟨x, H1, I1, rx, q⟩ => q.run pins s1 u I1 rx)⟩
theorem a_fld {a C dx : Addr} {fs : List (Str × V)} {f : Str} {v : V} (hc : Cls X.K C) (hn : NoAttr X.K C f) (h : H a = some (.ins C dx fs)) (hl : fs.lookup f = some v) (q : Q v H) : WAt X (.ref a) f σ H Q :=
  ⟨fun pins s u I rx => by
    obtain rfl : u = Value.ref a := rx
    exact getattr_ok I h hc hn hl fun u' s2 I2 ru => ⟨v, H, I2, ru, q⟩⟩
theorem a_cval {C : Addr} {mc u : Value} {f : Str} {v : V} (r : ClX.CRead X.K C mc) (k : ClX.CVal X.K C mc f v u) (q : Q v H) : WAt X (.ref C) f σ H Q :=
  ⟨fun pins s u I rx => by
    obtain rfl : u = Value.ref C := rx
    exact ClX.getcval_ok I r k fun s2 I2 => ⟨v, H, I2, k.rel, q⟩⟩
/-- a property, by its getter's positional promise -/
theorem a_prop {C p' g a dx : Addr} {fs : List (Str × V)} {f : Str} {k : Nat} {sp : Sp} {E : XK} (c : Cls X.K C) (hp : PropOf X.K C f p' g) (F : FnR X.prog X.w X.K X.mg X.base (L2.CX X.prog X.w) k g sp) (hr : Room (k + 1) X.A) (ea : H a = some (.ins C dx fs))
    (h : sp [.ref a] H Q E0) : WAt X (.ref a) f σ H Q := by
  refine ⟨fun pins s u I rx => ?_⟩
  obtain rfl : u = Value.ref a := rx
  obtain ⟨mA, O, _, _, _, _⟩ := ins_get I.hok ea
  obtain ⟨od, J, _⟩ := O.look
  obtain ⟨rest, hrec⟩ := hp.rec_
  have I1 := I.tok (s.toks + 1)
  have hc : (PySem.W.clsIn X.K C).isSome = true := by
    obtain ⟨cd, hc, _⟩ := PySem.W.any_some c.hd
    rw [hc]
    rfl
  refine PySem.W.get_bind I.kIn J (PySem.W.plainGet_of (c.get f)).1 (PySem.W.findObj_data hc hp.at_ hp.get hp.tak) (PySem.W.plainGet_of (c.get f)).2 (wpAny_call (PySem.W.prop_get (s := { s with toks := s.toks + 1 }) I.kIn hrec ?_))
  refine codeAny_mono (F X.A.in1 X.stack { s with toks := s.toks + 1 } H [.ref a] [.ref a] Q E0 hr.in1 I1.env0.in1 (.cons rfl .nil) h) fun r s' hq => ?_
  cases r with
  | error er => exact False.elim (passL (X := X.nox) pins σ H { s with toks := s.toks + 1 } er s' (I1.wish _) hq)
  | ok fl =>
    cases fl with
    | ret u =>
      obtain ⟨v, H', I3, rv, q3⟩ := I1.after hq
      show wpAny _ _ (handedOut u) _ _ _
      rw [PySem.W.handedOut_of (handed_of rv)]
      exact wpAny_pure ⟨v, H', I3, rv, q3⟩
    | next => exact False.elim hq
    | brk => exact False.elim hq
    | cont => exact False.elim hq
/-! ### methods -/
/-- o.m(e, ..) of an instance of the class at C, by a positional promise -/
structure Mth (P : Program) (w : World) (K : PySem.W.Frag) (mg : Str → Option Value) (base : Heap) (C : Addr) (m : Str) (k : Nat) (sp : Sp) : Prop where
  ex : ∃ f, Cls K C ∧ Meth K C m f ∧ FnR P w K mg base (L2.CX P w) k f sp
theorem w_meth {C : Addr} {k j : Nat} {sp : Sp} {E : XK} {pl : Sem Bool} (F : Mth X.prog X.w X.K X.mg X.base C m k sp) (hr : Room j X.A) (hj : k ≤ j) (hx : Passes (L2.CX X.prog X.w) X E)
    (h : WE X o σ H fun x H1 => ∃ a dx fs, x = .ref a ∧ H1 a = some (.ins C dx fs) ∧ fs.lookup m = none ∧ WA X (e :: es) σ H1 fun vs H2 => sp (.ref a :: vs) H2 Q E)
    (hst : starEach (e :: es) X.env = (false, eval e X.env) :: starEach es X.env := by with_unfolding_all rfl) (hpl : (backTo pos (starEach es X.env)).any (·.1) = false := by with_unfolding_all rfl)
    (ht : eval (.Call (.Attribute o m apos) (e :: es) [] pos) X.env = (do
      let ov ← eval o X.env
      standAt apos.atName
      let (f, first) ← holding [ov] (getMethod ov m pl)
      callWith pos f first (backTo pos (starEach (e :: es) X.env)) (backToKw pos (keywordEach [] X.env))) := by with_unfolding_all rfl) : WE X (.Call (.Attribute o m apos) (e :: es) [] pos) σ H Q := by
  obtain ⟨f, c, hm, F⟩ := F.ex
  refine (pe_methR pe_w c hm F (hr.mono hj) hx pa_w hst hpl ht).w ?_
  exact WE.imp h fun x H1 ⟨a, dx, fs, e1, e2, e3, q⟩ => ⟨a, dx, fs, e1, e2, e3, by rw [e1]; exact q⟩
theorem w_meth0 {C : Addr} {k j : Nat} {sp : Sp} {E : XK} {pl : Sem Bool} (F : Mth X.prog X.w X.K X.mg X.base C m k sp) (hr : Room j X.A) (hj : k ≤ j) (hx : Passes (L2.CX X.prog X.w) X E)
    (h : WE X o σ H fun x H1 => ∃ a dx fs, x = .ref a ∧ H1 a = some (.ins C dx fs) ∧ fs.lookup m = none ∧ sp [.ref a] H1 Q E)
    (ht : eval (.Call (.Attribute o m apos) [] [] pos) X.env = (do
      let ov ← eval o X.env
      standAt apos.atName
      let (f, first) ← holding [ov] (getMethod ov m pl)
      callWith pos f first (backTo pos (starEach [] X.env)) (backToKw pos (keywordEach [] X.env))) := by with_unfolding_all rfl) : WE X (.Call (.Attribute o m apos) [] [] pos) σ H Q := by
  obtain ⟨f, c, hm, F⟩ := F.ex
  refine ⟨fun pins s I => ?_⟩
  refine PySem.W.methodCall_KW (pl := pl) (thn (h.run pins s I) fun u s1 ⟨x, H1, I1, rx, a, dx, fs, ex, ea, l, q⟩ => ?_) ht
  subst ex
  obtain rfl : u = Value.ref a := rx
  refine getmeth_ok I1 ea c hm l ?_
  exact PySem.W.callWith_K0 (first := [.ref a]) I1.kIn hm.kp (wpAny_call (run_fnR (us := [.ref a]) (vs := [.ref a]) F (hr.mono hj) hx I1 (.cons rfl .nil) q))
/-- C.m(e, ..), a static method -/
structure SMt (P : Program) (w : World) (K : PySem.W.Frag) (mg : Str → Option Value) (base : Heap) (C : Addr) (m : Str) (k : Nat) (sp : Sp) : Prop where
  ex : ∃ (p g : Addr) (rest : List Value), ClX.CRead K C (.type "type") ∧ PySem.W.findCls K (.ref C) (.type "type") m = some (.get (.builtin "staticmethod.__get__") (.ref p) .none (.ref C)) ∧ PySem.W.recIn K p "staticmethod" = some (.ref g :: rest) ∧
    PySem.W.keepIn K (.ref g) = true ∧ FnR P w K mg base (L2.CX P w) k g sp
theorem w_smeth {C : Addr} {k j : Nat} {sp : Sp} {E : XK} {pl : Sem Bool} (F : SMt X.prog X.w X.K X.mg X.base C m k sp) (hr : Room j X.A) (hj : k ≤ j) (hx : Passes (L2.CX X.prog X.w) X E)
    (h : WE X o σ H fun x H1 => x = .ref C ∧ WA X (e :: es) σ H1 fun vs H2 => sp vs H2 Q E)
    (hst : starEach (e :: es) X.env = (false, eval e X.env) :: starEach es X.env := by with_unfolding_all rfl) (hpl : (backTo pos (starEach es X.env)).any (·.1) = false := by with_unfolding_all rfl)
    (ht : eval (.Call (.Attribute o m apos) (e :: es) [] pos) X.env = (do
      let ov ← eval o X.env
      standAt apos.atName
      let (f, first) ← holding [ov] (getMethod ov m pl)
      callWith pos f first (backTo pos (starEach (e :: es) X.env)) (backToKw pos (keywordEach [] X.env))) := by with_unfolding_all rfl) : WE X (.Call (.Attribute o m apos) (e :: es) [] pos) σ H Q := by
  obtain ⟨p', g, rest, r, fc, rc, kp, F⟩ := F.ex
  refine ⟨fun pins s I => ?_⟩
  refine PySem.W.methodCall_KW (pl := pl) (thn (h.run pins s I) fun u s1 ⟨x, H1, I1, rx, ex, q⟩ => ?_) ht
  subst ex
  obtain rfl : u = Value.ref C := rx
  refine PySem.W.method_cls I1.kIn r.ga (PySem.W.cls_bind I1.kIn r.rd fc ?_)
  refine wpAny_call (PySem.W.sm_get (s := { s1 with toks := s1.toks + 1 }) I1.kIn rc (PySem.W.handed_on rfl ?_))
  have I2 := I1.tok (s1.toks + 1)
  refine PySem.W.callWith_K (first := []) (h₀ := X.base) I.ok.mod.kin kp (thn (q.run pos pins _ I2) fun us s2 ⟨vs, H2, I3, rv, q2⟩ => ⟨I3.kIn, ?_⟩) hst hpl
  exact wpAny_call (run_fnR (us := us) (vs := vs) F (hr.mono hj) hx I3 rv q2)
/-- C.m(), C.m(e, ..), a classmethod: its promise is of the class ahead of the arguments -/
structure CMt (P : Program) (w : World) (K : PySem.W.Frag) (mg : Str → Option Value) (base : Heap) (C : Addr) (m : Str) (k : Nat) (sp : Sp) : Prop where
  ex : ∃ (p g : Addr), ClX.CRead K C (.type "type") ∧ ClX.CMet K C (.type "type") m p g ∧ FnR P w K mg base (L2.CX P w) k g sp
theorem w_cmeth {C : Addr} {k j : Nat} {sp : Sp} {E : XK} {pl : Sem Bool} (F : CMt X.prog X.w X.K X.mg X.base C m k sp) (hr : Room j X.A) (hj : k ≤ j) (hx : Passes (L2.CX X.prog X.w) X E)
    (h : WE X o σ H fun x H1 => x = .ref C ∧ WA X (e :: es) σ H1 fun vs H2 => sp (.ref C :: vs) H2 Q E)
    (hst : starEach (e :: es) X.env = (false, eval e X.env) :: starEach es X.env := by with_unfolding_all rfl) (hpl : (backTo pos (starEach es X.env)).any (·.1) = false := by with_unfolding_all rfl)
    (ht : eval (.Call (.Attribute o m apos) (e :: es) [] pos) X.env = (do
      let ov ← eval o X.env
      standAt apos.atName
      let (f, first) ← holding [ov] (getMethod ov m pl)
      callWith pos f first (backTo pos (starEach (e :: es) X.env)) (backToKw pos (keywordEach [] X.env))) := by with_unfolding_all rfl) : WE X (.Call (.Attribute o m apos) (e :: es) [] pos) σ H Q := by
  obtain ⟨p', g, r, c, F⟩ := F.ex
  exact (ClX.pe_cmeth pe_w r c F (hr.mono hj) hx pa_w hst hpl ht).w h
theorem w_cmeth0 {C : Addr} {k j : Nat} {sp : Sp} {E : XK} {pl : Sem Bool} (F : CMt X.prog X.w X.K X.mg X.base C m k sp) (hr : Room j X.A) (hj : k ≤ j) (hx : Passes (L2.CX X.prog X.w) X E)
    (h : WE X o σ H fun x H1 => x = .ref C ∧ sp [.ref C] H1 Q E)
    (ht : eval (.Call (.Attribute o m apos) [] [] pos) X.env = (do
      let ov ← eval o X.env
      standAt apos.atName
      let (f, first) ← holding [ov] (getMethod ov m pl)
      callWith pos f first (backTo pos (starEach [] X.env)) (backToKw pos (keywordEach [] X.env))) := by with_unfolding_all rfl) : WE X (.Call (.Attribute o m apos) [] [] pos) σ H Q := by
  obtain ⟨p', g, r, c, F⟩ := F.ex
  refine ⟨fun pins s I => ?_⟩
  refine PySem.W.methodCall_KW (pl := pl) (thn (h.run pins s I) fun u s1 ⟨x, H1, I1, rx, ex, q⟩ => ?_) ht
  subst ex
  obtain rfl : u = Value.ref C := rx
  refine ClX.getmethcm_ok I1 r c fun s2 I2 => ?_
  have hq := ClX.pin_at I2
  refine PySem.W.callWith_M0 (first := []) ⟨hq, I2.kIn⟩ c.fi ?_
  exact ClX.run_cm (us := []) (vs := []) F (hr.mono hj) hx I2 .nil q
end
end Sv

namespace Sv
open PySem PySem.Spec PyProof.Rows L2

/-! ### == and != by an own __eq__ -/
/-- the class at C has __eq__ at f and no __ne__ -/
structure EqC (K : PySem.W.Frag) (C f : Addr) : Prop where
  eq : PySem.W.findIn K (.ref C) "__eq__" = some (some (.ref f))
  fn : PySem.W.isFn K (.ref f) = true
  ne : ∃ (nm q : Str) (N : Addr) (bs : List Value) (hdct : Bool) (sn : List Str) (sub : List Value) (ab : Bool) (col : Option Bool) (dd : Option Addr) (k0 k1 k2 k3 k5 : Option Value) (newId : String) (oN : Obj) (es : Array DictEntry) (ep : Nat) (of : Obj),
    K.lookup C = some (excClassObj nm q C N bs [.type "object"] hdct sn sub ab col dd k0 k1 k2 k3 k5 newId) ∧ K.lookup N = some oN ∧ oN.data = .dict es ep ∧ StrKeys es ∧ nsFind es "__eq__" = some (.ref f) ∧ nsFind es "__ne__" = none ∧
    K.lookup f = some of ∧ of.cls = .type "function"
/-- the promise of that __eq__, of two instances -/
structure EqM (P : Program) (w : World) (K : PySem.W.Frag) (mg : Str → Option Value) (base : Heap) (C : Addr) (k : Nat) (sp : Sp) : Prop where
  ex : ∃ f, EqC K C f ∧ FnR P w K mg base (L2.CX P w) k f sp
theorem bl_of {v : V} {u : Value} (r : RelV v u) {b : Bool} (e : v = .bl b) : u = .bool b := by
  subst e
  exact r
section
variable {X : Cx} {σ : L2.St} {H : Hp} {Q : VK} {a b C dx dy : Addr} {fs gs : List (Str × V)} {k j : Nat} {sp : Sp}
theorem b_eqO (F : EqM X.prog X.w X.K X.mg X.base C k sp) (hr : Room j X.A) (hj : k + 1 ≤ j) (ha : H a = some (.ins C dx fs)) (hb : H b = some (.ins C dy gs)) (q : sp [.ref a, .ref b] H (fun v H' => ∃ r, v = .bl r ∧ Q (.bl r) H') E0) :
    WB X (compareOp .Eq) (.ref a) (.ref b) σ H Q := by
  obtain ⟨f, c, F⟩ := F.ex
  refine ⟨fun pins s v u I rx ry => ?_⟩
  cases rx
  cases ry
  obtain ⟨mA, O, _⟩ := ins_get I.hok ha
  obtain ⟨mB, O', _⟩ := ins_get I.hok hb
  obtain ⟨od, J, _⟩ := O.look
  obtain ⟨od', J', _⟩ := O'.look
  obtain ⟨m, hF⟩ := I.fr
  refine PySem.W.cmp_K (op := .Eq) (tb := .ref C) hr.units0 hF I.ok.mod.kin J J'.type (by simp [PySem.W.notFirst]) c.eq c.fn ?_
  refine wpAny_mono (wpAny_call (run_fnR (us := [.ref a, .ref b]) (vs := [.ref a, .ref b]) F (hr.mono (by omega)) passL I (.cons rfl (.cons rfl .nil)) q)) (fun w s' z => ?_) fun _ _ x => x
  obtain ⟨z', H', I', rz, r, ez, qz⟩ := z
  subst ez
  cases rz
  exact ⟨.bl r, H', I', rfl, qz⟩
theorem b_neO (F : EqM X.prog X.w X.K X.mg X.base C k sp) (hr : Room j X.A) (hj : k + 1 ≤ j) (ha : H a = some (.ins C dx fs)) (hb : H b = some (.ins C dy gs)) (q : sp [.ref a, .ref b] H (fun v H' => ∃ r, v = .bl r ∧ Q (.bl (!r)) H') E0) :
    WB X (compareOp .NotEq) (.ref a) (.ref b) σ H Q := by
  obtain ⟨f, c, F⟩ := F.ex
  refine ⟨fun pins s v u I rx ry => ?_⟩
  cases rx
  cases ry
  obtain ⟨mA, O, _⟩ := ins_get I.hok ha
  obtain ⟨mB, O', _⟩ := ins_get I.hok hb
  obtain ⟨nm, qn, N, bs, hdct, sn, sub, ab, col, dd, k0, k1, k2, k3, k5, newId, oN, es, ep, of, lC, lN, dN, hk, he, hne, lf, cf⟩ := c.ne
  have X1 := I.kIn
  have own : s.heap.OwnEqNoNe a C f "object" [.type "object"] := ⟨_, of, nm, qn, N, bs, hdct, sn, sub, ab, col, dd, k0, k1, k2, k3, k5, newId, fun z => nsFind es z, some (.builtin "object.__eq__"), O.obj, rfl, X1 _ _ lC, ⟨oN, es, ep, X1 _ _ lN, dN, hk, fun _ => rfl⟩, he, X1 _ _ lf, cf, PySem.F.cmp_object.mro, PySem.F.cmp_object.eq.lookup, hne⟩
  have hr1 : Room k X.A.in1 := (hr.mono hj).in1
  have hu : X.A.units + 1 < cLine := by have := hr.un; omega
  refine compareOp_ne_ownEq PySem.F.cmp_object own O'.obj rfl hu ?_
  refine wpAny_mono (wpAny_call (codeAny_mono (F X.A.in1 X.stack s H [.ref a, .ref b] [.ref a, .ref b] _ E0 hr1 I.env0.in1 (.cons rfl (.cons rfl .nil)) q) fun r s' hq => ?_)) (fun v s' z => z) fun _ _ x => x
  cases r with
  | error er => exact False.elim (passL (X := X.nox) pins σ H s er s' (I.wish _) hq)
  | ok fl =>
    cases fl with
    | ret u =>
      obtain ⟨v, H', I3, rv, r, ev, q3⟩ := I.after hq
      subst ev
      cases rv
      exact ⟨r, rfl, .bl (!r), H', I3, rfl, q3⟩
    | next => exact False.elim hq
    | brk => exact False.elim hq
    | cont => exact False.elim hq
end

/-! ### methods of built-in values -/
section
variable {X : Cx} {o e : Expr} {es : List Expr} {σ : L2.St} {H : Hp} {Q : VK} {apos pos : Pos}
/-- xs.append(e) -/
theorem w_append (h : WE X o σ H fun x H1 => ∃ l, x = .ref l ∧ (∃ xs, SqL X.K H1 l xs) ∧ WE X e σ H1 fun y H2 => ∃ xs, H2 l = some (.lst xs) ∧ xs.length < sizeLine ∧ Q .non (upd H2 l (.lst (xs ++ [y]))))
    (hbase : attributeBase o "append" X.env (eval o X.env) = eval o X.env := by with_unfolding_all rfl)
    (hfew : ((backTo pos (starEach [e] X.env)).all (fun x => !x.1) && (backToKw pos (keywordEach [] X.env)).all (fun x => x.1.isSome)
      && decide ([e].length + ([] : List Keyword).length + (if ([] : List Keyword).isEmpty then 0 else 1) < 30)) = true := by with_unfolding_all rfl)
    (hline : (apos.endLine == pos.line) = true := by with_unfolding_all rfl) (hs : starEach [e] X.env = (false, eval e X.env) :: starEach [] X.env := by with_unfolding_all rfl) : WE X (.Call (.Attribute o "append" apos) [e] [] pos) σ H Q := by
  refine (pe_bm PySem.F.plainAttrs_list PySem.F.slot_list_append PySem.F.type_list_append mt_append pe_w (pa_cons pe_w pa_nil hs) hbase hfew hline hs rfl).w ?_
  exact WE.imp h fun x H1 ⟨l, e1, ⟨xs, hx⟩, q⟩ => ⟨by rw [e1]; exact Or.inl ⟨rfl, xs, hx⟩, WE.imp q fun y H2 ⟨xs, h2, hz, q⟩ => ⟨l, xs, y, e1, rfl, h2, hz, q⟩⟩
/-- sep.join(xs) of a list of texts -/
theorem w_join (h : WE X o σ H fun x H1 => ∃ a, x = .str a ∧ WE X e σ H1 fun y H2 => ∃ p, ∃ ys : List Str, y = .ref p ∧ (SqL X.K H2 p (ys.map V.str) ∨ SqT X.K H2 p (ys.map V.str)) ∧ (ys.map fun x => x.length).sum + ys.length * a.length ≤ 16777216 ∧ Q (.str (Txt.join a ys)) H2)
    (hs : starEach [e] X.env = [(false, eval e X.env)] := by with_unfolding_all rfl) (hbase : attributeBase o "join" X.env (eval o X.env) = eval o X.env := by with_unfolding_all rfl) (hline : (apos.endLine == pos.line) = true := by with_unfolding_all rfl) : WE X (.Call (.Attribute o "join" apos) [e] [] pos) σ H Q :=
  (pe_join pe_w pe_w hs hbase hline).w (WE.imp h fun x H1 ⟨a, e1, q⟩ => ⟨⟨a, e1⟩, WE.imp q fun y H2 ⟨p, ys, e2, h2, hz, q⟩ => ⟨a, p, ys, e1, by rw [e2], h2, hz, q⟩⟩)
/-- s.count(t) -/
theorem w_count (h : WE X o σ H fun x H1 => ∃ a, x = .str a ∧ WE X e σ H1 fun y H2 => ∃ b, y = .str b ∧ Q (.int (Txt.count a b)) H2)
    (hs : starEach [e] X.env = [(false, eval e X.env)] := by with_unfolding_all rfl) (hbase : attributeBase o "count" X.env (eval o X.env) = eval o X.env := by with_unfolding_all rfl) (hline : (apos.endLine == pos.line) = true := by with_unfolding_all rfl) : WE X (.Call (.Attribute o "count" apos) [e] [] pos) σ H Q :=
  (pe_m1 PySem.F.slot_str_count PySem.F.type_str_count mt_count pe_w pe_w hs hbase hline).w (WE.imp h fun x H1 ⟨a, e1, q⟩ => ⟨⟨a, e1⟩, WE.imp q fun y H2 ⟨b, e2, q⟩ => ⟨a, b, e1, by rw [e2], q⟩⟩)
end

/-! ### a def's names -/
def visB (sc : Scope) (x : Str) : Bool := match sc.names.lookup x with
  | some .local | some .cell | some .free => true
  | _ => false
def locB (sc : Scope) (x : Str) : Bool := match sc.names.lookup x with
  | some .local | some .cell => true
  | _ => false
def gloB (sc : Scope) (x : Str) : Bool := match sc.names.lookup x with
  | some .globalImplicit => true
  | _ => false
theorem visB_ok {sc : Scope} {x : Str} (h : visB sc x = true) : Vis sc x := by
  unfold visB at h
  split at h
  · exact .inl (by assumption)
  · exact .inr (.inl (by assumption))
  · exact .inr (.inr (by assumption))
  · cases h
theorem locB_ok {sc : Scope} {x : Str} (h : locB sc x = true) : Loc sc x := by
  unfold locB at h
  split at h
  · exact .inl (by assumption)
  · exact .inr (by assumption)
  · cases h
theorem gloB_ok {sc : Scope} {x : Str} (h : gloB sc x = true) : sc.names.lookup x = some .globalImplicit := by
  unfold gloB at h
  split at h
  · assumption
  · cases h
/-- names: N all slots (the parameters ps first), L the def's own, G the module's, B the built-in ones -/
def scB (N ps L G B : List Str) (sc : Scope) : Bool :=
  (match sc.kind with | .function => true | _ => false) && !sc.isCoroutine && !sc.isGenerator && decide N.Nodup && decide (N.take ps.length = ps) && ps.all (locB sc) && (sc.names.all fun y => match y.2 with | .free => false | _ => true) &&
  (L.all fun x => locB sc x && !(x == ("__debug__" : Str)) && !(x == ("__classdict__" : Str))) && (G.all fun x => gloB sc x && !(x == ("__debug__" : Str)) && decide (x ≠ "__name__")) && (B.all fun x => gloB sc x && !(x == ("__debug__" : Str)) && decide (x ≠ "__name__"))
theorem scB_ok {N ps L G B : List Str} {sc : Scope} (h : scB N ps L G B sc = true) : FnScope N ps sc ∧ (∀ x ∈ L, Loc sc x ∧ (x == ("__debug__" : Str)) = false ∧ (x == ("__classdict__" : Str)) = false) ∧
    (∀ x ∈ G, sc.names.lookup x = some .globalImplicit ∧ (x == ("__debug__" : Str)) = false ∧ x ≠ "__name__") ∧ (∀ x ∈ B, sc.names.lookup x = some .globalImplicit ∧ (x == ("__debug__" : Str)) = false ∧ x ≠ "__name__") := by
  unfold scB at h
  simp only [Bool.and_eq_true, List.all_eq_true, decide_eq_true_eq, Bool.not_eq_true'] at h
  obtain ⟨⟨⟨⟨⟨⟨⟨⟨⟨h1, h2⟩, h3⟩, h4⟩, h5⟩, h6⟩, h7⟩, h8⟩, h9⟩, h10⟩ := h
  refine ⟨⟨?_, h2, h3, h4, h5, fun x hx => locB_ok (h6 x hx), fun y hy e => ?_⟩, fun x hx => ⟨locB_ok (h8 x hx).1.1, (h8 x hx).1.2, (h8 x hx).2⟩, fun x hx => ⟨gloB_ok (h9 x hx).1.1, (h9 x hx).1.2, (h9 x hx).2⟩, fun x hx => ⟨gloB_ok (h10 x hx).1.1, (h10 x hx).1.2, (h10 x hx).2⟩⟩
  · split at h1
    · assumption
    · cases h1
  · have := h7 y hy
    rw [e] at this
    cases this
theorem nm_of {CX : CXT} {P : Program} {w : World} {K : PySem.W.Frag} {mg : Str → Option Value} {base : Heap} {N ps L G B : List Str} {qual : Str} {sc : Scope} {f : Addr} {cd : Value} {A : Around} {outer : List Env} {s : Shared} {H : Hp} {E : XK} (h : scB N ps L G B sc = true) (hb : ∀ x ∈ B, mg x = none) :
    Nm (cxOf CX P w K mg base N qual sc f cd A outer s H E) N L L G B := by
  obtain ⟨F, hL, hG, hB⟩ := scB_ok h
  exact ⟨rfl, F.nd, fun x hx => ⟨by rcases (hL x hx).1 with z | z; exact .inl z; exact .inr (.inl z), (hL x hx).2⟩, fun x hx => ⟨(hL x hx).1, .inl rfl⟩, hG, hb, hB, rfl⟩
theorem nm_nox {X : Cx} {N L S G B : List Str} (c : Nm X N L S G B) : Nm X.nox N L S G B := ⟨c.names, c.nd, c.vis, c.sto, c.glo, c.blt, c.bgl, c.calm⟩
/-- .. of a block: L the visible ones, S its own -/
def bkB (sc scope : Scope) (L S G B : List Str) : Bool :=
  (L.all fun x => visB (relS scope sc) x && !(x == ("__debug__" : Str)) && !(x == ("__classdict__" : Str))) && (S.all fun x => locB (relS scope sc) x && (match (relS scope sc).names.lookup x, scope.names.lookup x with | some .local, _ => true | _, some .cell => true | _, _ => false)) &&
  (G.all fun x => gloB (relS scope sc) x && !(x == ("__debug__" : Str)) && decide (x ≠ "__name__")) && (B.all fun x => gloB (relS scope sc) x && !(x == ("__debug__" : Str)) && decide (x ≠ "__name__"))
theorem nm_blk {X X' : Cx} {N L S G B L' S' G' B' : List Str} {scope : Scope} (b : Blk X scope X') (c : Nm X N L S G B) (h : bkB X.env.scope scope L' S' G' B' = true) (hb : ∀ x ∈ B', X.mg x = none) : Nm X' N L' S' G' B' := by
  obtain ⟨s, H, C, cl, fp, rfl⟩ := b
  unfold bkB at h
  simp only [Bool.and_eq_true, List.all_eq_true, decide_eq_true_eq, Bool.not_eq_true'] at h
  obtain ⟨⟨⟨h8, h6⟩, h9⟩, h10⟩ := h
  refine ⟨c.names, c.nd, fun x hx => ⟨visB_ok (h8 x hx).1.1, (h8 x hx).1.2, (h8 x hx).2⟩, fun x hx => ⟨locB_ok (h6 x hx).1, ?_⟩, fun x hx => ⟨gloB_ok (h9 x hx).1.1, (h9 x hx).1.2, (h9 x hx).2⟩, hb, fun x hx => ⟨gloB_ok (h10 x hx).1.1, (h10 x hx).1.2, (h10 x hx).2⟩, c.calm⟩
  have z := (h6 x hx).2
  split at z
  · exact .inr (by assumption)
  · refine .inl ?_
    show (scope.names.lookup x == some .cell) = true
    simp [*]
  · cases z

/-! ### what the top has written: defs by where they stand, facts as Bools -/
open He in
structure DefY where
  at_ : PySem.W.Frag → Addr
  name : Str
  qual : Str
  params : Arguments
  body : List Stmt
  scope : Scope
  dfl : List Dv := []
open He in
def fnY (K : PySem.W.Frag) (a : Addr) : FnW := match K.lookup a with
  | some ⟨_, _, .func fd, _⟩ => some (fd.name, fd.qualname, fd.params, fd.body, fd.scope, fd.globals, fd.closure, fd.builtins)
  | _ => none
open He in
def DefY.val (d : DefY) : FnW := some (d.name, d.qual, d.params, .stmts d.body, d.scope, mainGlobals, [], builtinsNs)
open He in
def DefY.ok (K : PySem.W.Frag) (d : DefY) : Bool := PySem.W.keepIn K (.ref (d.at_ K)) && (match K.lookup (d.at_ K) with
  | some ⟨_, _, .func fd, _⟩ => PySem.W.codeIn K fd.code d.qual && dflB K fd.defaults (d.dfl.map (Dv.v K))
  | _ => false)
open He in
theorem DefY.funD {K : PySem.W.Frag} {d : DefY} (e : fnY K (d.at_ K) = d.val) (c : d.ok K = true) : ∃ fd, FunD K d.name d.qual d.params d.body d.scope (d.dfl.map (Dv.v K)) [] (d.at_ K) fd := by
  obtain ⟨kp, c2⟩ := ba c
  unfold fnY at e
  cases q : K.lookup (d.at_ K) with
  | none =>
    rw [q] at c2
    cases c2
  | some o =>
    obtain ⟨oc, od, dt, osl⟩ := o
    rw [q] at c2 e
    cases dt with
    | func fd =>
      obtain ⟨n1, n2, n3, n4, n5, n6, n7, n8, n9, n10, n11, n12, n13, n14, n15⟩ := fd
      have e2 : (some (n1, n2, n3, n4, n5, n6, n7, n15) : FnW) = some (d.name, d.qual, d.params, .stmts d.body, d.scope, mainGlobals, [], builtinsNs) := e
      simp only [Option.some.injEq, Prod.mk.injEq] at e2
      obtain ⟨h1, h2, h3, h4, h5, h6, h7, h8⟩ := e2
      subst h1 h2 h3 h4 h5 h6 h7 h8
      have c3 : (PySem.W.codeIn K n13 d.qual && dflB K n8 (d.dfl.map (Dv.v K))) = true := c2
      obtain ⟨k1, k2⟩ := ba c3
      exact ⟨_, ⟨oc, od, n8, n9, n10, n11, n12, n13, n14, osl, rfl, q, k1, dflB_ok k2, .inl rfl⟩, kp⟩
    | _ => cases c2
open He in
abbrev AlY : Type := Bool × List FnW
open He in
def obsY (fs : List (PySem.W.Frag → Bool)) (fn : List DefY) (K : PySem.W.Frag) : AlY := ((fs.all fun f => f K) && fn.all fun d => d.ok K, fn.map fun d => fnY K (d.at_ K))
open He in
def valY (fn : List DefY) : AlY := (true, fn.map DefY.val)
def SaysY (fs : List (PySem.W.Frag → Bool)) (fn : List DefY) (K : PySem.W.Frag) : Prop := obsY fs fn K = valY fn
open He in
def obsYG (n : Nat) (fs : List (PySem.W.Frag → Bool)) (fn : List DefY) (g : Addr → Option Obj) : AlY := obsY fs fn (frG g (PySem.cStatics :: asD g n))
open He in
def hookY (n : Nat) (fs : List (PySem.W.Frag → Bool)) (fn : List DefY) : PySem.W.Hook where
  α := AlY
  obs := fun s => obsYG n fs fn s.heap.get?
  val := fun _ => valY fn
  says := fun _ h => ∃ K : PySem.W.Frag, K.In h ∧ SaysY fs fn K
  of := fun _ _ e => ⟨_, frG_in, e⟩
  keeps := fun _ _ _ ⟨K, hK, c⟩ k => ⟨K, PySem.W.Frag.In.keeps hK k, c⟩
theorem obsYG_eq {n : Nat} {fs : List (PySem.W.Frag → Bool)} {fn : List DefY} {g : Addr → Option Obj} {s : Shared} (h : ∀ a, g a = s.heap.get? a) : obsYG n fs fn g = (hookY n fs fn).obs s := by
  have e : g = s.heap.get? := funext h
  rw [e] <;> rfl
section
variable {fs : List (PySem.W.Frag → Bool)} {fn : List DefY} {K : PySem.W.Frag}
open He in
theorem SaysY.fact (c : SaysY fs fn K) (i : Nat) {f : PySem.W.Frag → Bool} (h : fs[i]? = some f := by with_unfolding_all rfl) : f K = true := by
  have c1 := (ba (show ((fs.all fun f => f K) && fn.all fun d => d.ok K) = true from congrArg (fun z : AlY => z.1) c)).1
  exact List.all_eq_true.mp c1 f (List.mem_of_getElem? h)
open He in
theorem SaysY.mem (c : SaysY fs fn K) {f : PySem.W.Frag → Bool} (h : f ∈ fs) : f K = true := by
  have c1 := (ba (show ((fs.all fun f => f K) && fn.all fun d => d.ok K) = true from congrArg (fun z : AlY => z.1) c)).1
  exact List.all_eq_true.mp c1 f h
open He in
theorem SaysY.def_ (c : SaysY fs fn K) (i : Nat) {d : DefY} (h : fn[i]? = some d := by with_unfolding_all rfl) : ∃ fd, FunD K d.name d.qual d.params d.body d.scope (d.dfl.map (Dv.v K)) [] (d.at_ K) fd := by
  have c2 := (ba (show ((fs.all fun f => f K) && fn.all fun d => d.ok K) = true from congrArg (fun z : AlY => z.1) c)).2
  have e : fn.map (fun d => fnY K (d.at_ K)) = fn.map DefY.val := congrArg (fun z : AlY => z.2) c
  have e2 : (fn.map fun d => fnY K (d.at_ K))[i]? = (fn.map DefY.val)[i]? := by rw [e]
  rw [List.getElem?_map, List.getElem?_map, h] at e2
  exact DefY.funD (Option.some.inj e2) (List.all_eq_true.mp c2 d (List.mem_of_getElem? h))
end

/-! ### facts of classes -/
open He in
/-- what a record of that kind (property, staticmethod, classmethod) at a class's name holds -/
def rcA (kind : String) (C m : Str) (K : PySem.W.Frag) : Addr := match PySem.W.recIn K (ma K (ga K C) m) kind with
  | some (.ref g :: _) => g
  | _ => 0
theorem rcA_ok {kind : String} {C m : Str} {K : PySem.W.Frag} (h : (match PySem.W.recIn K (He.ma K (He.ga K C) m) kind with | some (.ref _ :: _) => true | _ => false) = true) : ∃ rest, PySem.W.recIn K (He.ma K (He.ga K C) m) kind = some (.ref (rcA kind C m K) :: rest) := by
  unfold rcA
  split at h
  · rename_i g r q
    rw [q]
    exact ⟨r, rfl⟩
  · cases h
open He in
def propB (C f : Str) (K : PySem.W.Frag) : Bool := eqO (PySem.W.findIn K (.ref (ga K C)) f) (some (some (.ref (ma K (ga K C) f)))) && eqO (PySem.W.specialIn K (.ref (ma K (ga K C) f)) "__get__") (some (some (.builtin "property.__get__"))) &&
  decide (PySem.W.takesIn K (.ref (ma K (ga K C) f)) = some true) && (match PySem.W.recIn K (ma K (ga K C) f) "property" with | some (.ref _ :: _) => true | _ => false)
open He in
theorem propB_ok {C f : Str} {K : PySem.W.Frag} (h : propB C f K = true) : PropOf K (ga K C) f (ma K (ga K C) f) (rcA "property" C f K) := by
  obtain ⟨h1, h4⟩ := ba h
  obtain ⟨h1, h3⟩ := ba h1
  obtain ⟨h1, h2⟩ := ba h1
  exact ⟨eqO_ok h1, eqO_ok h2, of_decide_eq_true h3, rcA_ok h4⟩
open He in
def creadB (C : Str) (K : PySem.W.Frag) : Bool := PySem.W.readsIn K (ga K C) (.type "type") && eqO (PySem.W.specialIn K (.ref (ga K C)) "__getattribute__") (some (some (.builtin "type.__getattribute__")))
open He in
theorem creadB_ok {C : Str} {K : PySem.W.Frag} (h : creadB C K = true) : ClX.CRead K (ga K C) (.type "type") := by
  obtain ⟨h1, h2⟩ := ba h
  exact ⟨h1, eqO_ok h2⟩
open He in
def cvalB (C f : Str) (v : Dv) (K : PySem.W.Frag) : Bool := match PySem.W.findCls K (.ref (ga K C)) (.type "type") f with
  | some (.val u) => relB (v.v K) u
  | _ => false
open He in
theorem cvalB_ok {C f : Str} {v : Dv} {K : PySem.W.Frag} (h : cvalB C f v K = true) : ∃ u, ClX.CVal K (ga K C) (.type "type") f (v.v K) u := by
  unfold cvalB at h
  split at h
  · rename_i u q
    exact ⟨u, q, relB_ok h⟩
  · cases h
open He in
def getB (C m : Str) (kind : String) (g : String) (K : PySem.W.Frag) : Bool := (match PySem.W.findCls K (.ref (ga K C)) (.type "type") m with
  | some (.get (.builtin g') (.ref p) .none (.ref c)) => decide (g' = g) && decide (p = ma K (ga K C) m) && decide (c = ga K C)
  | _ => false) && (match PySem.W.recIn K (ma K (ga K C) m) kind with | some (.ref _ :: _) => true | _ => false)
open He in
theorem getB_ok {C m : Str} {kind g : String} {K : PySem.W.Frag} (h : getB C m kind g K = true) :
    PySem.W.findCls K (.ref (ga K C)) (.type "type") m = some (.get (.builtin g) (.ref (ma K (ga K C) m)) .none (.ref (ga K C))) ∧ ∃ rest, PySem.W.recIn K (ma K (ga K C) m) kind = some (.ref (rcA kind C m K) :: rest) := by
  obtain ⟨h1, h2⟩ := ba h
  refine ⟨?_, rcA_ok h2⟩
  split at h1
  · rename_i g' p c q
    obtain ⟨h1, e3⟩ := ba h1
    obtain ⟨e1, e2⟩ := ba h1
    rw [q, of_decide_eq_true e1, of_decide_eq_true e2, of_decide_eq_true e3]
  · cases h1
open He in
def fnInB (a : PySem.W.Frag → Addr) (K : PySem.W.Frag) : Bool := PySem.W.fnIn K (a K)
open He in
def keepB (a : PySem.W.Frag → Addr) (K : PySem.W.Frag) : Bool := PySem.W.keepIn K (.ref (a K))
open He in
/-- an instance of C, asked for its class -/
def tyB (C : Str) (K : PySem.W.Frag) : Bool := eqO (PySem.W.findIn K (.ref (ga K C)) "__class__") (some (some (.builtin "object.__class__"))) && eqO (PySem.W.specialIn K (.builtin "object.__class__") "__get__") (some (some (.builtin "getset_descriptor.__get__"))) &&
  decide (PySem.W.takesIn K (.builtin "object.__class__") = some true) && decide (PySem.W.mroIn K (ga K C) (.type "object") = some true)
open He in
theorem tyB_ok {C : Str} {K : PySem.W.Frag} (h : tyB C K = true) (cl : Cls K (ga K C)) {H : Hp} {a dx : Addr} {fs : List (Str × V)} (e : H a = some (.ins (ga K C) dx fs)) : TyX K H (.ref a) (.ref (ga K C)) := by
  obtain ⟨h1, h4⟩ := ba h
  obtain ⟨h1, h3⟩ := ba h1
  obtain ⟨h1, h2⟩ := ba h1
  exact .base (.ins e cl (eqO_ok h1) (eqO_ok h2) (of_decide_eq_true h3) (of_decide_eq_true h4))
open He in
/-- isinstance of what has the type t, by the class of the text -/
def kitC (t : PySem.W.Frag → Value) (C : Str) (b : Bool) (K : PySem.W.Frag) : Bool := decide (PySem.W.kitOne K (t K) (.ref (ga K C)) = some b)
open He in
def eqcB (C : Str) (K : PySem.W.Frag) : Bool := eqO (PySem.W.findIn K (.ref (ga K C)) "__eq__") (some (some (.ref (ma K (ga K C) "__eq__")))) && PySem.W.isFn K (.ref (ma K (ga K C) "__eq__")) && (match K.lookup (ga K C) with
  | some ⟨.type t, _, .cls cd, sl⟩ => (match sl.toList with | [_, _, _, _, some (.builtin _), _] => true | _ => false) && decide (t = "type") && decide (cd.mro = [.ref (ga K C), .type "object"]) && !cd.hasDel && (match K.lookup cd.ns with
    | some ⟨_, _, .dict es _, _⟩ => (es.toList.all fun e => match e.key with | .str _ _ => true | _ => false) && decide (nsFind es "__eq__" = some (.ref (ma K (ga K C) "__eq__"))) && decide (nsFind es "__ne__" = none)
    | _ => false)
  | _ => false) && (match K.lookup (ma K (ga K C) "__eq__") with
  | some ⟨.type t, _, _, _⟩ => decide (t = "function")
  | _ => false)
open He in
theorem eqcB_ok {C : Str} {K : PySem.W.Frag} (h : eqcB C K = true) : EqC K (ga K C) (ma K (ga K C) "__eq__") := by
  obtain ⟨h, h4⟩ := ba h
  obtain ⟨h, h3⟩ := ba h
  obtain ⟨h1, h2⟩ := ba h
  refine ⟨eqO_ok h1, h2, ?_⟩
  split at h3
  · rename_i t dd cd sl q
    obtain ⟨h3, h8⟩ := ba h3
    obtain ⟨h3, h7⟩ := ba h3
    obtain ⟨h3, h6⟩ := ba h3
    obtain ⟨h12, h5⟩ := ba h3
    obtain ⟨sl⟩ := sl
    split at h12
    case h_2 => cases h12
    rename_i k0 k1 k2 k3 nid k5 es
    have es' : sl = [k0, k1, k2, k3, some (.builtin nid), k5] := es
    subst es'
    split at h8
    · rename_i oc od es ep osl qn
      obtain ⟨h8, h11⟩ := ba h8
      obtain ⟨h9, h10⟩ := ba h8
      split at h4
      · rename_i t' od' dt' sl' qf
        refine ⟨cd.name, cd.qualname, cd.ns, cd.bases, cd.hasDict, cd.slotNames, cd.subclasses, cd.abstract, cd.collection, dd, k0, k1, k2, k3, k5, nid, _, es, ep, _, ?_, qn, rfl, ?_, of_decide_eq_true h10, of_decide_eq_true h11, qf, ?_⟩
        · rw [q]
          obtain ⟨n1, n2, n3, n4, n5, n6, n7, n8, n9, n10, n11⟩ := cd
          have e1 : n3 = [.ref (ga K C), .type "object"] := of_decide_eq_true h6
          have e2 : n11 = false := by
            have z : (!n11) = true := h7
            simpa using z
          have e3 : t = "type" := of_decide_eq_true h5
          subst e1 e2 e3
          rfl
        · intro e he
          have z := List.all_eq_true.mp h9 e (Array.mem_toList_iff.mpr he)
          split at z
          · rename_i n tk qk
            exact ⟨n, tk, qk⟩
          · cases z
        · exact congrArg Value.type (of_decide_eq_true h4)
      · cases h4
    · cases h8
  · cases h3
end Sv

namespace Sv
open PySem PySem.Spec PyProof.Rows L2

/-- the context of a def's body -/
abbrev cx (P : Program) (w : World) (K : PySem.W.Frag) (mg : Str → Option Value) (base : Heap) (N : List Str) (qual : Str) (sc : Scope) (f : Addr) (cd : Value) (A : Around) (outer : List Env) (s : Shared) (H : Hp) (E : XK) : Cx := cxOf (L2.CX P w) P w K mg base N qual sc f cd A outer s H E
section
variable {P : Program} {w : World} {K : PySem.W.Frag} {mg : Str → Option Value} {base : Heap} {N ps L G B : List Str} {k : Nat} {x qual : Str} {params : Arguments} {body : List Stmt} {sc : Scope} {f : Addr} {fd : FuncData} {sp : Sp}
theorem takes_cx {cd : Value} {A : Around} {outer : List Env} {s : Shared} {H : Hp} {E : XK} : Takes (cx P w K mg base N qual sc f cd A outer s H E) (fun cls d _ H' => E cls d H') := takes_of rfl rfl rfl rfl
theorem owns_cx {cd : Value} {A : Around} {outer : List Env} {s : Shared} {H : Hp} {E : XK} : PassesOwn (model P w) (cx P w K mg base N qual sc f cd A outer s H E).A (cx P w K mg base N qual sc f cd A outer s H E).env (cx P w K mg base N qual sc f cd A outer s H E).xe := passes_of (X := cx P w K mg base N qual sc f cd A outer s H E) rfl
/-- THE RULE for a def without defaults -/
theorem fnr_of (F : FunD K x qual params body sc [] [] f fd) (S : scB N ps L G B sc = true) (len : ∀ vs H Q E, sp vs H Q E → vs.length = ps.length)
    (hbind : ∀ (kV doc pm : Value) (an : Option Addr) (cdv ct : Value) (us : List Value), us.length = ps.length → bindArgs (PySem.W.fnOf x qual params body sc .none kV doc pm an cdv ct) ⟨us, []⟩ = pure (ps.zip us))
    (hb : ∀ x ∈ B, mg x = none)
    (hbody : ∀ (cd : Value) (A : Around) (outer : List Env) (s : Shared) (H : Hp) (vs : List V) (Q : VK) (E : XK), Room k (cx P w K mg base N qual sc f cd A outer s H E).A → Nm (cx P w K mg base N qual sc f cd A outer s H E) N L L G B → sp vs H Q E →
      WL (cx P w K mg base N qual sc f cd A outer s H E) body { nx := fun _ H' => Q .non H', rt := Q } (start N vs) H) : FnR P w K mg base (L2.CX P w) (k + 1) f sp := by
  have S' := (scB_ok S).1
  have G := F.ok (P := P) (w := w) (mg := mg) (base := base) (CX := L2.CX P w) (k := k) (sp := sp) S' len fun cdv A outer s H vs Q E hr h => ⟨WL (cx P w K mg base N qual sc f cdv A outer s H E) body, pss_w, hbody cdv A outer s H vs Q E hr (nm_of S hb) h⟩
  have R := G.raw (F.bindsN hbind) (dvs := []) .nil
  exact R.imp fun vs H Q E h => by rw [List.append_nil]; exact h
/-- THE RULE for a def with defaults dvs behind n parameters: the promise is of all parameters; called with n + j of them -/
theorem fnr_ofD {dvs : List V} (F : FunD K x qual params body sc dvs [] f fd) (S : scB N ps L G B sc = true) (len : ∀ vs H Q E, sp vs H Q E → vs.length = ps.length)
    (hb : ∀ x ∈ B, mg x = none)
    (hbody : ∀ (cd : Value) (A : Around) (outer : List Env) (s : Shared) (H : Hp) (vs : List V) (Q : VK) (E : XK), Room k (cx P w K mg base N qual sc f cd A outer s H E).A → Nm (cx P w K mg base N qual sc f cd A outer s H E) N L L G B → sp vs H Q E →
      WL (cx P w K mg base N qual sc f cd A outer s H E) body { nx := fun _ H' => Q .non H', rt := Q } (start N vs) H) : FnOk P w K mg base (L2.CX P w) (k + 1) f fd ps sp :=
  F.ok (P := P) (w := w) (mg := mg) (base := base) (CX := L2.CX P w) (k := k) (sp := sp) (scB_ok S).1 len fun cdv A outer s H vs Q E hr h => ⟨WL (cx P w K mg base N qual sc f cdv A outer s H E) body, pss_w, hbody cdv A outer s H vs Q E hr (nm_of S hb) h⟩
/-- THE RULE for a def with a star parameter -/
theorem fnr_star {pv : Str} (F : FunD K x qual params body sc [] [] f fd) (S : scB N (ps ++ [pv]) L G B sc = true)
    (hbind : ∀ (kV doc pm : Value) (an : Option Addr) (cdv ct : Value) (us rest : List Value), us.length = ps.length → bindArgs (PySem.W.fnOf x qual params body sc .none kV doc pm an cdv ct) ⟨us ++ rest, []⟩ = (newTuple rest >>= fun t => pure (ps.zip us ++ [(pv, t)])))
    (hb : ∀ x ∈ B, mg x = none)
    (hbody : ∀ (cd : Value) (A : Around) (outer : List Env) (s : Shared) (H : Hp) (vs : List V) (Q : VK) (E : XK), Room k (cx P w K mg base N qual sc f cd A outer s H E).A → Nm (cx P w K mg base N qual sc f cd A outer s H E) N L L G B → sp vs H Q E →
      WL (cx P w K mg base N qual sc f cd A outer s H E) body { nx := fun _ H' => Q .non H', rt := Q } (start N vs) H) :
    FnR P w K mg base (L2.CX P w) (k + 1) f (fun vs H Q E => ∃ ws rest, vs = ws ++ rest ∧ ws.length = ps.length ∧ rest.length ≤ sizeLine ∧ ∀ p, H p = Option.none → sp (ws ++ [V.ref p]) (upd H p (.tup rest)) Q E) := by
  obtain ⟨oc, od, dV, kV, doc, pm, an, cdv, ct, osl, rfl, lk, hcd, hD, _⟩ := F.ex
  have eD : dV = .none := by
    rcases hD with ⟨_, e⟩ | ⟨e, _⟩
    · exact e
    · exact absurd rfl e
  subst eD
  exact StX.fn_star lk hcd (scB_ok S).1 StX.cxUp (hbind kV doc pm an cdv ct) fun A outer s H vs Q E hr hsp => ⟨WL (cx P w K mg base N qual sc f cdv A outer s H E) body, pss_w, hbody cdv A outer s H vs Q E hr (nm_of S hb) hsp⟩
end

/-! ### a list of two numbers that are drawn from: what stands there is not told -/
def poolP (p : Addr) (h : Heap) : Prop := ∃ (i j : Int) (t u : Tok) (n : Nat), 0 ≤ i ∧ 0 ≤ j ∧ h.get? p = some { cls := .type "list", data := .seq #[.int i t, .int j u] n }
def pool (p : Addr) : HO := .ext (poolP p)
/-- the same state, told otherwise -/
def Abs (H H' : Hp) : Prop := ∀ (X : Cx) (pins : List (Addr × Obj)) (σ : L2.St) (s : Shared), Inv X pins σ H s → Inv X pins σ H' s
def plainHO : HO → Bool
  | .lst _ => true
  | .ext _ => true
  | _ => false
theorem swap_ho {X : Cx} {pins : List (Addr × Obj)} {σ : L2.St} {H : Hp} {s : Shared} {p : Addr} {o o' : HO} (I : Inv X pins σ H s) (h : H p = some o) (ho : plainHO o = true) (new : ObjOk X.prog X.w (upd H p o') s.heap p o') : Inv X pins σ (upd H p o') s := by
  have ne : ∀ b u, H b = some u → plainHO u = false → b ≠ p := fun b u e z q => by
    rw [q, h] at e
    cases e
    rw [ho] at z
    cases z
  have nn : ∀ b, H b = none → b ≠ p := fun b e q => by
    rw [q, h] at e
    cases e
  refine ⟨I.ok, I.os, I.bare, ⟨I.base.keep, I.base.slot, fun b ob e n hx => ?_, I.base.there, fun b xs e => ?_, fun b ob u e => ?_, fun b ps e => ?_⟩, I.loc, I.cell, ?_, fun x c e => ?_, fun q hq => ?_, fun a u e => ?_, I.len⟩
  · have z := I.base.free b ob e n hx
    rw [upd_ne (nn b z)]; exact z
  · have z := I.base.tups b xs e
    rw [upd_ne (ne b _ z rfl)]; exact z
  · have z := I.base.frzs b ob u e
    rw [upd_ne (ne b _ z rfl)]; exact z
  · obtain ⟨more, z⟩ := I.base.tbls b ps e
    exact ⟨more, by rw [upd_ne (ne b _ z rfl)]; exact z⟩
  · rw [upd_ne (nn _ I.free)]; exact I.free
  · rw [upd_ne (nn _ (I.freeC x c e))]; exact I.freeC x c e
  · obtain ⟨a1, a2, a3, a4, a5⟩ := I.pin q hq
    exact ⟨a1, by rw [upd_ne (nn _ a2)]; exact a2, a3, a4, a5⟩
  · by_cases z : a = p
    · subst z
      rw [upd_same] at e
      cases e
      exact new
    · rw [upd_ne z] at e
      exact (I.hok a u e).stay (fun b ob _ q => q) (fun b q => by rw [upd_ne (ne b _ q rfl)]; exact q) fun b xs q => by rw [upd_ne (ne b _ q rfl)]; exact q
theorem vals_ii {i j : Int} {us : List Value} (r : Vals [V.int i, V.int j] us) : ∃ t u, us = [.int i t, .int j u] := r.int2
theorem pool_abs {H : Hp} {p : Addr} {i j : Int} (h : H p = some (.lst [.int i, .int j])) (hi : 0 ≤ i) (hj : 0 ≤ j) : Abs H (upd H p (pool p)) := fun X pins σ s I => by
  obtain ⟨_, its, n, rv, e⟩ := (show ObjOk X.prog X.w H s.heap p (.lst [.int i, .int j]) from I.hok p _ h)
  obtain ⟨t, u, rfl⟩ := vals_ii rv
  exact swap_ho I h rfl ⟨⟨i, j, t, u, n, hi, hj, e⟩, ⟨_, e⟩, fun h1 h2 ⟨i, j, t, u, n, a, b, e⟩ k => ⟨i, j, t, u, n, a, b, k _ e⟩⟩
theorem pool_open {X : Cx} {pins : List (Addr × Obj)} {σ : L2.St} {H : Hp} {s : Shared} {p : Addr} (I : Inv X pins σ H s) (h : H p = some (pool p)) : ∃ i j, 0 ≤ i ∧ 0 ≤ j ∧ Inv X pins σ (upd H p (.lst [.int i, .int j])) s := by
  obtain ⟨⟨i, j, t, u, n, hi, hj, e⟩, _, _⟩ := (show ObjOk X.prog X.w H s.heap p (pool p) from I.hok p _ h)
  exact ⟨i, j, hi, hj, swap_ho I h rfl ⟨by show 2 ≤ sizeLine; decide, [.int i t, .int j u], n, .cons ⟨_, rfl⟩ (.cons ⟨_, rfl⟩ .nil), e⟩⟩
section
variable {X : Cx} {sts : List Stmt} {e : Expr} {σ : L2.St} {H : Hp} {D : Ends} {Q : VK} {p : Addr}
theorem wl_pool (h : H p = some (pool p)) (q : ∀ i j, 0 ≤ i → 0 ≤ j → WL X sts D σ (upd H p (.lst [.int i, .int j]))) : WL X sts D σ H := ⟨fun pins s I => by
  obtain ⟨i, j, hi, hj, I'⟩ := pool_open I h
  exact (q i j hi hj).run pins s I'⟩
theorem we_abs (h : WE X e σ H fun v H1 => ∃ H2, Abs H1 H2 ∧ Q v H2) : WE X e σ H Q := ⟨fun pins s I => thn (h.run pins s I) fun u s' ⟨v, H1, I1, r, H2, a, q⟩ => ⟨v, H2, a X pins σ s' I1, r, q⟩⟩
theorem wl_abs {H' : Hp} (a : Abs H H') (h : WL X sts D σ H') : WL X sts D σ H := ⟨fun pins s I => h.run pins s (a X pins σ s I)⟩
end
/-- back to what stood: p told as a pool again -/
theorem pool_back {H : Hp} {p : Addr} {o : HO} (h : H p = some (pool p)) : upd (upd H p o) p (pool p) = H := by
  rw [upd_upd]
  funext b
  by_cases z : b = p
  · subst z; rw [upd_same, h]
  · rw [upd_ne z]
end Sv

namespace Sv
open PySem PySem.Spec PyProof.Rows L2

/-! ### patterns as lists of marks -/
def sgn (b : Bool) : Nat := if b then 43 else 45
def sOf (l : List Bool) : Str := ⟨(l.map sgn).toArray⟩
def kp (l : List Bool) (n : Nat) : Bool := l.getD (n % l.length) false
/-- how many below n -/
def ct (f : Nat → Bool) : Nat → Nat
  | 0 => 0
  | n + 1 => ct f n + if f n then 1 else 0
def marks (l : List Bool) : List Nat := (List.range l.length).filter fun i => l.getD i false
def Prim (l : List Bool) : Prop := ∀ d, 0 < d → d < l.length → d ∣ l.length → ¬ ∀ i, kp l (i + d) = kp l i
structure Pat (l : List Bool) : Prop where
  one : 0 < l.length
  most : l.length ≤ 10000
  plus : true ∈ l
structure Good (l : List Bool) : Prop extends Pat l where
  prim : Prim l
theorem sgn_inj {a b : Bool} (h : sgn a = sgn b) : a = b := by
  cases a <;> cases b <;> first | rfl | (exact absurd h (by decide))
theorem sOf_len (l : List Bool) : (sOf l).length = l.length := by
  show ((l.map sgn).toArray).size = l.length
  simp
theorem sOf_list (l : List Bool) : (sOf l).cps.toList = l.map sgn := by
  show ((l.map sgn).toArray).toList = _
  simp
theorem sOf_inj {l m : List Bool} (h : sOf l = sOf m) : l = m := by
  have e : l.map sgn = m.map sgn := by rw [← sOf_list, ← sOf_list, h]
  exact List.map_inj_right (fun _ _ => sgn_inj) |>.mp e
theorem sOf_eq {l m : List Bool} : sOf l = sOf m ↔ l = m := ⟨sOf_inj, fun h => by rw [h]⟩
theorem sOf_app (l m : List Bool) : sOf l ++ sOf m = sOf (l ++ m) := by
  show (⟨(l.map sgn).toArray ++ (m.map sgn).toArray⟩ : Str) = ⟨((l ++ m).map sgn).toArray⟩
  simp
theorem str_ext {x y : Str} (h : x.cps.toList = y.cps.toList) : x = y := by
  obtain ⟨a⟩ := x
  obtain ⟨b⟩ := y
  exact congrArg Str.mk (Array.toList_inj.mp h)
theorem mem_plus {l : List Bool} : (43 ∈ l.map sgn) ↔ true ∈ l := by
  constructor
  · intro h
    obtain ⟨b, hb, e⟩ := List.mem_map.mp h
    cases b with
    | true => exact hb
    | false => exact absurd e (by decide)
  · intro h
    exact List.mem_map.mpr ⟨true, h, rfl⟩
theorem sgn_dec (b : Bool) : decide (sgn b = 43) = b := by cases b <;> rfl

/-! ### periodic predicates -/
/-- d is a period of f -/
def Per (f : Nat → Bool) (d : Nat) : Prop := ∀ i, f (i + d) = f i
theorem Per.mul {f : Nat → Bool} {d : Nat} (h : Per f d) : ∀ q i, f (i + q * d) = f i
  | 0, i => by simp
  | q + 1, i => by rw [Nat.succ_mul, ← Nat.add_assoc, h, h.mul q i]
theorem Per.times {f : Nat → Bool} {d : Nat} (h : Per f d) (q : Nat) : Per f (q * d) := fun i => h.mul q i
theorem Per.dvd {f : Nat → Bool} {d e : Nat} (h : Per f d) (k : d ∣ e) : Per f e := by
  obtain ⟨q, rfl⟩ := k
  rw [Nat.mul_comm]
  exact h.times q
theorem Per.mod {f : Nat → Bool} {d : Nat} (h : Per f d) (i : Nat) : f (i % d) = f i := by
  have := h.mul (i / d) (i % d)
  rw [← this, Nat.mul_comm, Nat.mod_add_div]
theorem Per.sub {f : Nat → Bool} {a b : Nat} (ha : Per f a) (hb : Per f b) (h : b ≤ a) : Per f (a - b) := fun i => by
  have e : i + (a - b) + b = i + a := by omega
  rw [← hb (i + (a - b)), e, ha]
theorem Per.gcd {f : Nat → Bool} {a b : Nat} (ha : Per f a) (hb : Per f b) : Per f (Nat.gcd a b) := by
  induction a, b using Nat.gcd.induction with
  | H0 n => rw [Nat.gcd_zero_left]; exact hb
  | H1 m n _ ih =>
    rw [Nat.gcd_rec]
    refine ih ?_ ha
    intro i
    have e : n % m + n / m * m = n := by rw [Nat.mul_comm]; exact Nat.mod_add_div n m
    rw [← ha.mul (n / m) (i + n % m), Nat.add_assoc, e, hb]
theorem kp_per (l : List Bool) : Per (kp l) l.length := fun i => by
  unfold kp
  rw [Nat.add_mod_right]
theorem kp_lt {l : List Bool} {i : Nat} (h : i < l.length) : kp l i = l[i] := by
  unfold kp
  rw [Nat.mod_eq_of_lt h, List.getD_eq_getElem?_getD, List.getElem?_eq_getElem h]
  rfl
theorem kp_ext {l m : List Bool} (hl : l.length = m.length) (h : ∀ i, i < l.length → kp l i = kp m i) : l = m := by
  apply List.ext_getElem hl
  intro i h1 h2
  rw [← kp_lt h1, ← kp_lt h2, h i h1]
/-- the list of a predicate's first n -/
def lof (f : Nat → Bool) (n : Nat) : List Bool := (List.range n).map f
theorem lof_len (f : Nat → Bool) (n : Nat) : (lof f n).length = n := by simp [lof]
theorem kp_lof {f : Nat → Bool} {n : Nat} (h : Per f n) (h0 : 0 < n) (i : Nat) : kp (lof f n) i = f i := by
  unfold kp
  rw [lof_len, List.getD_eq_getElem?_getD]
  have hi : i % n < n := Nat.mod_lt _ h0
  simp [lof, hi]
  exact h.mod i
theorem lof_kp (l : List Bool) : lof (kp l) l.length = l := by
  apply kp_ext (lof_len _ _)
  intro i h
  by_cases h0 : 0 < l.length
  · exact kp_lof (kp_per l) h0 i
  · rw [lof_len] at h; omega
theorem Good.period {l : List Bool} (g : Good l) {d : Nat} (h0 : 0 < d) (h : Per (kp l) d) : l.length ∣ d := by
  have hg := (kp_per l).gcd h
  have h1 : Nat.gcd l.length d ∣ l.length := Nat.gcd_dvd_left _ _
  have h2 : Nat.gcd l.length d ≤ l.length := Nat.le_of_dvd g.one h1
  have h3 : 0 < Nat.gcd l.length d := Nat.gcd_pos_of_pos_left _ g.one
  by_cases e : Nat.gcd l.length d = l.length
  · rw [← e]; exact Nat.gcd_dvd_right _ _
  · exact absurd hg (g.prim _ h3 (by omega) h1)
theorem Good.uniq {l m : List Bool} (g : Good l) (k : Good m) (h : ∀ n, kp l n = kp m n) : l = m := by
  have e1 : l.length ∣ m.length := g.period k.one (fun i => by rw [h, h]; exact kp_per m i)
  have e2 : m.length ∣ l.length := k.period g.one (fun i => by rw [← h, ← h]; exact kp_per l i)
  exact kp_ext (Nat.dvd_antisymm e1 e2) fun i _ => h i
theorem plus_kp {l : List Bool} (h : true ∈ l) : ∃ i, i < l.length ∧ kp l i = true := by
  obtain ⟨i, hi, e⟩ := List.getElem_of_mem h
  exact ⟨i, hi, by rw [kp_lt hi, e]⟩
theorem kp_plus {l : List Bool} (h0 : 0 < l.length) {i : Nat} (h : kp l i = true) : true ∈ l := by
  have hi : i % l.length < l.length := Nat.mod_lt _ h0
  have e : kp l (i % l.length) = true := by rw [(kp_per l).mod]; exact h
  rw [kp_lt hi] at e
  rw [← e]
  exact List.getElem_mem hi

/-! ### the least pattern -/
/-- d cuts l into equal parts -/
def Cuts (l : List Bool) (d : Nat) : Prop := d ∣ l.length ∧ Per (kp l) d
theorem take_kp {l : List Bool} {d : Nat} (h0 : 0 < d) (hd : d ≤ l.length) (h : Per (kp l) d) (i : Nat) : kp (l.take d) i = kp l i := by
  have e : (l.take d).length = d := by rw [List.length_take]; omega
  have hi : i % d < d := Nat.mod_lt _ h0
  have : kp (l.take d) i = kp l (i % d) := by
    have e1 : kp (l.take d) i = kp (l.take d) (i % d) := by
      have := ((kp_per (l.take d)).mod i)
      rw [e] at this
      exact this.symm
    rw [e1, kp_lt (by rw [e]; exact hi), kp_lt (by omega), List.getElem_take]
  rw [this, h.mod]
theorem rep_getD {xs : List Bool} {k i : Nat} (h : i < k * xs.length) : ((List.replicate k xs).flatten).getD i false = xs.getD (i % xs.length) false := by
  induction k generalizing i with
  | zero => simp at h
  | succ k ih =>
    rw [List.replicate_succ, List.flatten_cons, List.getD_eq_getElem?_getD]
    by_cases hi : i < xs.length
    · rw [List.getElem?_append_left hi, Nat.mod_eq_of_lt hi, List.getD_eq_getElem?_getD]
    · rw [List.getElem?_append_right (by omega), ← List.getD_eq_getElem?_getD, ih (by rw [Nat.succ_mul] at h; omega)]
      rw [← Nat.mod_eq_sub_mod (by omega)]
theorem rep_len (k : Nat) (xs : List Bool) : ((List.replicate k xs).flatten).length = k * xs.length := by simp
theorem cuts_iff {l : List Bool} {d : Nat} (h0 : 0 < d) (hd : d ≤ l.length) (hm : l.length % d = 0) : l = (List.replicate (l.length / d) (l.take d)).flatten ↔ Per (kp l) d := by
  have et : (l.take d).length = d := by rw [List.length_take]; omega
  have el : l.length / d * d = l.length := Nat.div_mul_cancel (Nat.dvd_of_mod_eq_zero hm)
  have elen : ((List.replicate (l.length / d) (l.take d)).flatten).length = l.length := by rw [rep_len, et, el]
  have key : ∀ i, i < l.length → kp ((List.replicate (l.length / d) (l.take d)).flatten) i = (l.take d).getD (i % d) false := fun i hi => by
    unfold kp
    rw [elen, Nat.mod_eq_of_lt hi, rep_getD (by rw [et, el]; exact hi), et]
  constructor
  · intro e i
    have z : ∀ j, kp l j = (l.take d).getD (j % d) false := fun j => by
      have hj : j % l.length < l.length := Nat.mod_lt _ (by omega)
      rw [← (kp_per l).mod j]
      have := key _ hj
      rw [← e] at this
      rw [this]
      congr 1
      exact Nat.mod_mod_of_dvd j (Nat.dvd_of_mod_eq_zero hm)
    rw [z, z, Nat.add_mod_right]
  · intro h
    apply kp_ext elen.symm
    intro i hi
    rw [key i hi]
    rw [← take_kp h0 hd h i]
    unfold kp
    rw [et]
theorem least_good {l : List Bool} {d : Nat} (p : Pat l) (h0 : 0 < d) (hd : d ≤ l.length) (hc : Cuts l d) (hn : ∀ e, 0 < e → e < d → ¬ Cuts l e) : Good (l.take d) ∧ (∀ n, kp (l.take d) n = kp l n) ∧ (l.take d).length ∣ l.length := by
  have et : (l.take d).length = d := by rw [List.length_take]; omega
  have hk := take_kp h0 hd hc.2
  refine ⟨⟨⟨by rw [et]; exact h0, by rw [et]; have := p.most; omega, ?_⟩, ?_⟩, hk, by rw [et]; exact hc.1⟩
  · obtain ⟨i, _, e⟩ := plus_kp p.plus
    exact kp_plus (by rw [et]; exact h0) (by rw [hk]; exact e)
  · intro e h1 h2 h3 h4
    rw [et] at h2 h3
    exact hn e h1 h2 ⟨Nat.dvd_trans h3 hc.1, fun i => by rw [← hk, ← hk]; exact h4 i⟩

/-! ### counting -/
theorem ct_le (f : Nat → Bool) (n : Nat) : ct f n ≤ n := by
  induction n with
  | zero => exact Nat.le_refl _
  | succ n ih => rw [ct]; split <;> omega
theorem ct_mono (f : Nat → Bool) {a b : Nat} (h : a ≤ b) : ct f a ≤ ct f b := by
  induction h with
  | refl => exact Nat.le_refl _
  | step _ ih => rw [ct]; omega
theorem ct_succ (f : Nat → Bool) (n : Nat) : ct f (n + 1) = ct f n + if f n then 1 else 0 := rfl
theorem ct_succ_t {f : Nat → Bool} {n : Nat} (h : f n = true) : ct f (n + 1) = ct f n + 1 := by rw [ct, h]; rfl
theorem ct_succ_f {f : Nat → Bool} {n : Nat} (h : f n = false) : ct f (n + 1) = ct f n := by rw [ct, h]; rfl
theorem ct_add {f : Nat → Bool} {p : Nat} (h : Per f p) (r : Nat) : ct f (p + r) = ct f p + ct f r := by
  induction r with
  | zero => rfl
  | succ r ih => rw [← Nat.add_assoc, ct, ct, ih, Nat.add_comm p r, h]; omega
theorem ct_mul {f : Nat → Bool} {p : Nat} (h : Per f p) (q r : Nat) : ct f (q * p + r) = q * ct f p + ct f r := by
  induction q with
  | zero => simp
  | succ q ih =>
    have e : (q + 1) * p + r = p + (q * p + r) := by rw [Nat.succ_mul]; omega
    rw [e, ct_add h, ih, Nat.succ_mul]; omega
theorem ct_mod {f : Nat → Bool} {p : Nat} (h : Per f p) (n : Nat) : ct f n = n / p * ct f p + ct f (n % p) := by
  rw [← ct_mul h, Nat.mul_comm, Nat.div_add_mod]
theorem ct_congr {f g : Nat → Bool} {n : Nat} (h : ∀ i, i < n → f i = g i) : ct f n = ct g n := by
  induction n with
  | zero => rfl
  | succ n ih => rw [ct, ct, ih (fun i hi => h i (by omega)), h n (by omega)]
/-- strictly: two kept numbers with one count are one -/
theorem ct_inj {f : Nat → Bool} {a b : Nat} (ha : f a = true) (hb : f b = true) (h : ct f a = ct f b) : a = b := by
  rcases Nat.lt_trichotomy a b with l | l | l
  · have := ct_mono f (show a + 1 ≤ b from l)
    rw [ct_succ_t ha] at this; omega
  · exact l
  · have := ct_mono f (show b + 1 ≤ a from l)
    rw [ct_succ_t hb] at this; omega
theorem ct_lt {f : Nat → Bool} {a b : Nat} (ha : f a = true) (h : a < b) : ct f a < ct f b := by
  have := ct_mono f (show a + 1 ≤ b from h)
  rw [ct_succ_t ha] at this; omega
theorem ct_lof (f : Nat → Bool) (n : Nat) : ((List.range n).filter f).length = ct f n := by
  induction n with
  | zero => rfl
  | succ n ih =>
    rw [List.range_succ, List.filter_append, List.length_append, ih, ct]
    cases h : f n <;> simp [h]
/-- the k-th below n -/
theorem filter_range {f : Nat → Bool} {n k : Nat} (h : k < ct f n) : ∃ m, ((List.range n).filter f)[k]? = some m ∧ m < n ∧ f m = true ∧ ct f m = k := by
  induction n with
  | zero => simp [ct] at h
  | succ n ih =>
    rw [List.range_succ, List.filter_append]
    by_cases hk : k < ct f n
    · obtain ⟨m, e, h1, h2, h3⟩ := ih hk
      exact ⟨m, by rw [List.getElem?_append_left (by rw [ct_lof]; exact hk)]; exact e, by omega, h2, h3⟩
    · cases hf : f n with
      | false => rw [ct_succ_f hf] at h; exact absurd h hk
      | true =>
        rw [ct_succ_t hf] at h
        have ek : k = ct f n := by omega
        refine ⟨n, ?_, by omega, hf, ek.symm⟩
        rw [List.getElem?_append_right (by rw [ct_lof]; omega), ct_lof, ek]
        simp [hf]
/-- sieves with something have an element of each index -/
theorem ct_pos {f : Nat → Bool} {p : Nat} (h : ∃ i, i < p ∧ f i = true) : 0 < ct f p := by
  obtain ⟨i, hi, e⟩ := h
  have := ct_lt e hi
  omega
theorem nth_ex {f : Nat → Bool} {p : Nat} (h : Per f p) (hp : 0 < ct f p) (i : Nat) : ∃ n, f n = true ∧ ct f n = i ∧ n / p = i / ct f p ∧ ct f (n % p) = i % ct f p ∧ n % p < p := by
  have hr : i % ct f p < ct f p := Nat.mod_lt _ hp
  obtain ⟨m, _, h1, h2, h3⟩ := filter_range hr
  have p0 : 0 < p := by omega
  refine ⟨i / ct f p * p + m, by rw [Nat.add_comm, h.mul]; exact h2, by rw [ct_mul h, h3, Nat.mul_comm, Nat.div_add_mod], ?_, ?_, Nat.mod_lt _ p0⟩
  · rw [Nat.mul_comm, Nat.mul_add_div p0, Nat.div_eq_of_lt h1, Nat.add_zero]
  · rw [Nat.mul_comm, Nat.mul_add_mod, Nat.mod_eq_of_lt h1, h3]
theorem marks_eq (l : List Bool) : marks l = (List.range l.length).filter (kp l) := by
  unfold marks
  apply List.filter_congr
  intro i hi
  have := List.mem_range.mp hi
  rw [kp_lt this, List.getD_eq_getElem?_getD, List.getElem?_eq_getElem this]; rfl
theorem marks_step {m : List Bool} {i : Nat} (h : i < m.length) : (List.range (i + 1)).filter (fun i => m.getD i false) = (List.range i).filter (fun i => m.getD i false) ++ if m[i] then [i] else [] := by
  rw [List.range_succ, List.filter_append]
  congr 1
  cases e : m[i] <;> simp [List.getElem?_eq_getElem h, e]
theorem marks_len (l : List Bool) : (marks l).length = ct (kp l) l.length := by rw [marks_eq, ct_lof]
theorem Pat.size {l : List Bool} (p : Pat l) : 0 < ct (kp l) l.length := ct_pos (plus_kp p.plus)
/-! ### composition -/
/-- what the second keeps of what the first keeps -/
def cmp (f g : Nat → Bool) (n : Nat) : Bool := f n && g (ct f n)
theorem ct_cmp (f g : Nat → Bool) (n : Nat) : ct (cmp f g) n = ct g (ct f n) := by
  induction n with
  | zero => rfl
  | succ n ih =>
    cases h : f n with
    | false => rw [ct_succ_f h, ← ih, ct_succ_f (by unfold cmp; rw [h]; rfl)]
    | true =>
      rw [ct_succ_t h]
      cases h2 : g (ct f n) with
      | false => rw [ct_succ_f h2, ← ih, ct_succ_f (by unfold cmp; rw [h, h2]; rfl)]
      | true => rw [ct_succ_t h2, ← ih, ct_succ_t (by unfold cmp; rw [h, h2]; rfl)]
theorem cmp_assoc (f g h : Nat → Bool) (n : Nat) : cmp (cmp f g) h n = cmp f (cmp g h) n := by
  show (cmp f g n && h (ct (cmp f g) n)) = (f n && (g (ct f n) && h (ct g (ct f n))))
  rw [ct_cmp]
  unfold cmp
  rw [Bool.and_assoc]
/-- lengths: p1 numbers of which s1 are kept; L is a multiple of s1 and of p2 -/
theorem cmp_per {f g : Nat → Bool} {p1 p2 L : Nat} (hf : Per f p1) (hg : Per g p2) (hs : 0 < ct f p1) (h1 : ct f p1 ∣ L) (h2 : p2 ∣ L) : Per (cmp f g) (p1 * (L / ct f p1)) := by
  intro n
  have e1 : Per f (p1 * (L / ct f p1)) := hf.dvd (Nat.dvd_mul_right _ _)
  have e2 : ct f (n + p1 * (L / ct f p1)) = ct f n + L := by
    have := ct_mul hf (L / ct f p1) n
    rw [Nat.mul_comm p1, Nat.add_comm n, this, Nat.div_mul_cancel h1, Nat.add_comm]
  show (f (n + _) && g (ct f (n + _))) = (f n && g (ct f n))
  rw [e1, e2, hg.dvd h2]
theorem ct_top {f : Nat → Bool} {p1 L : Nat} (hf : Per f p1) (h1 : ct f p1 ∣ L) : ct f (p1 * (L / ct f p1)) = L := by
  have := ct_mul hf (L / ct f p1) 0
  rw [Nat.add_zero] at this
  rw [Nat.mul_comm, this]
  show L / ct f p1 * ct f p1 + 0 = L
  rw [Nat.add_zero, Nat.div_mul_cancel h1]
/-- a number with f of each count -/
theorem nth_of {f : Nat → Bool} {p : Nat} (h : Per f p) (hp : 0 < ct f p) (i : Nat) : ∃ n, f n = true ∧ ct f n = i := by
  obtain ⟨n, a, b, _⟩ := nth_ex h hp i
  exact ⟨n, a, b⟩
theorem cmp_ex {f g : Nat → Bool} {p : Nat} (h : Per f p) (hp : 0 < ct f p) (hg : ∃ i, g i = true) : ∃ n, cmp f g n = true := by
  obtain ⟨i, hi⟩ := hg
  obtain ⟨n, a, b⟩ := nth_of h hp i
  exact ⟨n, by unfold cmp; rw [a, b, hi]; rfl⟩
/-- how many the composition keeps -/
theorem cmp_size {f g : Nat → Bool} {p1 p2 L : Nat} (hf : Per f p1) (hg : Per g p2) (h1 : ct f p1 ∣ L) (h2 : p2 ∣ L) : ct (cmp f g) (p1 * (L / ct f p1)) = L / p2 * ct g p2 := by
  rw [ct_cmp, ct_top hf h1]
  obtain ⟨q, rfl⟩ := h2
  have := ct_mul hg q 0
  rw [Nat.add_zero, Nat.mul_comm q] at this
  by_cases hp : 0 < p2
  · rw [this, Nat.mul_div_cancel_left q hp]; rfl
  · have : p2 = 0 := by omega
    subst this
    simp [ct]
/-! ### densities -/
theorem per_ratio {f : Nat → Bool} {a b : Nat} (ha : Per f a) (hb : Per f b) : ct f a * b = ct f b * a := by
  have e1 := ct_mul ha b 0
  have e2 := ct_mul hb a 0
  rw [Nat.add_zero] at e1 e2
  rw [Nat.mul_comm b a] at e1
  rw [e1] at e2
  have e3 : b * ct f a = a * ct f b := by simpa [ct] using e2
  rw [Nat.mul_comm, e3, Nat.mul_comm]
/-- the density of a composition is the product -/
theorem cmp_dens {f g : Nat → Bool} {p1 p2 p3 : Nat} (hf : Per f p1) (hg : Per g p2) (h3 : Per (cmp f g) p3) (hs : 0 < ct f p1) (h2 : 0 < p2) (h0 : 0 < p1) : ct f p1 * ct g p2 * p3 = p1 * p2 * ct (cmp f g) p3 := by
  -- over p1 * p2 numbers
  have hL1 : ct f p1 ∣ ct f p1 * p2 := Nat.dvd_mul_right _ _
  have hL2 : p2 ∣ ct f p1 * p2 := Nat.dvd_mul_left _ _
  have hP := cmp_per hf hg hs hL1 hL2
  have hS := cmp_size hf hg hL1 hL2
  rw [Nat.mul_div_cancel_left p2 hs] at hP hS
  rw [Nat.mul_div_cancel _ h2] at hS
  have e := per_ratio hP h3
  rw [hS] at e
  rw [e, Nat.mul_comm]
/-- reduced fractions multiply -/
theorem red_mul {s1 p1 s2 p2 s3 p3 g1 g2 g3 : Nat} (h : s1 * s2 * p3 = p1 * p2 * s3) (d1 : g1 ∣ s1) (e1 : g1 ∣ p1) (d2 : g2 ∣ s2) (e2 : g2 ∣ p2) (d3 : g3 ∣ s3) (e3 : g3 ∣ p3) (q1 : 0 < g1) (q2 : 0 < g2) (q3 : 0 < g3) :
    (s1 / g1) * (s2 / g2) * (p3 / g3) = (p1 / g1) * (p2 / g2) * (s3 / g3) := by
  obtain ⟨a1, rfl⟩ := d1
  obtain ⟨b1, rfl⟩ := e1
  obtain ⟨a2, rfl⟩ := d2
  obtain ⟨b2, rfl⟩ := e2
  obtain ⟨a3, rfl⟩ := d3
  obtain ⟨b3, rfl⟩ := e3
  rw [Nat.mul_div_cancel_left _ q1, Nat.mul_div_cancel_left _ q1, Nat.mul_div_cancel_left _ q2, Nat.mul_div_cancel_left _ q2, Nat.mul_div_cancel_left _ q3, Nat.mul_div_cancel_left _ q3]
  have q : 0 < g1 * g2 * g3 := Nat.mul_pos (Nat.mul_pos q1 q2) q3
  apply Nat.eq_of_mul_eq_mul_left q
  have l : g1 * g2 * g3 * (a1 * a2 * b3) = g1 * a1 * (g2 * a2) * (g3 * b3) := by
    simp only [Nat.mul_assoc, Nat.mul_comm, Nat.mul_left_comm]
  have r : g1 * g2 * g3 * (b1 * b2 * a3) = g1 * b1 * (g2 * b2) * (g3 * a3) := by
    simp only [Nat.mul_assoc, Nat.mul_comm, Nat.mul_left_comm]
  rw [l, r, h]
/-- the survivors of a composition -/
theorem cmp_nth {f g : Nat → Bool} {i a b c : Nat} (h1 : cmp f g a = true) (h2 : ct (cmp f g) a = i) (h3 : g b = true) (h4 : ct g b = i) (h5 : f c = true) (h6 : ct f c = b) : a = c := by
  have k1 : cmp f g c = true := by unfold cmp; rw [h5, h6, h3]; rfl
  have k2 : ct (cmp f g) c = i := by rw [ct_cmp, h6, h4]
  exact ct_inj h1 k1 (by rw [h2, k2])
theorem comp_small {l m : List Bool} {a b : Nat} (gl : Pat l) (gm : Pat m) (ha : l.length ≤ a) (hb : m.length ≤ b) (h1 : a * b ≤ 10000) (h2 : a * b < 4090) : l.length * (Nat.lcm (ct (kp l) l.length) m.length / ct (kp l) l.length) ≤ 10000 ∧ ct (kp m) (Nat.lcm (ct (kp l) l.length) m.length) < 4090 := by
  have s1 := gl.size
  have s2 := ct_le (kp l) l.length
  have hab : l.length * m.length ≤ a * b := Nat.mul_le_mul ha hb
  have hd : Nat.lcm (ct (kp l) l.length) m.length ∣ ct (kp l) l.length * m.length := Nat.lcm_dvd_mul _ _
  have hle : Nat.lcm (ct (kp l) l.length) m.length ≤ ct (kp l) l.length * m.length := Nat.le_of_dvd (Nat.mul_pos s1 gm.one) hd
  constructor
  · have h3 : Nat.lcm (ct (kp l) l.length) m.length / ct (kp l) l.length ≤ m.length := by
      refine Nat.div_le_of_le_mul hle
    have := Nat.mul_le_mul_left l.length h3
    omega
  · have h3 := ct_le (kp m) (Nat.lcm (ct (kp l) l.length) m.length)
    have := Nat.mul_le_mul_right m.length s2
    omega
theorem ct_true (n : Nat) : ct (fun _ => true) n = n := by
  induction n with
  | zero => rfl
  | succ n ih => rw [ct_succ, ih]; rfl
theorem cmp_top (f : Nat → Bool) : cmp (fun _ => true) f = f := funext fun n => by
  unfold cmp
  rw [ct_true]; rfl
theorem cmp_all (f : Nat → Bool) : cmp f (fun _ => true) = f := funext fun n => by
  unfold cmp
  exact Bool.and_true _
theorem cmp_assoc' (f g h : Nat → Bool) : cmp (cmp f g) h = cmp f (cmp g h) := funext fun n => cmp_assoc f g h n
theorem kp_one : kp [true] = fun _ => true := funext fun k => by
  unfold kp
  rw [show k % [true].length = 0 from Nat.mod_one k]; rfl
/-- a period of a composition, by those of the parts -/
theorem cmp_small {f g : Nat → Bool} {p q a b : Nat} (hf : Per f p) (hg : Per g q) (hs : 0 < ct f p) (h0 : 0 < q) (ha : p ≤ a) (hb : q ≤ b) : ∃ r, 0 < r ∧ r ≤ a * b ∧ Per (cmp f g) r := by
  have h1 : ct f p ∣ ct f p * q := Nat.dvd_mul_right _ _
  have h2 : q ∣ ct f p * q := Nat.dvd_mul_left _ _
  have hP := cmp_per hf hg hs h1 h2
  rw [Nat.mul_div_cancel_left q hs] at hP
  have hp : 0 < p := by
    by_cases z : p = 0
    · rw [z] at hs; simp [ct] at hs
    · omega
  exact ⟨p * q, Nat.mul_pos hp h0, Nat.mul_le_mul ha hb, hP⟩
theorem Good.le {l : List Bool} (g : Good l) {r : Nat} (h0 : 0 < r) (h : Per (kp l) r) : l.length ≤ r := Nat.le_of_dvd h0 (g.period h0 h)
theorem cmp_good {l m r : List Bool} (gl : Pat l) (gm : Pat m) (gr : Good r) (h : ∀ n, kp r n = cmp (kp l) (kp m) n) {a b : Nat} (ha : l.length ≤ a) (hb : m.length ≤ b) : r.length ≤ a * b := by
  obtain ⟨q, h0, h1, h2⟩ := cmp_small (kp_per l) (kp_per m) gl.size gm.one ha hb
  have e : kp r = cmp (kp l) (kp m) := funext h
  exact Nat.le_trans (gr.le h0 (by rw [e]; exact h2)) h1
end Sv

namespace Sv
open PySem PySem.Spec PyProof.Rows L2
section
variable {X : Cx} {σ : L2.St} {H : Hp} {Q : VK}
/-- s * n -/
def repS (x : Str) (n : Nat) : Str := ⟨(List.replicate n x.cps.toList).flatten.toArray⟩
theorem fold_rep (x : Array Nat) : ∀ (n : Nat) (a : Array Nat), ((List.replicate n x).foldl (· ++ ·) a).toList = a.toList ++ (List.replicate n x.toList).flatten
  | 0, a => by simp
  | n + 1, a => by
    rw [List.replicate_succ, List.foldl_cons, fold_rep x n (a ++ x), List.replicate_succ, List.flatten_cons, Array.toList_append, List.append_assoc]
theorem fold_repS (x : Str) (n : Nat) : (⟨(List.replicate n x.cps).foldl (· ++ ·) #[]⟩ : Str) = repS x n := by
  apply str_ext
  show ((List.replicate n x.cps).foldl (· ++ ·) #[]).toList = ((List.replicate n x.cps.toList).flatten.toArray).toList
  rw [fold_rep]
  simp
theorem b_mulS {x : Str} {n : Int} (h0 : 0 ≤ n) (hn : n ≤ 16777216) (hz : x.length * n.toNat ≤ 16777216) (q : Q (.str (repS x n.toNat)) H) : WB X (binaryOp .Mult) (.str x) (.int n) σ H Q := by
  refine ⟨fun pins s v u I rx ry => ?_⟩
  obtain ⟨t, rfl⟩ := rx
  obtain ⟨t', rfl⟩ := ry
  have hsz : (repS x n.toNat).length = x.length * n.toNat := by
    show ((List.replicate n.toNat x.cps.toList).flatten.toArray).size = x.cps.size * n.toNat
    simp [Nat.mul_comm]
  refine P.mul_str ?_ (fun h1 h2 h3 => ?_) (fun h1 h2 => ?_) ?_
  · have h1 : ¬ n < -(2 ^ 63 : Int) := by omega
    have h2 : ¬ n ≥ 2 ^ 63 := by omega
    rw [decide_eq_false h1, decide_eq_false h2]; rfl
  · have n1 : 1 ≤ n := by omega
    have h5 : (x.length : Int) ≤ 16777216 := by
      have : x.length ≤ x.length * n.toNat := Nat.le_mul_of_pos_right _ (by omega)
      omega
    have h4 : (1000000000 : Int) ≤ (2 ^ 63 - 1) / n := by
      rw [Int.le_ediv_iff_mul_le (by omega)]
      omega
    omega
  · show decide (x.length * n.toNat > sizeLine) = false
    rw [sizeLine_eq]
    exact decide_eq_false (by omega)
  · by_cases hc : n < 1
    · rw [if_pos hc]
      have e : n.toNat = 0 := by omega
      have e2 : repS x n.toNat = Str.empty := by rw [e]; rfl
      rw [e2] at q
      exact ⟨by show 0 ≤ sizeLine; decide, .str Str.empty, H, I.tok _, ⟨_, rfl⟩, q⟩
    · rw [if_neg hc]
      by_cases h2 : (n == 1 || x.length == 0) = true
      · rw [if_pos h2]
        have e2 : repS x n.toNat = x := by
          apply str_ext
          show ((List.replicate n.toNat x.cps.toList).flatten.toArray).toList = _
          rw [Bool.or_eq_true] at h2
          rcases h2 with h2 | h2
          · have : n = 1 := by simpa using h2
            rw [this]; simp
          · have h3 : x.length = 0 := by simpa using h2
            have e3 : x.cps = #[] := Array.eq_empty_of_size_eq_zero h3
            rw [e3]; simp
        rw [e2] at q
        exact ⟨.str x, H, I, ⟨_, rfl⟩, q⟩
      · rw [if_neg h2, fold_repS]
        exact ⟨by rw [hsz, sizeLine_eq]; exact hz, .str _, H, I.tok _, ⟨_, rfl⟩, q⟩
theorem rep_sOf (l : List Bool) (n : Nat) : repS (sOf l) n = sOf ((List.replicate n l).flatten) := by
  apply str_ext
  rw [sOf_list]
  show ((List.replicate n (sOf l).cps.toList).flatten.toArray).toList = _
  rw [sOf_list]
  simp
theorem cut_sOf (l : List Bool) (a b : Option Int) : cutS (sOf l) a b = sOf ((l.drop (HT.sIx l.length 0 a)).take (HT.sIx l.length l.length b - HT.sIx l.length 0 a)) := by
  apply str_ext
  rw [sOf_list]
  show (((sOf l).cps.toList.drop (HT.sIx (sOf l).length 0 a)).take (HT.sIx (sOf l).length (sOf l).length b - HT.sIx (sOf l).length 0 a)).toArray.toList = _
  rw [sOf_list, sOf_len]
  simp [List.map_take, List.map_drop]
theorem cut_to (l : List Bool) {d : Nat} {i : Int} (e : i = d) (h : d ≤ l.length) : cutS (sOf l) none (some i) = sOf (l.take d) := by
  rw [cut_sOf, e, HT.sIx_nat, HT.sIx_none]
  simp
  rw [Nat.min_eq_left h]
theorem cut_from (l : List Bool) {d : Nat} {i : Int} (e : i = d) (h : d ≤ l.length) : cutS (sOf l) (some i) none = sOf (l.drop d) := by
  rw [cut_sOf, e, HT.sIx_nat, HT.sIx_none, Nat.min_eq_left h]
  congr 1
  rw [List.take_of_length_le (by simp)]
/-- the sign at a place -/
theorem signAt_sOf {l : List Bool} {i : Nat} (h : i < l.length) : signAt (sOf l) i = .str ⟨#[sgn l[i]]⟩ := by
  unfold signAt
  rw [Array.getD_eq_getD_getElem?]
  have : (sOf l).cps[i]? = some (sgn l[i]) := by
    rw [← Array.getElem?_toList, sOf_list]
    simp [h]
  rw [this]; rfl
theorem sOf_at {l : List Bool} {i : Nat} {k : Int} (e : k = i) (h : i < l.length) : atI (sOf l).cps.toList k = some (sgn l[i]) := by
  unfold atI ixN
  rw [sOf_list, List.length_map, e, if_pos (by omega), if_pos (by omega)]
  simp [h]
theorem at_of {α : Type} {xs : List α} {i : Nat} {k : Int} {v : α} (e : k = i) (h : xs[i]? = some v) : atI xs k = some v := by
  have hi : i < xs.length := (List.getElem?_eq_some_iff.mp h).1
  unfold atI ixN
  rw [e, if_pos (by omega), if_pos (by omega)]
  simpa using h
theorem plus_str : ("+" : Str) = ⟨#[43]⟩ := by decide +kernel
theorem minus_str : ("-" : Str) = ⟨#[45]⟩ := by decide +kernel
theorem pm_str : ("+-" : Str) = ⟨#[43, 45]⟩ := by decide +kernel
theorem plus_sOf : ("+" : Str) = sOf [true] := by decide +kernel
theorem minus_sOf : ("-" : Str) = sOf [false] := by decide +kernel
theorem one_eq {a b : Nat} : decide ((⟨#[a]⟩ : Str) = ⟨#[b]⟩) = decide (a = b) := by
  by_cases h : a = b
  · rw [h]; simp
  · rw [decide_eq_false h]
    refine decide_eq_false fun e => h ?_
    have : (#[a] : Array Nat) = #[b] := congrArg Str.cps e
    simpa using this
theorem join_sOf (bs : List Bool) : Txt.join ("" : Str) (bs.map fun b => sOf [b]) = sOf bs := by
  have e0 : ("" : Str) = sOf [] := by decide +kernel
  show Builtin.Str.glued ("" : Str) _ = _
  rw [StrLaws.glued_eq_join]
  induction bs with
  | nil => rfl
  | cons b r ih =>
    cases r with
    | nil => rfl
    | cons c r =>
      show sOf [b] ++ ("" : Str) ++ Str.join ("" : Str) ((c :: r).map fun b => sOf [b]) = _
      rw [ih, e0, sOf_app, sOf_app]
      simp
theorem cnt_sgn (l : List Bool) : PyProof.Rows.cnt 43 (l.map sgn) = (l.countP (fun b => b) : Nat) := by
  induction l with
  | nil => rfl
  | cons b r ih =>
    rw [List.map_cons, cnt_cons, ih, List.countP_cons]
    cases b <;> simp [sgn] <;> omega
theorem countP_ct (l : List Bool) : l.countP (fun b => b) = ct (kp l) l.length := by
  have key : ∀ n, n ≤ l.length → (l.take n).countP (fun b => b) = ct (kp l) n := by
    intro n
    induction n with
    | zero => intro _; simp [ct]
    | succ n ih =>
      intro h
      rw [List.take_succ_eq_append_getElem (by omega), List.countP_append, ih (by omega), ct, kp_lt (show n < l.length by omega)]
      simp [List.countP_cons]
  have := key l.length (Nat.le_refl _)
  rwa [List.take_length] at this
theorem count_sOf (l : List Bool) : Txt.count (sOf l) ("+" : Str) = (l.countP (fun b => b) : Nat) := by
  rw [plus_str, count_cnt, sOf_list, cnt_sgn]
theorem countP_take {l : List Bool} {n : Nat} (h : n ≤ l.length) : (l.take n).countP (fun b => b) = ct (kp l) n := by
  rw [countP_ct]
  have e : (l.take n).length = n := by rw [List.length_take]; omega
  rw [e]
  exact ct_congr fun i hi => by rw [kp_lt (by omega), kp_lt (by omega), List.getElem_take]
end
end Sv

namespace Sv
open PySem PySem.Spec PyProof.Rows L2
section
variable {X : Cx} {N L S G B : List Str} {e e2 : Expr} {σ : L2.St} {H : Hp} {Q : VK} {p p2 pos : Pos} {x : Str}
theorem bt_all : bootBuiltins "all" = some (.builtin "all") := by decide +kernel
theorem bt_abs : bootBuiltins "abs" = some (.builtin "abs") := by decide +kernel
theorem bt_sum : bootBuiltins "sum" = some (.builtin "sum") := by decide +kernel
theorem bt_max : bootBuiltins "max" = some (.builtin "max") := by decide +kernel
theorem bt_min : bootBuiltins "min" = some (.builtin "min") := by decide +kernel
theorem bt_len : bootBuiltins "len" = some (.builtin "len") := by decide +kernel
theorem bt_int : bootBuiltins "int" = some (.type "int") := by decide +kernel
theorem bt_bool : bootBuiltins "bool" = some (.type "bool") := by decide +kernel
theorem bt_str : bootBuiltins "str" = some (.type "str") := by decide +kernel
theorem bt_set : bootBuiltins "set" = some (.type "set") := by decide +kernel
theorem bt_list : bootBuiltins "list" = some (.type "list") := by decide +kernel
theorem bt_tuple : bootBuiltins "tuple" = some (.type "tuple") := by decide +kernel
theorem bt_isi : bootBuiltins "isinstance" = some (.builtin "isinstance") := by decide +kernel
theorem bt_dm : bootBuiltins "divmod" = some (.builtin "divmod") := by decide +kernel
theorem x_len (c : Nm X N L S G B) (m : Mb "len" B) (h : WE X e σ H fun x H1 => ∃ n : Nat, LenV X.K x H1 n ∧ Q (.int n) H1) (hs : starEach [e] X.env = (false, eval e X.env) :: starEach [] X.env := by with_unfolding_all rfl) (hpl : (backTo pos (starEach [] X.env)).any (·.1) = false := by with_unfolding_all rfl) : WE X (.Call (.Name "len" p) [e] [] pos) σ H Q :=
  w_callB c m bt_len (wa_cons (WE.imp h fun x H1 ⟨n, l, q⟩ => wa_nil (c_len l q)) hs) hs hpl
theorem x_abs (c : Nm X N L S G B) (m : Mb "abs" B) (h : WE X e σ H fun x H1 => ∃ i, x = .int i ∧ Q (.int (if i < 0 then -i else i)) H1) (hs : starEach [e] X.env = (false, eval e X.env) :: starEach [] X.env := by with_unfolding_all rfl) (hpl : (backTo pos (starEach [] X.env)).any (·.1) = false := by with_unfolding_all rfl) : WE X (.Call (.Name "abs" p) [e] [] pos) σ H Q :=
  w_callB c m bt_abs (wa_cons (WE.imp h fun x H1 ⟨i, ex, q⟩ => wa_nil (by rw [ex]; exact c_abs q)) hs) hs hpl
theorem x_all (c : Nm X N L S G B) (m : Mb "all" B) (h : WE X e σ H fun x H1 => ∃ a, ∃ bs : List Bool, x = .ref a ∧ SqL X.K H1 a (bs.map V.bl) ∧ Q (.bl (bs.all fun k => k)) H1) (hs : starEach [e] X.env = (false, eval e X.env) :: starEach [] X.env := by with_unfolding_all rfl) (hpl : (backTo pos (starEach [] X.env)).any (·.1) = false := by with_unfolding_all rfl) : WE X (.Call (.Name "all" p) [e] [] pos) σ H Q :=
  w_callB c m bt_all (wa_cons (WE.imp h fun x H1 ⟨a, bs, ex, l, q⟩ => wa_nil (by rw [ex]; exact c_all c.calm l q)) hs) hs hpl
theorem x_sum (c : Nm X N L S G B) (m : Mb "sum" B) (h : WE X e σ H fun x H1 => ∃ a, ∃ ns : List Int, x = .ref a ∧ SqL X.K H1 a (ns.map V.int) ∧ Q (.int ns.sum) H1) (hs : starEach [e] X.env = (false, eval e X.env) :: starEach [] X.env := by with_unfolding_all rfl) (hpl : (backTo pos (starEach [] X.env)).any (·.1) = false := by with_unfolding_all rfl) : WE X (.Call (.Name "sum" p) [e] [] pos) σ H Q :=
  w_callB c m bt_sum (wa_cons (WE.imp h fun x H1 ⟨a, ns, ex, l, q⟩ => wa_nil (by rw [ex]; exact c_sum c.calm l q)) hs) hs hpl
theorem x_int (c : Nm X N L S G B) (m : Mb "int" B) (h : WE X e σ H fun x H1 => ∃ k, x = .bl k ∧ Q (.int (if k then 1 else 0)) H1) (hs : starEach [e] X.env = (false, eval e X.env) :: starEach [] X.env := by with_unfolding_all rfl) (hpl : (backTo pos (starEach [] X.env)).any (·.1) = false := by with_unfolding_all rfl) : WE X (.Call (.Name "int" p) [e] [] pos) σ H Q :=
  w_callTy c m bt_int (wa_cons (WE.imp h fun x H1 ⟨k, ex, q⟩ => wa_nil (by rw [ex]; exact c_intB q)) hs) hs hpl
theorem x_set (c : Nm X N L S G B) (m : Mb "set" B) (h : WE X e σ H fun x H1 => ∃ a, ∃ ns : List Int, x = .ref a ∧ SqL X.K H1 a (ns.map V.int) ∧ ns.length + 1 < scanBound ∧ ∀ p H' n, H1 p = none → Same H1 H' → H' p = some (SetI X.prog X.w p (fun k => ns.any (· == k)) n) → Q (.ref p) H') (hs : starEach [e] X.env = (false, eval e X.env) :: starEach [] X.env := by with_unfolding_all rfl) (hpl : (backTo pos (starEach [] X.env)).any (·.1) = false := by with_unfolding_all rfl) : WE X (.Call (.Name "set" p) [e] [] pos) σ H Q :=
  w_callTy c m bt_set (wa_cons (WE.imp h fun x H1 ⟨a, ns, ex, l, hz, q⟩ => wa_nil (by rw [ex]; exact c_set c.calm l hz q)) hs) hs hpl
theorem x_list (c : Nm X N L S G B) (m : Mb "list" B) (h : WE X e σ H fun x H1 => ∃ a xs, x = .ref a ∧ (SqL X.K H1 a xs ∨ SqT X.K H1 a xs) ∧ ∀ p H', H1 p = none → Same H1 H' → H' p = some (.lst xs) → Q (.ref p) H') (hs : starEach [e] X.env = (false, eval e X.env) :: starEach [] X.env := by with_unfolding_all rfl) (hpl : (backTo pos (starEach [] X.env)).any (·.1) = false := by with_unfolding_all rfl) : WE X (.Call (.Name "list" p) [e] [] pos) σ H Q :=
  w_callTy c m bt_list (wa_cons (WE.imp h fun x H1 ⟨a, xs, ex, l, q⟩ => wa_nil (by rw [ex]; exact c_list l q)) hs) hs hpl
theorem x_max (c : Nm X N L S G B) (m : Mb "max" B) (h : WE X e σ H fun x H1 => WE X e2 σ H1 fun y H2 => ∃ i j, x = .int i ∧ y = .int j ∧ Q (.int (if j > i then j else i)) H2) (hs : starEach [e, e2] X.env = (false, eval e X.env) :: starEach [e2] X.env := by with_unfolding_all rfl) (hs2 : starEach [e2] X.env = (false, eval e2 X.env) :: starEach [] X.env := by with_unfolding_all rfl) (hpl : (backTo pos (starEach [e2] X.env)).any (·.1) = false := by with_unfolding_all rfl) : WE X (.Call (.Name "max" p) [e, e2] [] pos) σ H Q :=
  w_callB c m bt_max (wa_cons (WE.imp h fun x H1 h2 => wa_cons (WE.imp h2 fun y H2 ⟨i, j, e1, e3, q⟩ => wa_nil (by rw [e1, e3]; exact c_max c.calm q)) hs2) hs) hs hpl
theorem x_min (c : Nm X N L S G B) (m : Mb "min" B) (h : WE X e σ H fun x H1 => WE X e2 σ H1 fun y H2 => ∃ i j, x = .int i ∧ y = .int j ∧ Q (.int (if j < i then j else i)) H2) (hs : starEach [e, e2] X.env = (false, eval e X.env) :: starEach [e2] X.env := by with_unfolding_all rfl) (hs2 : starEach [e2] X.env = (false, eval e2 X.env) :: starEach [] X.env := by with_unfolding_all rfl) (hpl : (backTo pos (starEach [e2] X.env)).any (·.1) = false := by with_unfolding_all rfl) : WE X (.Call (.Name "min" p) [e, e2] [] pos) σ H Q :=
  w_callB c m bt_min (wa_cons (WE.imp h fun x H1 h2 => wa_cons (WE.imp h2 fun y H2 ⟨i, j, e1, e3, q⟩ => wa_nil (by rw [e1, e3]; exact c_min c.calm q)) hs2) hs) hs hpl
theorem x_dm (c : Nm X N L S G B) (m : Mb "divmod" B) (h : WE X e σ H fun x H1 => WE X e2 σ H1 fun y H2 => ∃ i j, x = .int i ∧ y = .int j ∧ (0 < j ∧ j < 1073741824) ∧ ∀ p H', H2 p = none → Same H2 H' → H' p = some (.tup [.int (i / j), .int (i % j)]) → Q (.ref p) H') (hs : starEach [e, e2] X.env = (false, eval e X.env) :: starEach [e2] X.env := by with_unfolding_all rfl) (hs2 : starEach [e2] X.env = (false, eval e2 X.env) :: starEach [] X.env := by with_unfolding_all rfl) (hpl : (backTo pos (starEach [e2] X.env)).any (·.1) = false := by with_unfolding_all rfl) : WE X (.Call (.Name "divmod" p) [e, e2] [] pos) σ H Q :=
  w_callB c m bt_dm (wa_cons (WE.imp h fun x H1 h2 => wa_cons (WE.imp h2 fun y H2 ⟨i, j, e1, e3, hj, q⟩ => wa_nil (by rw [e1, e3]; exact c_divmod hj q)) hs2) hs) hs hpl
/-- isinstance(e, T), T built in -/
theorem x_isi {T : String} (c : Nm X N L S G B) (m : Mb "isinstance" B) (m2 : Mb x B) (hT : bootBuiltins x = some (.type T)) (h : WE X e σ H fun y H1 => ∃ t b, TyX X.K H1 y t ∧ PySem.W.kitOne X.K t (.type T) = some b ∧ Q (.bl b) H1) (hs : starEach [e, .Name x p2] X.env = (false, eval e X.env) :: starEach [.Name x p2] X.env := by with_unfolding_all rfl) (hs2 : starEach [.Name x p2] X.env = (false, eval (.Name x p2) X.env) :: starEach [] X.env := by with_unfolding_all rfl) (hpl : (backTo pos (starEach [.Name x p2] X.env)).any (·.1) = false := by with_unfolding_all rfl) : WE X (.Call (.Name "isinstance" p) [e, .Name x p2] [] pos) σ H Q :=
  w_callB c m bt_isi (wa_cons (WE.imp h fun y H1 ⟨t, b, ht, hk, q⟩ => wa_cons (w_bname (v := .ty T) c m2 hT rfl (wa_nil (c_isi (.ty T) ht hk q))) hs2) hs) hs hpl
/-- isinstance(e, C), C the text's own -/
theorem x_isiC {C : Addr} (c : Nm X N L S G B) (m : Mb "isinstance" B) (m2 : Mb x G) (hC : X.mg x = some (.ref C)) (h : WE X e σ H fun y H1 => ∃ t b, TyX X.K H1 y t ∧ PySem.W.kitOne X.K t (.ref C) = some b ∧ Q (.bl b) H1) (hs : starEach [e, .Name x p2] X.env = (false, eval e X.env) :: starEach [.Name x p2] X.env := by with_unfolding_all rfl) (hs2 : starEach [.Name x p2] X.env = (false, eval (.Name x p2) X.env) :: starEach [] X.env := by with_unfolding_all rfl) (hpl : (backTo pos (starEach [.Name x p2] X.env)).any (·.1) = false := by with_unfolding_all rfl) : WE X (.Call (.Name "isinstance" p) [e, .Name x p2] [] pos) σ H Q :=
  w_callB c m bt_isi (wa_cons (WE.imp h fun y H1 ⟨t, b, ht, hk, q⟩ => wa_cons (w_gname (v := .ref C) c m2 hC rfl (wa_nil (c_isi (.own C) ht hk q))) hs2) hs) hs hpl
theorem tru_bl {K : PySem.W.Frag} {H : Hp} {b : Bool} : TruV K (.bl b) H b := rfl
theorem ite_t {A B : Prop} (h : A) : if true = true then A else B := by rw [if_pos rfl]; exact h
theorem ite_nf {A B : Prop} (h : A) : if (!false) = true then A else B := h
theorem ite_nt {A B : Prop} (h : B) : if (!true) = true then A else B := h
theorem ite_f {A B : Prop} (h : B) : if false = true then A else B := by rw [if_neg (by decide)]; exact h
/-- the kinds of simple values, asked with isinstance -/
theorem kit_self {K : PySem.W.Frag} {t : String} : PySem.W.kitOne K (.type t) (.type t) = some true := by
  unfold PySem.W.kitOne
  rw [if_pos (beq_self_eq_true _)]
theorem kit_own {K : PySem.W.Frag} {C : Addr} : PySem.W.kitOne K (.ref C) (.ref C) = some true := by
  unfold PySem.W.kitOne
  rw [if_pos (beq_self_eq_true _)]
theorem kit_int_bool {K : PySem.W.Frag} : PySem.W.kitOne K (.type "int") (.type "bool") = some false := by
  unfold PySem.W.kitOne
  rw [if_neg (by decide)]
  kernel_rfl
theorem kit_bool_int {K : PySem.W.Frag} : PySem.W.kitOne K (.type "bool") (.type "int") = some true := by
  unfold PySem.W.kitOne
  rw [if_neg (by decide)]
  kernel_rfl
theorem kit_str_int {K : PySem.W.Frag} : PySem.W.kitOne K (.type "str") (.type "int") = some false := by
  unfold PySem.W.kitOne
  rw [if_neg (by decide)]
  kernel_rfl
theorem kit_int_str {K : PySem.W.Frag} : PySem.W.kitOne K (.type "int") (.type "str") = some false := by
  unfold PySem.W.kitOne
  rw [if_neg (by decide)]
  kernel_rfl
theorem tInt {K : PySem.W.Frag} {H : Hp} {i : Int} : TyX K H (.int i) (.type "int") := .base (.int i)
theorem tBl {K : PySem.W.Frag} {H : Hp} {i : Bool} : TyX K H (.bl i) (.type "bool") := .base (.bl i)
theorem tStr {K : PySem.W.Frag} {H : Hp} {i : Str} : TyX K H (.str i) (.type "str") := .base (.str i)
end
section
variable {P : Program} {w : World} {K : PySem.W.Frag} {mg : Str → Option Value} {base : Heap} {CX : CXT} {k : Nat} {f : Addr} {sp sp' : Sp}
theorem fnr_or (F : FnR P w K mg base CX k f sp) (F' : FnR P w K mg base CX k f sp') : FnR P w K mg base CX k f fun vs H Q E => sp vs H Q E ∨ sp' vs H Q E := fun A outer s H us vs Q E hr e0 r hs => by
  rcases hs with h | h
  · exact F A outer s H us vs Q E hr e0 r h
  · exact F' A outer s H us vs Q E hr e0 r h
theorem wl_start {X : Cx} {sts : List Stmt} {D : Ends} {σ σ' : L2.St} {H : Hp} (e : σ = σ') (h : WL X sts D σ' H) : WL X sts D σ H := e ▸ h
end
end Sv
namespace Sv
open PySem PySem.Spec PyProof.Rows L2
/-! guards: what kind of goal -/
section
variable {X : Cx} {e : Expr} {st : Stmt} {sts : List Stmt} {es : List Expr} {σ : L2.St} {H : Hp} {Q : VK} {D : Ends} {T : Bool → Hp → Prop} {R : List V → Hp → Prop} {v x y : V} {G : L2.St → Hp → Prop} {F : Value → Value → Sem Value} {U : Value → Sem Value}
theorem gWE (h : WE X e σ H Q) : WE X e σ H Q := h
theorem gWT (h : WT X e σ H T) : WT X e σ H T := h
theorem gWW (h : WW X e σ H T) : WW X e σ H T := h
theorem gWA (h : WA X es σ H R) : WA X es σ H R := h
theorem gWS (h : WS X st D σ H) : WS X st D σ H := h
theorem gWL (h : WL X sts D σ H) : WL X sts D σ H := h
theorem gWG (h : WG X e v σ H G) : WG X e v σ H G := h
theorem gWGs {vs : List V} (h : WGs X es vs σ H G) : WGs X es vs σ H G := h
theorem gWB (h : WB X F x y σ H Q) : WB X F x y σ H Q := h
theorem gWU (h : WU X U x σ H Q) : WU X U x σ H Q := h
theorem gBo {o : Operator} {x y : V} (h : WB X (binaryOp o) x y σ H Q) : WB X (binaryOp o) x y σ H Q := h
theorem gCo {o : CmpOp} {x y : V} (h : WB X (compareOp o) x y σ H Q) : WB X (compareOp o) x y σ H Q := h
theorem gCall {f : Expr} {es : List Expr} {ks : List Keyword} {p : Pos} (h : WE X (.Call f es ks p) σ H Q) : WE X (.Call f es ks p) σ H Q := h
theorem gNm {x : Str} {p : Pos} (h : WE X (.Name x p) σ H Q) : WE X (.Name x p) σ H Q := h
theorem gCn {c : Const} {j : Nat} {p : Pos} (h : WE X (.Constant c j p) σ H Q) : WE X (.Constant c j p) σ H Q := h
end
section
variable {X : Cx} {σ : L2.St} {H : Hp} {Q : VK}
theorem w_gref {N L S G B : List Str} {x : Str} {pos : Pos} {C : Addr} (c : Nm X N L S G B) (m : Mb x G) (hm : X.mg x = some (.ref C)) (q : Q (.ref C) H) : WE X (.Name x pos) σ H Q := w_gname (v := .ref C) c m hm rfl q
/-- "+" in a pattern -/
theorem b_inPlus {l : List Bool} (q : Q (.bl (decide (true ∈ l))) H) : WB X (compareOp .In) (.str "+") (.str (sOf l)) σ H Q := by
  rw [plus_str]
  refine b_inS ?_
  rw [sOf_list]
  have e : decide (43 ∈ l.map sgn) = decide (true ∈ l) := by
    by_cases h : true ∈ l
    · rw [decide_eq_true h, decide_eq_true (mem_plus.mpr h)]
    · rw [decide_eq_false h, decide_eq_false (fun z => h (mem_plus.mp z))]
  rw [e]
  exact q
theorem b_inPM {b : Bool} (q : Q (.bl true) H) : WB X (compareOp .In) (.str ⟨#[sgn b]⟩) (.str "+-") σ H Q := by
  rw [pm_str]
  refine b_inS ?_
  cases b <;> exact q
/-- a sign == "+" -/
theorem b_eqPlus {b : Bool} (q : Q (.bl b) H) : WB X (compareOp .Eq) (.str ⟨#[sgn b]⟩) (.str "+") σ H Q := by
  refine b_eqS ?_
  rw [plus_str, one_eq, sgn_dec]
  exact q
theorem dec_plus {b : Bool} : decide ((⟨#[sgn b]⟩ : Str) = "+") = b := by rw [plus_str, one_eq, sgn_dec]
end
/-! ### loops that change what stands: only the walked is asked to stand -/
/-- a heap that tells p alone -/
def one (H : Hp) (p : Addr) : Hp := fun b => if b = p then H p else none
theorem one_same {H H' : Hp} {p : Addr} (h : ∀ o, H p = some o → H' p = some o) : Same (one H p) H' := fun b o e => by
  unfold one at e
  by_cases z : b = p
  · rw [if_pos z] at e
    rw [z]
    exact h o e
  · rw [if_neg z] at e
    cases e
theorem one_at {H : Hp} {p : Addr} {o : HO} (h : H p = some o) : one H p p = some o := by
  unfold one
  rw [if_pos rfl, h]
theorem none_same {H' : Hp} : Same (fun _ => none) H' := fun b o e => nomatch e
section
variable {X : Cx} {N L S G B : List Str} {tg iter c : Expr} {body : List Stmt} {σ : L2.St} {H : Hp} {D : Ends} {pos : Pos}
theorem ws_forM (hp : PassesOwn (model X.prog X.w) X.A X.env X.xe) (hc : Nm X N L S G B)
    (h : WI X tg iter σ H fun J H1 => ∃ n it Hw, Wlk J n it Hw ∧ ∃ Pv : Nat → L2.St → Hp → Prop, Pv 0 σ H1 ∧ (∀ i σ' H', Pv i σ' H' → Same Hw H') ∧
      (∀ i σ' H', i < n → Pv i σ' H' → WG X tg (it i) σ' H' fun σ2 H2 => WL X body { D with nx := Pv (i + 1), ct := Pv (i + 1), bk := D.nx } σ2 H2) ∧ ∀ σ' H', Pv n σ' H' → D.nx σ' H')
    (hs : ∀ x, foldedSetIterable iter X.env x = pure x := by intro _; with_unfolding_all rfl) : WS X (.For tg iter body [] pos) D σ H := by
  refine (ps_for hp hc.calm pi_w pg_w pss_w hs).w ?_
  refine ⟨fun pins s I => thn (h.run pins s I) fun v s1 h1 => thn h1 fun itv s2 ⟨it, fp, tn, J, H', e, I', T, t0, hf, n, itm, Hw, W, Pv, p0, hsm, hst, hd⟩ => ⟨it, fp, tn, J, H', e, I', T, t0, hf, ?_⟩⟩
  refine ⟨fun i m σ' H'' => m = n - i ∧ i ≤ n ∧ Pv i σ' H'', ⟨n, by simp, Nat.zero_le _, p0⟩, ?_⟩
  rintro i m σ' H'' ⟨rfl, hi, p⟩
  by_cases hlt : i < n
  · refine .inr ⟨W.go i H'' hlt (hsm _ _ _ p), Pv (i + 1), fun σ2 H2 p' => ⟨n - (i + 1), by omega, rfl, hlt, p'⟩, fun x H3 y => ?_⟩
    obtain ⟨rfl, rfl⟩ := W.yld i H'' x H3 hlt (hsm _ _ _ p) y
    exact hst i σ' _ hlt p
  · have e : i = n := by omega
    subst e
    exact .inl ⟨W.stop _ _ (Nat.le_refl _) (hsm _ _ _ p), hd _ _ p⟩
end
section
variable {X : Cx} {N L S G B : List Str} {σ : L2.St} {H : Hp} {D : Ends} {pos : Pos}
/-- a, b, c = e, f, g with plain local names -/
theorem ws_par3 {x y z : Str} {ea eb ec : Expr} {px py pz pt : Pos} {kt k2 pt2} (c : Nm X N L S G B) (hx : X.env.scope.names.lookup x = some .local) (hy : X.env.scope.names.lookup y = some .local) (hz : X.env.scope.names.lookup z = some .local)
    (h : WE X ea σ H fun v H1 => WE X eb σ H1 fun w H2 => WE X ec σ H2 fun u H3 => ∃ σ1 σ2 σ3, Put N σ x v σ1 ∧ Put N σ1 y w σ2 ∧ Put N σ2 z u σ3 ∧ D.nx σ3 H3)
    (hw : swappedStores [.Tuple [.Name x px, .Name y py, .Name z pz] kt pt] (.Tuple [ea, eb, ec] k2 pt2) X.env = pure (some [x, y, z]))
    (hs : swapsWithSole [.Tuple [.Name x px, .Name y py, .Name z pz] kt pt] (.Tuple [ea, eb, ec] k2 pt2) pos.line X.env = pure false := by with_unfolding_all rfl)
    (h1 : starEach [ea, eb, ec] X.env = (false, eval ea X.env) :: starEach [eb, ec] X.env := by with_unfolding_all rfl) (h2 : starEach [eb, ec] X.env = (false, eval eb X.env) :: starEach [ec] X.env := by with_unfolding_all rfl) (h3 : starEach [ec] X.env = (false, eval ec X.env) :: starEach [] X.env := by with_unfolding_all rfl)
    (ix : ∃ i j l : Nat, N[i]? = some x ∧ N[j]? = some y ∧ N[l]? = some z ∧ i ≠ j ∧ i ≠ l ∧ j ≠ l) :
    WS X (.Assign [.Tuple [.Name x px, .Name y py, .Name z pz] kt pt] (.Tuple [ea, eb, ec] k2 pt2) pos) D σ H := by
  obtain ⟨i, j, l, hi, hj, hl, n1, n2, n3⟩ := ix
  have nd : X.N.Nodup := by rw [c.names]; exact c.nd
  have hi' : X.N[i]? = some x := by rw [c.names]; exact hi
  have hj' : X.N[j]? = some y := by rw [c.names]; exact hj
  have hl' : X.N[l]? = some z := by rw [c.names]; exact hl
  refine (L2.ps_par3 c.calm nd hi' hj' hl' n1 n2 n3 hx hy hz (pa_cons pe_w (pa_cons pe_w (pa_cons pe_w pa_nil h3) h2) h1) hw hs).w ?_
  refine WE.imp h fun v H1 h1 => WE.imp h1 fun w H2 h2 => WE.imp h2 fun u H3 ⟨σ1, σ2, σ3, p1, p2, p3, q⟩ => ⟨v, w, u, rfl, ?_⟩
  obtain ⟨i', hi2, rfl⟩ := p1.ix
  obtain ⟨j', hj2, rfl⟩ := p2.ix
  obtain ⟨l', hl2, rfl⟩ := p3.ix
  have ei : i' = i := nodup_ix nd (by rw [c.names]; exact hi2) hi'
  have ej : j' = j := nodup_ix nd (by rw [c.names]; exact hj2) hj'
  have el : l' = l := nodup_ix nd (by rw [c.names]; exact hl2) hl'
  subst ei ej el
  exact q
end
/-! ### comprehensions whose items are new objects -/
theorem lc_ofH {X : Cx} {N L S G B : List Str} {tg elt iter : Expr} {ifs : List Expr} {scope : Scope} {own : List (Str × Nat)} {σ : L2.St} {H : Hp} {Q : VK} (c : Nm X N L S G B) (P : Nat → List V → Hp → Prop)
    (h : WI X tg iter σ H fun J H1 => ∃ n it, Wlk J n it H1 ∧ n < sizeLine ∧ (∀ D, H1 D = none → P 0 [] (upd H1 D (.lst []))) ∧ (∀ i acc acc' H' D, i < n → H1 D = none → Same H1 H' → H' D = some (.lst acc') → P i acc' H' → P (i + 1) acc H' → P (i + 1) acc (upd H' D (.lst acc))) ∧
      (∀ i acc H', i < n → acc.length ≤ i → P i acc H' → Same H1 H' → WGb X scope tg (it i) (wipe σ (own.map (·.2))) H' fun σ2 H2 => H2 = H' ∧ wipe σ2 (own.map (·.2)) = wipe σ (own.map (·.2)) ∧ WTb X scope ifs σ2 H2 fun k H3 => Same H2 H3 ∧
        if k = true then WEb X scope elt σ2 H3 fun y H4 => Same H3 H4 ∧ P i acc H4 ∧ P (i + 1) (acc ++ [y]) H4 else P (i + 1) acc H3) ∧
      ∀ acc D H', acc.length ≤ n → P n acc H' → H1 D = none → Same H1 H' → H' D = some (.lst acc) → Q (.ref D) H') :
    tLc (WI X tg iter) (WGb X scope tg) (WTb X scope ifs) (WEb X scope elt) (own.map (·.2)) σ H Q := by
  refine ⟨fun pins s I => thn (h.run pins s I) fun v s1 h1 => thn h1 fun itv s2 ⟨it, fp, tn, J, H1, e, I', T, t0, hf, n, itm, W, hz, p0, hfr, hst, hd⟩ => ⟨it, fp, tn, J, H1, e, I', T, t0, hf, fun D hD => ?_⟩⟩
  refine ⟨fun i m H' => m = n - i ∧ i ≤ n ∧ ∃ acc, acc.length ≤ i ∧ P i acc H' ∧ Same H1 H' ∧ H' D = some (.lst acc), ⟨n, by simp, Nat.zero_le _, [], Nat.le_refl _, p0 D hD, same_new hD, upd_same⟩, ?_⟩
  rintro i m H' ⟨rfl, hi, acc, hl, hp, hsm, hDa⟩
  by_cases hlt : i < n
  · refine .inr ⟨W.go i H' hlt hsm, fun H2 => i + 1 ≤ n ∧ ∃ acc, acc.length ≤ i + 1 ∧ P (i + 1) acc H2 ∧ Same H1 H2 ∧ H2 D = some (.lst acc), fun H2 q => ⟨n - (i + 1), by omega, rfl, q⟩, fun x H3 y => ?_⟩
    obtain ⟨rfl, rfl⟩ := W.yld i H' x H3 hlt hsm y
    intro X' bX
    refine ⟨fun pins' s' u I' r => thn ((hst i acc H3 hlt hl hp hsm X' bX).run pins' s' u I' r) fun _ s2 ⟨σ2, H2, I2, e2, ew, q2⟩ => ⟨σ2, H2, I2, ew, fun X2 b2 => ?_⟩⟩
    subst e2
    refine ⟨fun pins3 s3 I3 => thn ((q2 X2 b2).run pins3 s3 I3) fun k s4 ⟨H4, I4, e4, q4⟩ => ⟨H4, I4, ?_⟩⟩
    cases k with
    | false =>
      rw [if_neg (by decide)] at q4 ⊢
      exact ⟨hlt, acc, Nat.le_succ_of_le hl, q4, hsm.trans e4, e4 _ _ hDa⟩
    | true =>
      rw [if_pos rfl] at q4 ⊢
      intro X5 b5
      refine WE.imp (q4 X5 b5) fun y H5 ⟨e5, q50, q5⟩ => ⟨acc, e5 _ _ (e4 _ _ hDa), by omega, hlt, acc ++ [y], by rw [List.length_append]; show acc.length + 1 ≤ i + 1; omega, hfr i _ _ _ _ hlt hD (hsm.trans (e4.trans e5)) (e5 _ _ (e4 _ _ hDa)) q50 q5, same_mut (hsm.trans (e4.trans e5)) hD, upd_same⟩
  · have e : i = n := by omega
    subst e
    exact .inl ⟨W.stop _ _ (Nat.le_refl _) hsm, hd acc D H' hl hp hD hsm hDa⟩
theorem w_lcH {X : Cx} {N L S G B : List Str} {tg elt iter : Expr} {ifs : List Expr} {scope : Scope} {own : List (Str × Nat)} {σ : L2.St} {H : Hp} {Q : VK} {pos : Pos} (c : Nm X N L S G B) (ok : blkC N X.env.scope scope own = true) (P : Nat → List V → Hp → Prop)
    (h : WI X tg iter σ H fun J H1 => ∃ n it, Wlk J n it H1 ∧ n < sizeLine ∧ (∀ D, H1 D = none → P 0 [] (upd H1 D (.lst []))) ∧ (∀ i acc acc' H' D, i < n → H1 D = none → Same H1 H' → H' D = some (.lst acc') → P i acc' H' → P (i + 1) acc H' → P (i + 1) acc (upd H' D (.lst acc))) ∧
      (∀ i acc H', i < n → acc.length ≤ i → P i acc H' → Same H1 H' → WGb X scope tg (it i) (wipe σ (own.map (·.2))) H' fun σ2 H2 => H2 = H' ∧ wipe σ2 (own.map (·.2)) = wipe σ (own.map (·.2)) ∧ WTb X scope ifs σ2 H2 fun k H3 => Same H2 H3 ∧
        if k = true then WEb X scope elt σ2 H3 fun y H4 => Same H3 H4 ∧ P i acc H4 ∧ P (i + 1) (acc ++ [y]) H4 else P (i + 1) acc H3) ∧
      ∀ acc D H', acc.length ≤ n → P n acc H' → H1 D = none → Same H1 H' → H' D = some (.lst acc) → Q (.ref D) H')
    (hs : ∀ x, foldedSetIterable iter X.env x = pure x := by intro _; with_unfolding_all rfl) : WE X (.ListComp elt [⟨tg, iter, ifs, 0⟩] scope pos) σ H Q := by
  have hN : X.N.Nodup := by rw [c.names]; exact c.nd
  have ok' : BlkOk X.N X.env.scope scope own := by rw [c.names]; exact blkOk_by ok
  have p := pe_lc (X := X) (pos := pos) (g := WGb X scope tg) (tt := WTb X scope ifs) (te := WEb X scope elt) c.calm hN (pi_w (X := X) (tg := tg) (iter := iter)) ok'
    (fun s H C cl fp => ⟨fun pins s1 σ1 H1 v u R I r q => (q _ ⟨s, H, C, cl, fp, rfl⟩).run pins s1 u I r⟩)
    (fun s H C cl fp => ⟨fun pins s1 σ1 H1 R I q => (q _ ⟨s, H, C, cl, fp, rfl⟩).run pins s1 I⟩)
    (fun s H C cl fp => ⟨fun pins s1 σ1 H1 R I q => (q _ ⟨s, H, C, cl, fp, rfl⟩).run pins s1 I⟩) hs
  exact p.w (lc_ofH c P h)
theorem ws_setLcH {y : Str} {py spos : Pos} {D0 : Ends} {X : Cx} {N L S G B : List Str} {tg elt iter : Expr} {ifs : List Expr} {scope : Scope} {own : List (Str × Nat)} {σ : L2.St} {H : Hp} {pos : Pos} (c : Nm X N L S G B) (ok : blkC N X.env.scope scope own = true) (P : Nat → List V → Hp → Prop)
    (h : WI X tg iter σ H fun J H1 => ∃ n it, Wlk J n it H1 ∧ n < sizeLine ∧ (∀ D, H1 D = none → P 0 [] (upd H1 D (.lst []))) ∧ (∀ i acc acc' H' D, i < n → H1 D = none → Same H1 H' → H' D = some (.lst acc') → P i acc' H' → P (i + 1) acc H' → P (i + 1) acc (upd H' D (.lst acc))) ∧
      (∀ i acc H', i < n → acc.length ≤ i → P i acc H' → Same H1 H' → WGb X scope tg (it i) (wipe σ (own.map (·.2))) H' fun σ2 H2 => H2 = H' ∧ wipe σ2 (own.map (·.2)) = wipe σ (own.map (·.2)) ∧ WTb X scope ifs σ2 H2 fun k H3 => Same H2 H3 ∧
        if k = true then WEb X scope elt σ2 H3 fun y H4 => Same H3 H4 ∧ P i acc H4 ∧ P (i + 1) (acc ++ [y]) H4 else P (i + 1) acc H3) ∧
      ∀ acc D H', acc.length ≤ n → P n acc H' → H1 D = none → Same H1 H' → H' D = some (.lst acc) → ∃ σ', Put N σ y (.ref D) σ' ∧ D0.nx σ' H')
    (hyl : X.env.scope.names.lookup y = some .local) (hsw : swapsWith (.ListComp elt [⟨tg, iter, ifs, 0⟩] scope pos) (some (.Name y py)) spos.line X.env = pure true)
    (hs : ∀ x, foldedSetIterable iter X.env x = pure x := by intro _; with_unfolding_all rfl) (iy : ∃ i : Nat, N[i]? = some y) : WS X (.Assign [.Name y py] (.ListComp elt [⟨tg, iter, ifs, 0⟩] scope pos) spos) D0 σ H := by
  have hN : X.N.Nodup := by rw [c.names]; exact c.nd
  have ok' : BlkOk X.N X.env.scope scope own := by rw [c.names]; exact blkOk_by ok
  obtain ⟨i, hi⟩ := iy
  have hi' : X.N[i]? = some y := by rw [c.names]; exact hi
  have p := ps_setLc (X := X) (pos := pos) (spos := spos) (py := py) (g := WGb X scope tg) (tt := WTb X scope ifs) (te := WEb X scope elt) c.calm hN hi' hyl hsw (pi_w (X := X) (tg := tg) (iter := iter)) ok'
    (fun s H C cl fp => ⟨fun pins s1 σ1 H1 v u R I r q => (q _ ⟨s, H, C, cl, fp, rfl⟩).run pins s1 u I r⟩)
    (fun s H C cl fp => ⟨fun pins s1 σ1 H1 R I q => (q _ ⟨s, H, C, cl, fp, rfl⟩).run pins s1 I⟩)
    (fun s H C cl fp => ⟨fun pins s1 σ1 H1 R I q => (q _ ⟨s, H, C, cl, fp, rfl⟩).run pins s1 I⟩) hs
  refine p.w ?_
  refine lc_ofH (Q := fun v H1 => D0.nx (σ.set i (some v)) H1) c P ⟨fun pins s I => thn (h.run pins s I) fun v s1 h1 => thn h1 fun itv s2 ⟨it, fp, tn, J, H1, e, I', T, t0, hf, n, itm, W, hz, p0, hfr, hst, hd⟩ => ⟨it, fp, tn, J, H1, e, I', T, t0, hf, n, itm, W, hz, p0, hfr, hst, fun acc D H' h1 h2 h3 h4 h5 => ?_⟩⟩
  obtain ⟨σ', hp, q⟩ := hd acc D H' h1 h2 h3 h4 h5
  obtain ⟨i', hi2, rfl⟩ := hp.ix
  have ei : i' = i := nodup_ix hN (by rw [c.names]; exact hi2) hi'
  rw [← ei]
  exact q
end Sv

namespace Sv
open PySem PySem.Spec PyProof.Rows L2
section
variable {X : Cx} {σ : L2.St} {H : Hp} {Q : VK}
theorem b_gtB {x y : Bool} (q : Q (.bl (x && !y)) H) : WB X (compareOp .Gt) (.bl x) (.bl y) σ H Q := by
  refine ⟨fun pins s v u I rx ry => ?_⟩
  obtain rfl : v = Value.bool x := rx
  obtain rfl : u = Value.bool y := ry
  refine gt_bool ?_
  have e : decide (b2i x > b2i y) = (x && !y) := by cases x <;> cases y <;> rfl
  rw [e]
  exact ⟨.bl (x && !y), H, I, rfl, q⟩
end
/-- the numbers below p with f -/
def sel (f : Nat → Bool) (p : Nat) : List Nat := (List.range p).filter f
theorem sel_step (f : Nat → Bool) (i : Nat) : sel f (i + 1) = sel f i ++ if f i then [i] else [] := by
  unfold sel
  rw [List.range_succ, List.filter_append]
  congr 1
  cases h : f i <;> simp [h]
theorem sel_len (f : Nat → Bool) (p : Nat) : (sel f p).length = ct f p := ct_lof f p
theorem sel_mem {f : Nat → Bool} {p n : Nat} : n ∈ sel f p ↔ n < p ∧ f n = true := by
  unfold sel
  rw [List.mem_filter, List.mem_range]
theorem sel_any (f : Nat → Bool) (p : Nat) {i : Nat} (h : i < p) : ((sel f p).map fun n => ((n : Nat) : Int)).any (· == ((i : Nat) : Int)) = f i := by
  rw [Bool.eq_iff_iff, List.any_eq_true]
  constructor
  · rintro ⟨x, hx, e⟩
    obtain ⟨n, hn, rfl⟩ := List.mem_map.mp hx
    have e3 : ((n : Nat) : Int) = ((i : Nat) : Int) := eq_of_beq e
    have : n = i := by omega
    rw [← this]
    exact (sel_mem.mp hn).2
  · intro hf
    exact ⟨_, List.mem_map.mpr ⟨i, sel_mem.mpr ⟨h, hf⟩, rfl⟩, by simp⟩
/-- a law's end, where what may fly depends on the world -/
theorem walk_ofW {L : PySem.W.OpenLaw} {m j : Nat} {q' : Program} {lo : List Str} {XQ : (Str → Option Value) → Heap → Prop} {YQ : World → Heap → Prop} {dr : DefRec} {par : Str} (h1 : L.most = some m) (h2 : m ≤ sizeLine) (h3 : dr.params.defaults = []) (h4 : Room j callerA)
    (go : ∀ (ww : World) (gm : Str → Option Value) (ad : Addr) (hp : Heap), YQ ww hp → hp.Ns mainGlobals gm → gm dr.name = some (.ref ad) → ∃ (KK : PySem.W.Frag) (fdd : FuncData) (spp : Sp), KK.In hp ∧ (∀ (z : Shared) (u : Value), BindsTo z fdd ⟨[u], []⟩ [(par, u)]) ∧
      (∀ (HH : Hp) (aa : Addr) (xs : List Int), xs.length ≤ m → Only HH → SqL KK HH aa (xs.map V.int) → spp [.ref aa] HH (fun v _ => v = .bl true) fun _ _ _ => False) ∧
      ∀ bs : Heap, KK.In bs → bs.Ns mainGlobals gm → FnOk L.prog ww KK gm bs (L2.CX L.prog ww) j ad fdd [par] spp) :
    PySem.W.WalkO q' lo XQ YQ L.row.toRowW dr [] (fun g us => PySem.call g us) := by
  refine Att.attach_call h1 h3 ?_
  intro ww t0 t1 gm bm ad ob pm' cd' dc aa us xs GG YY e1 e2 e3 e4 e5 e6 e7 e8
  obtain ⟨KK, fdd, spp, k1, k2, k3, k4⟩ := go ww gm ad _ YY GG.T.g e4
  refine law_call k1 GG.T.g GG.T.b GG.T.builtins GG.T.nolimit e8 e5 e6 (Nat.le_trans e7 h2) h4 k4 k2 (fun HH o1 o2 => k3 HH aa xs e7 o1 o2) ?_
  intro HH e s'
  rintro ⟨_, _, _, _, _, _, _, _, _, _, _, _, no⟩
  exact no
end Sv

namespace Sv
open PySem PySem.Spec PyProof.Rows L2
/-! ### for, in a generator -/
section
variable {M : Model} {A : Around} {R : GenEnd} {Y : Protocol} {n : Nat} {s₀ s : Shared} {c : Code} {fs : List Frame}
theorem seg_bw {α β : Type} {m : Sem α} {k : α → Sem β} {K : β → Sem PySem.Fin} {J : Value → Sem PySem.Fin} {gd : Bool → Bool} {lv : List Value → List Value}
    (h : wpAny M (A.over c fs) m (fun v s' => Seg M A R Y n s₀ c ((k v).wrap K J gd lv) fs s') (fun x s' => Seg M A R Y n s₀ c (J x) fs s') s) : Seg M A R Y n s₀ c ((m >>= k).wrap K J gd lv) fs s := by
  rw [Sem.bind_eq_wrap', Sem.wrap_wrap]
  exact seg_wrap (wpAny_mono h (fun _ _ x => x) fun _ _ x => x)
end
section
variable {prog : Program} {w : World} {A : Around} {R : GenEnd} {Y : Protocol} {n : Nat} {s₀ s : Shared} {fs : List Frame} {env : Env} {tg : Expr} {it : Value} {body : List Stmt}
theorem seg_forLoop (h : wpAny (model prog w) (A.over (.forLoop tg it body [] env) fs) (pyNext it) (fun r s1 => match r with
      | none => Seg (model prog w) A R Y n s₀ (.forLoop tg it body [] env) (.pure (.again (.block [] env))) fs s1
      | some v => wpAny (model prog w) (A.over (.forLoop tg it body [] env) fs) (letOwnedTupleGo tg it v) (fun _ s2 => wpAny (model prog w) (A.over (.forLoop tg it body [] env) fs) (assign tg env v) (fun _ s3 =>
          Seg (model prog w) A R Y n s₀ (.forLoop tg it body [] env) ((execs body env).wrap (fun f => match f with
            | .next | .cont => .pure (.again (.forLoop tg it body [] env))
            | .brk => .pure (.done .next)
            | .ret v => .pure (.done (.ret v))) (fun e => (do noteFrame e env; theTreesLotGoes e : Sem Unit).wrap (fun _ => .raise e) .raise id id) id id) fs s3)
          (fun x s' => Seg (model prog w) A R Y n s₀ (.forLoop tg it body [] env) ((do noteFrame x env; theTreesLotGoes x : Sem Unit).wrap (fun _ => .raise x) .raise id id) fs s') s2)
          (fun x s' => Seg (model prog w) A R Y n s₀ (.forLoop tg it body [] env) ((do noteFrame x env; theTreesLotGoes x : Sem Unit).wrap (fun _ => .raise x) .raise id id) fs s') s1)
      (fun x s' => Seg (model prog w) A R Y n s₀ (.forLoop tg it body [] env) ((do noteFrame x env; theTreesLotGoes x : Sem Unit).wrap (fun _ => .raise x) .raise id id) fs s') s) :
    Seg (model prog w) A R Y n s₀ (.forLoop tg it body [] env) ((model prog w).den (.forLoop tg it body [] env)) fs s := by
  show Seg _ A R Y n s₀ _ ((forTurn tg it body [] env).onRaise (fun x => do noteFrame x env; theTreesLotGoes x)) fs s
  rw [Sem.onRaise_eq_wrap]
  have fix : ∀ (x : Value) (s' : Shared), Seg (model prog w) A R Y n s₀ (.forLoop tg it body [] env) ((do noteFrame x env; theTreesLotGoes x : Sem Unit).wrap (fun _ => .raise x) .raise id id) fs s' →
      Seg (model prog w) A R Y n s₀ (.forLoop tg it body [] env) ((do noteFrame x env; theTreesLotGoes x : Sem Unit).bind (fun _ => .raise x)) fs s' := fun x s' hx => by
    rw [Sem.bind_eq_wrap]; exact hx
  unfold forTurn
  refine seg_bw (wpAny_standAt ?_)
  refine seg_bw (wpAny_onRaise (wpAny_mono h (fun r s1 h1 => ?_) fun x s' hx => wpAny_standAt (fix x s' hx)))
  cases r with
  | none => exact h1
  | some v =>
    refine seg_bw (wpAny_mono h1 (fun _ s2 h2 => ?_) fun x s' hx => fix x s' hx)
    refine seg_bw (wpAny_mono h2 (fun _ s3 h3 => ?_) fun x s' hx => fix x s' hx)
    rw [Sem.bind_eq_wrap', Sem.wrap_wrap]
    rw [Sem.wrap_congr (execs body env) _ _ (K' := fun f => match f with
            | .next | .cont => .pure (.again (.forLoop tg it body [] env))
            | .brk => .pure (.done .next)
            | .ret v => .pure (.done (.ret v))) (H' := (fun e => (do noteFrame e env; theTreesLotGoes e : Sem Unit).wrap (fun _ => .raise e) .raise id id))
        (fun f => by cases f <;> rfl)
        (fun e => by show (do noteFrame e env; theTreesLotGoes e : Sem Unit).bind (fun _ => .raise e) = _; rw [Sem.bind_eq_wrap])]
    exact h3
end
section
variable {X : Cx} {tg iter : Expr} {body : List Stmt} {pos : Pos}
theorem seg_For {A : Around} {R : GenEnd} {Y : Protocol} {n : Nat} {s₀ s : Shared} {c : Code} {fs : List Frame} {env : Env} {K : Flow → Sem PySem.Fin} {J : Value → Sem PySem.Fin} {gd : Bool → Bool} {lv : List Value → List Value} {P : Program} {w : World}
    (h : wpAny (model P w) (A.over c fs) (eval iter env) (fun x s1 => wpAny (model P w) (A.over c fs) (pyIter x) (fun it s2 => ∀ p, Seg (model P w) A R Y n s₀ (.forLoop tg it body [] env) ((model P w).den (.forLoop tg it body [] env))
      (.ret (fun r => ((match r with | .ok f => (.pure f : Sem Flow) | .error e => .raise e).onRaise (cameBack env)).wrap K J gd lv) none (gd false) (lv []) c p [] :: fs) s2) (fun x s' => Seg (model P w) A R Y n s₀ c (J x) fs s') s1) (fun x s' => Seg (model P w) A R Y n s₀ c (J x) fs s') s)
    (hs : ∀ x, foldedSetIterable iter env x = pure x) : Seg (model P w) A R Y n s₀ c ((exec (.For tg iter body [] pos) env).wrap K J gd lv) fs s := by
  rw [exec_For]
  refine seg_bw (wpAny_standAt ?_)
  refine seg_bw (wpAny_mono h (fun x s1 h1 => ?_) fun _ _ z => z)
  refine seg_bw (wpAny_of_eq (hs x) ?_)
  refine seg_bw (wpAny_standAt ?_)
  refine seg_bw (wpAny_holding (wpAny_mono h1 (fun it s2 h2 => ?_) fun _ _ z => z))
  exact seg_call h2
def tGFor (wi : TI) (g : TG) (tb : TGn) : TGn := fun D ys σ H => wi σ H fun J H1 => ∃ W : Nat → Nat → List V → L2.St → Hp → Prop, (∃ m, W 0 m ys σ H1) ∧ ∀ i m ys σ H, W i m ys σ H →
  (J.stop i H ∧ D.nx ys σ H) ∨ (J.go i H ∧ ∃ N : List V → L2.St → Hp → Prop, (∀ ys' σ' H', N ys' σ' H' → ∃ m', m' < m ∧ W (i + 1) m' ys' σ' H') ∧ ∀ x H', J.yld i H x H' → g x σ H' fun σ2 H2 => tb { D with nx := N, ct := N, bk := D.nx } ys σ2 H2)
theorem gs_for {wi : TI} {g : TG} {tb : TGn} (hp : PassesOwn (model X.prog X.w) X.A X.env X.xe) (hc : X.calm = true) (hi : PI X tg iter wi) (hg : PG X tg g) (hb : GSs X body tb)
    (hs : ∀ x, foldedSetIterable iter X.env x = pure x := by intro _; with_unfolding_all rfl) : GS X (.For tg iter body [] pos) (tGFor wi g tb) := by
  refine ⟨fun A S ip R n ys s₀ c fs K J gd lv s σ H D gc hn k hI ht => ?_⟩
  obtain ⟨acc0, c0, r0, I0⟩ := hI
  refine seg_For ?_ hs
  rw [gc.over]
  refine wpAny_mono (hi.run _ s σ H _ I0 ht) (fun v s1 h1 => wpAny_mono h1 (fun itv s2 h2 => ?_) fun x s' hx => k.exc n s₀ x s' hx) fun x s' hx => k.exc n s₀ x s' hx
  obtain ⟨it, fp, tn, Jt, H2, e, I2, T, st2, f2, W, ⟨m0, w0⟩, turn⟩ := h2
  subst e
  intro p
  have gl := fun (kk : Result → Sem PySem.Fin) => gc_loop (k := kk) (c' := .forLoop tg (.ref it) body [] X.env) (l := lv []) (kp := []) (p := p) gc rfl rfl
  have hfS : ∀ b ∈ fp, b ≠ S := fun b hb z => by
    obtain ⟨_, _, _, _, _, q⟩ := f2 b hb
    exact q (S, lstObj acc0 c0) (List.mem_append_right _ List.mem_cons_self) z.symm
  have stat : ∀ {H' : Hp} (acc : Array Value) (cc : Nat), (∀ b ∈ fp, H' b = none) → ∀ b ∈ fp, FpOk X ((S, lstObj acc cc) :: ip) H' b := fun {H'} acc cc hn b hb => by
    obtain ⟨_, q1, q2, q3, q4, q5⟩ := f2 b hb
    refine ⟨hn b hb, q1, q2, q3, q4, fun u hu => ?_⟩
    rcases List.mem_append.mp hu with hu | hu
    · exact q5 u (List.mem_append_left _ hu)
    · rcases List.mem_cons.mp hu with rfl | hu
      · exact fun z => hfS b hb z.symm
      · exact q5 u (List.mem_append_right _ (List.mem_cons_of_mem _ hu))
  have loop : ∀ (m i n : Nat) (ys : List V) (s₀ s : Shared) (σ : L2.St) (H : Hp), n + ys.length = sizeLine → W i m ys σ H → tn i s.heap → (∀ b ∈ fp, H b = none) → GI X S ip ys σ H s →
      Seg (model X.prog X.w) A R (GY X S) n s₀ (.forLoop tg (.ref it) body [] X.env) ((model X.prog X.w).den (.forLoop tg (.ref it) body [] X.env))
        (.ret (fun r => ((match r with | .ok f => (.pure f : Sem Flow) | .error e => .raise e).onRaise (cameBack X.env)).wrap K J gd lv) none (gd false) (lv []) c p [] :: fs) s := by
    intro m
    induction m using Nat.strongRecOn with
    | ind m ih =>
      intro i n ys s₀ s σ H hn w st fr hI
      have ee : ∀ (n : Nat) (s₀ : Shared) (x : Value) (s' : Shared), X.xe x s' → Seg (model X.prog X.w) A R (GY X S) n s₀ (.forLoop tg (.ref it) body [] X.env)
          ((do noteFrame x X.env; theTreesLotGoes x : Sem Unit).wrap (fun _ => .raise x) .raise id id)
          (.ret (fun r => ((match r with | .ok f => (.pure f : Sem Flow) | .error e => .raise e).onRaise (cameBack X.env)).wrap K J gd lv) none (gd false) (lv []) c p [] :: fs) s' := fun n s₀ x s' hx => by
        refine seg_wrap ?_
        rw [(gl _).over]
        refine wpAny_bind (wpAny_mono (hp x s' hx) (fun _ s'' hcb => wpAny_theTreesLotGoes ?_) fun y s'' hcb => ?_)
        · exact seg_leaf (.error x) (seg_cameBack gc k hcb)
        · exact seg_leaf (.error y) (seg_cameBack gc k hcb)
      refine seg_forLoop ?_
      rw [(gl _).over]
      obtain ⟨acc, cc, r, I⟩ := hI
      rcases turn i m ys σ H w with ⟨stop, qn⟩ | ⟨go, N, hN, step⟩
      · refine wpAny_mono (T.done X rfl rfl rfl hc i _ s σ H X.xe I (stat acc cc fr) st stop) (fun r' s4 h4 => ?_) fun x s' hx => ee n s₀ x s' hx
        obtain ⟨hr, I4⟩ := h4
        subst hr
        refine seg_again rfl ?_
        show Seg _ _ _ _ _ _ _ ((execs [] X.env).wrap (fun f => .pure (.done f)) .raise id id) _ _
        exact seg_execs_nil (seg_leaf (.ok .next) (k.ok n ys s₀ s4 .next hn ⟨σ, H, ⟨acc, cc, r, I4⟩, qn⟩))
      · refine wpAny_mono (T.item X rfl rfl rfl hc i _ s σ H X.xe I (stat acc cc fr) st go) (fun r' s4 h4 => ?_) fun x s' hx => ee n s₀ x s' hx
        obtain ⟨u, hr, h4⟩ := h4
        subst hr
        refine wpAny_mono h4 (fun _ s5 h5 => ?_) fun x s' hx => ee n s₀ x s' hx
        obtain ⟨x, H5, I5, r5, y5, st5, fr5⟩ := h5
        have I5' := I5.pinned (stat acc cc fr5) (T.obj _ _ st5)
        refine wpAny_mono (hg.run _ s5 σ H5 x u _ I5' r5 (step x H5 y5)) (fun _ s6 h6 => ?_) fun x s' hx => ee n s₀ x s' hx
        obtain ⟨σ6, H6, I6, q6⟩ := h6
        have gl2 : ∀ (kk : Result → Sem PySem.Fin), GC X S (ip ++ pinsAt fp s5.heap) A (.forLoop tg (.ref it) body [] X.env) (.ret kk none (gd false) (lv []) c p [] :: fs) id := fun kk => ⟨gc.pn, fun q hq => by
          rcases List.mem_append.mp hq with z | z
          · exact gc.ip q z
          · exact hfS _ (of_pinsAt z).1, gc.apart, (gl kk).over, (gl kk).split, (gl kk).guard, rfl⟩
        refine hb.run A S (ip ++ pinsAt fp s5.heap) R n ys s₀ _ _ _ _ id id s6 σ6 H6 { D with nx := N, ct := N, bk := D.nx } (gl2 _) hn ⟨fun n' ys' s₀' s3 f hn' hs3 => ?_, fun n' s₀' x s3 hx => ee n' s₀' x s3 hx⟩ ⟨acc, cc, r, I6⟩ q6
        have back : ∀ {ys7 : List V} {σ7 : L2.St} {H7 : Hp}, GI X S (ip ++ pinsAt fp s5.heap) ys7 σ7 H7 s3 → GI X S ip ys7 σ7 H7 s3 := fun {ys7 σ7 H7} ⟨a7, c7, r7, I7⟩ => ⟨a7, c7, r7, Inv.unpinned (pins := (S, lstObj a7 c7) :: ip) I7⟩
        have again : ∀ {σ7 : L2.St} {H7 : Hp}, GI X S (ip ++ pinsAt fp s5.heap) ys' σ7 H7 s3 → N ys' σ7 H7 → Seg (model X.prog X.w) A R (GY X S) n' s₀' (.forLoop tg (.ref it) body [] X.env) (.pure (.again (.forLoop tg (.ref it) body [] X.env)))
            (.ret (fun r => ((match r with | .ok f => (.pure f : Sem Flow) | .error e => .raise e).onRaise (cameBack X.env)).wrap K J gd lv) none (gd false) (lv []) c p [] :: fs) s3 := fun {σ7 H7} G7 n7 => by
          obtain ⟨m', hm, w7⟩ := hN ys' σ7 H7 n7
          obtain ⟨a7, c7, r7, I7⟩ := id G7
          have pin7 : ∀ b ∈ fp, ∀ o, s5.heap.get? b = some o → _ := fun b hb o e => I7.pin (b, o) (List.mem_append_right _ (List.mem_cons_of_mem _ (List.mem_append_right _ (mem_pinsAt hb e))))
          refine seg_again rfl (ih m' hm (i + 1) n' ys' s₀' s3 σ7 H7 hn' w7 (T.keep _ _ _ st5 fun b hb o e => (pin7 b hb o e).1) (fun b hb => ?_) (back G7))
          obtain ⟨o, e, d⟩ := T.obj _ _ st5 b hb
          exact (pin7 b hb o e).2.1
        cases f with
        | next =>
          obtain ⟨σ3, H3, G3, n3⟩ := hs3
          exact again G3 n3
        | cont =>
          obtain ⟨σ3, H3, G3, n3⟩ := hs3
          exact again G3 n3
        | brk =>
          obtain ⟨σ3, H3, G3, n3⟩ := hs3
          exact seg_leaf (.ok .next) (k.ok n' ys' s₀' s3 .next hn' ⟨σ3, H3, back G3, n3⟩)
        | ret v =>
          obtain ⟨x7, σ3, H3, G3, rv, n3⟩ := hs3
          exact seg_leaf (.ok (.ret v)) (k.ok n' ys' s₀' s3 (.ret v) hn' ⟨x7, σ3, H3, back G3, rv, n3⟩)
  exact loop m0 0 n ys s₀ s2 σ H2 hn w0 st2 (fun b hb => (f2 b hb).1) ⟨acc0, c0, r0, I2⟩
end
end Sv

namespace Sv
open PySem PySem.Spec PyProof.Rows L2
/-! ### generator bodies by syntax -/
structure GWL (X : Cx) (sts : List Stmt) (D : GEnds) (ys : List V) (σ : L2.St) (H : Hp) : Prop where
  run : ∀ (A : Around) (S : Addr) (ip : List (Addr × Obj)) (R : GenEnd) (n : Nat) (s₀ : Shared) (c : Code) (fs : List Frame) (K : Flow → Sem PySem.Fin) (J : Value → Sem PySem.Fin) (gd : Bool → Bool) (lv : List Value → List Value) (s : Shared),
    GC X S ip A c fs gd → n + ys.length = sizeLine → GK X S ip A R c fs K J D → GI X S ip ys σ H s → Seg (model X.prog X.w) A R (GY X S) n s₀ c ((execs sts X.env).wrap K J gd lv) fs s
structure GWS (X : Cx) (st : Stmt) (D : GEnds) (ys : List V) (σ : L2.St) (H : Hp) : Prop where
  run : ∀ (A : Around) (S : Addr) (ip : List (Addr × Obj)) (R : GenEnd) (n : Nat) (s₀ : Shared) (c : Code) (fs : List Frame) (K : Flow → Sem PySem.Fin) (J : Value → Sem PySem.Fin) (gd : Bool → Bool) (lv : List Value → List Value) (s : Shared),
    GC X S ip A c fs gd → n + ys.length = sizeLine → GK X S ip A R c fs K J D → GI X S ip ys σ H s → Seg (model X.prog X.w) A R (GY X S) n s₀ c ((exec st X.env).wrap K J gd lv) fs s
section
variable {X : Cx} {N L S G B : List Str} {st : Stmt} {sts : List Stmt} {e tg iter : Expr} {D : GEnds} {ys : List V} {σ : L2.St} {H : Hp} {pos yp : Pos}
theorem gss_w : GSs X sts (GWL X sts) := ⟨fun A S ip R n ys s₀ c fs K J gd lv s σ H D g hn k hI h => h.run A S ip R n s₀ c fs K J gd lv s g hn k hI⟩
theorem gs_w : GS X st (GWS X st) := ⟨fun A S ip R n ys s₀ c fs K J gd lv s σ H D g hn k hI h => h.run A S ip R n s₀ c fs K J gd lv s g hn k hI⟩
theorem gss_to {t : TGn} (a : GSs X sts t) (h : t D ys σ H) : GWL X sts D ys σ H := ⟨fun A S ip R n s₀ c fs K J gd lv s g hn k hI => a.run A S ip R n ys s₀ c fs K J gd lv s σ H D g hn k hI h⟩
theorem gs_to {t : TGn} (a : GS X st t) (h : t D ys σ H) : GWS X st D ys σ H := ⟨fun A S ip R n s₀ c fs K J gd lv s g hn k hI => a.run A S ip R n ys s₀ c fs K J gd lv s σ H D g hn k hI h⟩
theorem gwl_nil (q : D.nx ys σ H) : GWL X [] D ys σ H := gss_to gss_nil q
theorem gwl_cons (h : GWS X st { D with nx := fun ys' σ' H' => GWL X sts D ys' σ' H' } ys σ H) : GWL X (st :: sts) D ys σ H := gss_to (gss_cons gs_w gss_w) h
theorem gws_plain (h : WS X st (D.at ys) σ H) : GWS X st D ys σ H := gs_to (gs_ps ps_w) h
theorem gws_yield (hl : ys.length < sizeLine) (h : WE X e σ H fun x H1 => D.nx (ys ++ [x]) σ H1) (hco : X.env.scope.isCoroutine = false) (hi : interactive X.env = false) : GWS X (.Expr (.Yield (some e) yp) pos) D ys σ H := gs_to (gs_yield pe_w hco hi) ⟨hl, h⟩
theorem gws_for (hp : PassesOwn (model X.prog X.w) X.A X.env X.xe) (hc : Nm X N L S G B)
    (h : WI X tg iter σ H fun J H1 => ∃ n it, Wlk J n it H1 ∧ ∃ Pv : Nat → List V → L2.St → Hp → Prop, Pv 0 ys σ H1 ∧ (∀ i ys' σ' H', Pv i ys' σ' H' → Same H1 H') ∧
      (∀ i ys' σ' H', i < n → Pv i ys' σ' H' → WG X tg (it i) σ' H' fun σ2 H2 => GWL X sts { D with nx := Pv (i + 1), ct := Pv (i + 1), bk := D.nx } ys' σ2 H2) ∧ ∀ ys' σ' H', Pv n ys' σ' H' → D.nx ys' σ' H')
    (hs : ∀ x, foldedSetIterable iter X.env x = pure x := by intro _; with_unfolding_all rfl) : GWS X (.For tg iter sts [] pos) D ys σ H := by
  refine gs_to (gs_for hp hc.calm pi_w pg_w gss_w hs) ?_
  refine ⟨fun pins s I => thn (h.run pins s I) fun v s1 h1 => thn h1 fun itv s2 ⟨it, fp, tn, J, H', e, I', T, t0, hf, n, itm, W, Pv, p0, hsm, hst, hd⟩ => ⟨it, fp, tn, J, H', e, I', T, t0, hf, ?_⟩⟩
  refine ⟨fun i m ys' σ' H'' => m = n - i ∧ i ≤ n ∧ Pv i ys' σ' H'', ⟨n, by simp, Nat.zero_le _, p0⟩, ?_⟩
  rintro i m ys' σ' H'' ⟨rfl, hi, p⟩
  by_cases hlt : i < n
  · refine .inr ⟨W.go i H'' hlt (hsm _ _ _ _ p), Pv (i + 1), fun ys2 σ2 H2 p' => ⟨n - (i + 1), by omega, rfl, hlt, p'⟩, fun x H3 y => ?_⟩
    obtain ⟨rfl, rfl⟩ := W.yld i H'' x H3 hlt (hsm _ _ _ _ p) y
    exact hst i ys' σ' _ hlt p
  · have e : i = n := by omega
    subst e
    exact .inl ⟨W.stop _ _ (Nat.le_refl _) (hsm _ _ _ _ p), hd _ _ _ p⟩
end
/-! ### a generator def -/
def gscB (N ps L G B : List Str) (sc : Scope) : Bool :=
  (match sc.kind with | .function => true | _ => false) && !sc.isCoroutine && sc.isGenerator && decide N.Nodup && decide (N.take ps.length = ps) && ps.all (locB sc) && (sc.names.all fun y => match y.2 with | .free => false | _ => true) &&
  (L.all fun x => locB sc x && !(x == ("__debug__" : Str)) && !(x == ("__classdict__" : Str))) && (G.all fun x => gloB sc x && !(x == ("__debug__" : Str)) && decide (x ≠ "__name__")) && (B.all fun x => gloB sc x && !(x == ("__debug__" : Str)) && decide (x ≠ "__name__"))
theorem gscB_ok {N ps L G B : List Str} {sc : Scope} (h : gscB N ps L G B sc = true) : GScope N ps sc ∧ (∀ x ∈ L, Loc sc x ∧ (x == ("__debug__" : Str)) = false ∧ (x == ("__classdict__" : Str)) = false) ∧
    (∀ x ∈ G, sc.names.lookup x = some .globalImplicit ∧ (x == ("__debug__" : Str)) = false ∧ x ≠ "__name__") ∧ (∀ x ∈ B, sc.names.lookup x = some .globalImplicit ∧ (x == ("__debug__" : Str)) = false ∧ x ≠ "__name__") := by
  unfold gscB at h
  simp only [Bool.and_eq_true, List.all_eq_true, decide_eq_true_eq, Bool.not_eq_true'] at h
  obtain ⟨⟨⟨⟨⟨⟨⟨⟨⟨h1, h2⟩, h3⟩, h4⟩, h5⟩, h6⟩, h7⟩, h8⟩, h9⟩, h10⟩ := h
  refine ⟨⟨?_, h2, h3, h4, h5, fun x hx => locB_ok (h6 x hx), fun y hy e => ?_⟩, fun x hx => ⟨locB_ok (h8 x hx).1.1, (h8 x hx).1.2, (h8 x hx).2⟩, fun x hx => ⟨gloB_ok (h9 x hx).1.1, (h9 x hx).1.2, (h9 x hx).2⟩, fun x hx => ⟨gloB_ok (h10 x hx).1.1, (h10 x hx).1.2, (h10 x hx).2⟩⟩
  · split at h1
    · assumption
    · cases h1
  · have := h7 y hy
    rw [e] at this
    cases this
abbrev gcx (P : Program) (w : World) (K : PySem.W.Frag) (mg : Str → Option Value) (base : Heap) (N : List Str) (qual : Str) (sc : Scope) (f : Addr) (cd : Value) (A : Around) (outer : List Env) (s : Shared) (H : Hp) (E : XK) (pn : List (Addr × Obj)) : Cx := gcxOf P w K mg base N qual sc f cd A outer s H E pn
theorem gnm_of {P : Program} {w : World} {K : PySem.W.Frag} {mg : Str → Option Value} {base : Heap} {N ps L G B : List Str} {qual : Str} {sc : Scope} {f : Addr} {cd : Value} {A : Around} {outer : List Env} {s : Shared} {H : Hp} {E : XK} {pn : List (Addr × Obj)} (h : gscB N ps L G B sc = true) (hb : ∀ x ∈ B, mg x = none) :
    Nm (gcx P w K mg base N qual sc f cd A outer s H E pn) N L L G B := by
  obtain ⟨F, hL, hG, hB⟩ := gscB_ok h
  exact ⟨rfl, F.nd, fun x hx => ⟨by rcases (hL x hx).1 with z | z; exact .inl z; exact .inr (.inl z), (hL x hx).2⟩, fun x hx => ⟨(hL x hx).1, .inl rfl⟩, hG, hb, hB, rfl⟩
/-- THE RULE for a generator def without defaults -/
theorem gfn_by {P : Program} {w : World} {K : PySem.W.Frag} {mg : Str → Option Value} {base : Heap} {N ps L G B : List Str} {k : Nat} {x qual : Str} {params : Arguments} {body : List Stmt} {sc : Scope} {f : Addr} {fd : FuncData} {sp : SpG}
    (F : FunD K x qual params body sc [] [] f fd) (S : gscB N ps L G B sc = true) (len : ∀ vs H Q E, sp vs H Q E → vs.length = ps.length) (hb : ∀ x ∈ B, mg x = none)
    (hbody : ∀ (cd : Value) (A : Around) (outer : List Env) (s : Shared) (H : Hp) (vs : List V) (Q : List V → Hp → Prop) (E : XK) (pn : List (Addr × Obj)), Room k (gcx P w K mg base N qual sc f cd A outer s H E pn).A → Nm (gcx P w K mg base N qual sc f cd A outer s H E pn) N L L G B → sp vs H Q E →
      GWL (gcx P w K mg base N qual sc f cd A outer s H E pn) body { nx := fun ys _ H' => Q ys H', rt := fun ys v H' => v = .non ∧ Q ys H' } [] (start N vs) H) : GFn P w K mg base (k + 1) f fd ps sp := by
  obtain ⟨oc, od, dV, kV, doc, pm, an, cdv, ct, osl, rfl, lk, hcd, _, _⟩ := F.ex
  exact gfn_of lk hcd (gscB_ok S).1 len fun A outer s H vs Q E pn hr h => ⟨GWL (gcx P w K mg base N qual sc f cdv A outer s H E pn) body, gss_w, hbody cdv A outer s H vs Q E pn hr (gnm_of S hb) h⟩
/-- o.m(..), a generator method of the class at C -/
structure GMt (P : Program) (w : World) (K : PySem.W.Frag) (mg : Str → Option Value) (base : Heap) (C : Addr) (m : Str) (k : Nat) (sp : SpG) : Prop where
  ex : ∃ f fd ps, Cls K C ∧ Meth K C m f ∧ GFn P w K mg base k f fd ps sp ∧ Binds K fd ps []
theorem x_listM {X : Cx} {N L S G B : List Str} {o e : Expr} {es : List Expr} {m : Str} {C : Addr} {k j : Nat} {sp : SpG} {σ : L2.St} {H : Hp} {Q : VK} {p apos pos' pos : Pos} {pl : Sem Bool} (c : Nm X N L S G B) (mm : Mb "list" B) (F : GMt X.prog X.w X.K X.mg X.base C m k sp) (hr : Room j X.A) (hj : k + 3 ≤ j)
    (h : WE X o σ H fun x H1 => ∃ a dx fs, x = .ref a ∧ H1 a = some (.ins C dx fs) ∧ fs.lookup m = none ∧ WA X (e :: es) σ H1 fun vs H2 => sp (.ref a :: vs) H2 (fun out H3 => ∀ q, H3 q = none → Q (.ref q) (upd H3 q (.lst out))) E0)
    (hst : starEach (e :: es) X.env = (false, eval e X.env) :: starEach es X.env := by with_unfolding_all rfl) (hpl : (backTo pos' (starEach es X.env)).any (·.1) = false := by with_unfolding_all rfl)
    (ht : eval (.Call (.Attribute o m apos) (e :: es) [] pos') X.env = (do
      let ov ← eval o X.env
      standAt apos.atName
      let (f, first) ← holding [ov] (getMethod ov m pl)
      callWith pos' f first (backTo pos' (starEach (e :: es) X.env)) (backToKw pos' (keywordEach [] X.env))) := by with_unfolding_all rfl)
    (he : starEach [.Call (.Attribute o m apos) (e :: es) [] pos'] X.env = (false, eval (.Call (.Attribute o m apos) (e :: es) [] pos') X.env) :: starEach [] X.env := by with_unfolding_all rfl) :
    WE X (.Call (.Name "list" p) [.Call (.Attribute o m apos) (e :: es) [] pos'] [] pos) σ H Q := by
  obtain ⟨f, fd, ps, cl, hm, F, hB⟩ := F.ex
  refine (pe_listG (E := E0) (pgen_meth (E := E0) pe_w cl hm F (hr.mono (by omega)) hB .nil pa_w hst hpl ht) passL (fun _ _ _ z => z.elim) (hr.mono hj) (c.bgl _ mm.mem).1 (c.blt _ mm.mem) bt_list (he := he)).w ?_
  refine WE.imp h fun x H1 ⟨a, dx, fs, ex, ha, hl, q⟩ => ⟨a, dx, fs, ex, ha, hl, WA.imp q fun vs H2 q2 => ?_⟩
  rw [List.append_nil, ex]
  exact q2
theorem wl_startG {X : Cx} {sts : List Stmt} {D : GEnds} {ys : List V} {σ σ' : L2.St} {H : Hp} (e : σ = σ') (h : GWL X sts D ys σ' H) : GWL X sts D ys σ H := e ▸ h
theorem gEx {α : Type} {p : α → Prop} (h : ∃ x, p x) : ∃ x, p x := h
/-! tests for None -/
theorem dec_nn : decide (V.non = V.non) = true := decide_eq_true rfl
theorem dec_rn {a : Addr} : decide (V.ref a = V.non) = false := decide_eq_false (fun z => nomatch z)
theorem ite_nn {A B : Prop} (h : A) : if decide (V.non = V.non) = true then A else B := by rw [dec_nn, if_pos rfl]; exact h
theorem ite_rn {a : Addr} {A B : Prop} (h : B) : if decide (V.ref a = V.non) = true then A else B := by rw [dec_rn, if_neg (by decide)]; exact h
theorem ite_nnn {A B : Prop} (h : B) : if (!decide (V.non = V.non)) = true then A else B := by rw [dec_nn]; exact h
theorem ite_nrn {a : Addr} {A B : Prop} (h : A) : if (!decide (V.ref a = V.non)) = true then A else B := by rw [dec_rn]; exact h
/-- a statement, then what is known behind it -/
theorem WS.cut {X : Cx} {st : Stmt} {D : Ends} {σ : L2.St} {H : Hp} (M : L2.St → Hp → Prop) (h : WS X st { D with nx := M } σ H) (k : ∀ σ' H', M σ' H' → D.nx σ' H') : WS X st D σ H :=
  ⟨fun pins s I => thn (h.run pins s I) fun f s' z => by
    cases f with
    | next => obtain ⟨σ', H', I', m⟩ := z; exact ⟨σ', H', I', k _ _ m⟩
    | brk => exact z
    | cont => exact z
    | ret u => exact z⟩
theorem dec_in {i : Int} : decide (V.int i = V.non) = false := decide_eq_false (fun z => nomatch z)
theorem dec_tt : decide (true = true) = true := rfl
end Sv

namespace Sv
open PySem PySem.Spec PyProof.Rows L2
section
variable {X : Cx} {N L S G B : List Str} {a e : Expr} {σ : L2.St} {H : Hp} {Q : VK} {p p2 p3 pos : Pos}
theorem rgV_nat (n : Nat) : rgV 0 ((n : Nat) : Int) = (List.range n).map fun i => V.int ((i : Nat) : Int) := by
  unfold rgV
  rw [show (((n : Nat) : Int) - 0).toNat = n by omega]
  exact List.map_congr_left fun i _ => by rw [Int.zero_add]
/-- list(range(n)) -/
theorem x_listRg (c : Nm X N L S G B) (m : Mb "list" B) (m2 : Mb "range" B) (h : WE X a σ H fun x H1 => ∃ n : Nat, x = .int (n : Nat) ∧ n ≤ 16777216 ∧ ∀ q H', H1 q = none → Same H1 H' → H' q = some (.lst ((List.range n).map fun i => V.int ((i : Nat) : Int))) → Q (.ref q) H')
    (na2 : starEach [a] X.env = (false, eval a X.env) :: starEach [] X.env := by with_unfolding_all rfl)
    (na : starEach [.Call (.Name "range" p2) [a] [] p3] X.env = (false, eval (.Call (.Name "range" p2) [a] [] p3) X.env) :: starEach [] X.env := by with_unfolding_all rfl) : WE X (.Call (.Name "list" p) [.Call (.Name "range" p2) [a] [] p3] [] pos) σ H Q :=
  (pe_listRg c.calm (c.bgl _ m.mem).1 (c.blt _ m.mem) (prg_1 (c.bgl _ m2.mem).1 (c.blt _ m2.mem) pe_w na2) na).w (WE.imp h fun x H1 ⟨n, e, hn, q⟩ => ⟨((n : Nat) : Int), e, RgOk.of_le (by omega) (by omega) (by omega) (by omega), fun q' hq => by rw [rgV_nat]; exact q q' _ hq (same_new hq) upd_same⟩)
theorem bt_repr : bootBuiltins "repr" = some (.builtin "repr") := by decide +kernel
/-- repr of an int -/
theorem x_repr (c : Nm X N L S G B) (m : Mb "repr" B) (h : WE X e σ H fun x H1 => ∃ i : Int, x = .int i ∧ i.natAbs.log2 < 1920 ∧ Q (.str (toString i)) H1) (hs : starEach [e] X.env = (false, eval e X.env) :: starEach [] X.env := by with_unfolding_all rfl) (hpl : (backTo pos (starEach [] X.env)).any (·.1) = false := by with_unfolding_all rfl) : WE X (.Call (.Name "repr" p) [e] [] pos) σ H Q :=
  w_callB c m bt_repr (wa_cons (WE.imp h fun x H1 ⟨i, ex, hz, q⟩ => wa_nil (by rw [ex]; exact (SkE.call_repr_int).w ⟨i, rfl, hz, q⟩)) hs) hs hpl
theorem b_fdivW {i j : Int} (h : 0 < j ∧ j.natAbs.log2 < 9000) (q : Q (.int (i / j)) H) : WB X (binaryOp .FloorDiv) (.int i) (.int j) σ H Q := op_fdivW.w ⟨_, _, rfl, rfl, h, q⟩
end
end Sv

namespace Sv
open PySem PySem.Spec PyProof.Rows L2
section
variable {X : Cx} {N L S G B : List Str} {e : Expr} {σ : L2.St} {H : Hp} {Q : VK} {p pos : Pos}
theorem bt_dict : bootBuiltins "dict" = some (.type "dict") := by decide +kernel
/-- dict(xs) of a list of pairs -/
theorem x_dictP (c : Nm X N L S G B) (m : Mb "dict" B) (h : WE X e σ H fun x H1 => ∃ (a : Addr) (ps : List Addr) (kvs : List (Key × V)), x = .ref a ∧ SqL X.K H1 a (ps.map V.ref) ∧ Paired (fun p kv => SqT X.K H1 p [kV kv.1, kv.2]) ps kvs ∧ ∀ p H', H1 p = none → Same H1 H' → H' p = some (.dK (mergeK [] kvs)) → Q (.ref p) H')
    (hs : starEach [e] X.env = (false, eval e X.env) :: starEach [] X.env := by with_unfolding_all rfl) (hpl : (backTo pos (starEach [] X.env)).any (·.1) = false := by with_unfolding_all rfl) : WE X (.Call (.Name "dict" p) [e] [] pos) σ H Q :=
  w_callTy c m bt_dict (wa_cons (WE.imp h fun x H1 ⟨a, ps, kvs, ex, hq, hp, q⟩ => wa_nil (by rw [ex]; exact (call_dictP c.calm).w ⟨a, ps, kvs, rfl, hq, hp, newly' (Q := fun p H' => Q (.ref p) H') q⟩)) hs) hs hpl
/-- y in d -/
theorem b_inD {y : V} {a : Addr} {o : Option V} (hu : X.A.units + 1 < cLine) (g : DGet H a y o) (q : Q (.bl o.isSome) H) : WB X (compareOp .In) y (.ref a) σ H Q := ⟨fun pins s v u I rx ry => by
  obtain rfl : u = Value.ref a := ry
  exact d_in hu I g rx fun s3 I3 => ⟨.bl o.isSome, H, I3, rfl, q⟩⟩
end
theorem valV_merge (k : Key) : ∀ (more kvs : List (Key × V)), (valV (mergeK kvs more) k).isSome = ((valV kvs k).isSome || more.any fun kv => decide (kv.1 = k))
  | [], kvs => by show _ = ((valV kvs k).isSome || false); rw [Bool.or_false]; rfl
  | kv :: more, kvs => by
    show (valV (mergeK (putK kvs kv.1 kv.2) more) k).isSome = _
    rw [valV_merge k more, valV_put, List.any_cons]
    by_cases h : k = kv.1
    · rw [if_pos h, decide_eq_true h.symm]; simp
    · rw [if_neg h, decide_eq_false (fun z => h z.symm), Bool.false_or]
/-- lists of numbers as data -/
theorem dps_ints {K : PySem.W.Frag} {H : Hp} : ∀ ns : List Nat, DpAll K H ((ns.map fun n => ((n : Nat) : Int)).map V.int) ((ns.map fun n => ((n : Nat) : Int)).map PyData.int)
  | [] => .nil
  | _ :: ns => .cons (.int _) (dps_ints ns)
theorem eqv_ints : ∀ ns : List Int, PyData.eqvAll (ns.map PyData.int) (ns.map PyData.int) = true
  | [] => by simp [PyData.eqvAll]
  | n :: ns => by
    have := eqv_ints ns
    simp only [List.map_cons, PyData.eqvAll, this]
    simp [PyData.eqv]
theorem eqv_list (ns : List Int) : PyData.eqv (.list (ns.map PyData.int)) (.list (ns.map PyData.int)) = true := by
  have := eqv_ints ns
  simp only [PyData.eqv, this]
end Sv

namespace Sv
open PySem PySem.Spec PyProof.Rows L2
section
variable {X : Cx} {o e : Expr} {σ : L2.St} {H : Hp} {Q : VK} {apos pos : Pos}
/-- xs.index(e) of flat items -/
theorem w_lindex (h : WE X o σ H fun x H1 => ∃ l, x = .ref l ∧ (∃ xs, SqL X.K H1 l xs) ∧ WE X e σ H1 fun y H2 => ∃ (ys : List V) (j : Nat) (z : V), SqL X.K H2 l ys ∧ flatV y = true ∧ ys.all flatV = true ∧ ys[j]? = some z ∧ eqV z y = true ∧ (∀ (m : Nat) (z' : V), m < j → ys[m]? = some z' → eqV z' y = false) ∧ Q (.int (j : Nat)) H2)
    (hbase : attributeBase o "index" X.env (eval o X.env) = eval o X.env := by with_unfolding_all rfl)
    (hfew : ((backTo pos (starEach [e] X.env)).all (fun x => !x.1) && (backToKw pos (keywordEach [] X.env)).all (fun x => x.1.isSome)
      && decide ([e].length + ([] : List Keyword).length + (if ([] : List Keyword).isEmpty then 0 else 1) < 30)) = true := by with_unfolding_all rfl)
    (hline : (apos.endLine == pos.line) = true := by with_unfolding_all rfl) (hs : starEach [e] X.env = (false, eval e X.env) :: starEach [] X.env := by with_unfolding_all rfl) : WE X (.Call (.Attribute o "index" apos) [e] [] pos) σ H Q := by
  refine (pe_bm PySem.F.plainAttrs_list PySem.F.slot_list_index PySem.F.type_list_index mt_index pe_w (pa_cons pe_w pa_nil hs) hbase hfew hline hs rfl).w ?_
  exact WE.imp h fun x H1 ⟨l, e1, ⟨xs, hx⟩, q⟩ => ⟨by rw [e1]; exact Or.inl ⟨rfl, xs, hx⟩, WE.imp q fun y H2 ⟨ys, j, z, h2, fy, fys, hz, ez, hno, q⟩ => ⟨l, ys, y, j, z, e1, rfl, h2, fy, fys, hz, ez, hno, q⟩⟩
end
theorem dec_sn {x : Str} : decide (V.str x = V.non) = false := decide_eq_false (fun z => nomatch z)
theorem flat_ints (ns : List Int) : (ns.map V.int).all flatV = true := by
  rw [List.all_map, List.all_eq_true]
  intro x _
  rfl
theorem inV_ints (n : Nat) (ns : List Nat) : inV (.int ((n : Nat) : Int)) ((ns.map fun n => ((n : Nat) : Int)).map V.int) = ns.any (· == n) := by
  unfold inV
  rw [List.any_map, List.any_map]
  congr 1
  funext m
  show (((m : Nat) : Int) == ((n : Nat) : Int)) = (m == n)
  rw [Bool.eq_iff_iff, beq_iff_eq, beq_iff_eq]
  exact Int.natCast_inj
theorem eqv_nil (ns : List Int) : PyData.eqv (.list (ns.map PyData.int)) (.list []) = ns.isEmpty := by
  cases ns with
  | nil => simp [PyData.eqv, PyData.eqvAll]
  | cons n ns => simp [PyData.eqv, PyData.eqvAll]
end Sv

namespace Sv
open PySem PySem.Spec PyProof.Rows L2
/-! the text: each def by its place -/
def topS (i : Nat) : Stmt := PySem.Challenge.pw_sieverows_k15_sets_of_numbers.main.body.getD i (.Pass ⟨0, 0, 0, 0⟩)
abbrev s_InvalidPattern___init__ : Stmt := inClass (topS 3) 0
abbrev s_InvalidNumber___init__ : Stmt := inClass (topS 4) 0
abbrev s_NothingKept___init__ : Stmt := inClass (topS 5) 0
abbrev s_LimitExceeded___init__ : Stmt := inClass (topS 6) 0
abbrev s_is_integer : Stmt := topS 8
abbrev s_check_number : Stmt := topS 9
abbrev s_least_pattern : Stmt := topS 10
abbrev s_pattern_of : Stmt := topS 11
abbrev s_Sieve___init__ : Stmt := inClass (topS 12) 1
abbrev s_Sieve_is_pattern : Stmt := inClass (topS 12) 2
abbrev s_Sieve_of : Stmt := inClass (topS 12) 4
abbrev s_Sieve_pattern : Stmt := inClass (topS 12) 5
abbrev s_Sieve_period : Stmt := inClass (topS 12) 6
abbrev s_Sieve_is_kept : Stmt := inClass (topS 12) 8
abbrev s_Sieve___eq__ : Stmt := inClass (topS 12) 12
abbrev s_common_divisor : Stmt := topS 13
abbrev s_common_multiple : Stmt := topS 14
abbrev s_check_limit : Stmt := topS 15
abbrev s_common_period : Stmt := topS 16
abbrev s_sieve_from : Stmt := topS 17
abbrev s_union : Stmt := topS 19
abbrev s_intersection : Stmt := topS 20
abbrev s_difference : Stmt := topS 21
abbrev s_complement : Stmt := topS 22
abbrev s__law_pool : Stmt := topS 24
abbrev s__law_take : Stmt := topS 25
abbrev s__law_pattern : Stmt := topS 26
abbrev s__law_same : Stmt := topS 27
abbrev s__law_right : Stmt := topS 28
abbrev s_law : Stmt := topS 29
abbrev N_InvalidPattern___init__ : List Str := ["self", "value"]
abbrev L_InvalidPattern___init__ : List Str := ["self", "value"]
abbrev G_InvalidPattern___init__ : List Str := ["SieveError"]
abbrev B_InvalidPattern___init__ : List Str := []
theorem sc_InvalidPattern___init__ : scB N_InvalidPattern___init__ ["self", "value"] L_InvalidPattern___init__ G_InvalidPattern___init__ B_InvalidPattern___init__ (defScope s_InvalidPattern___init__) = true := by decide +kernel
abbrev N_InvalidNumber___init__ : List Str := ["self", "value"]
abbrev L_InvalidNumber___init__ : List Str := ["self", "value"]
abbrev G_InvalidNumber___init__ : List Str := ["SieveError"]
abbrev B_InvalidNumber___init__ : List Str := []
theorem sc_InvalidNumber___init__ : scB N_InvalidNumber___init__ ["self", "value"] L_InvalidNumber___init__ G_InvalidNumber___init__ B_InvalidNumber___init__ (defScope s_InvalidNumber___init__) = true := by decide +kernel
abbrev N_NothingKept___init__ : List Str := ["self", "value"]
abbrev L_NothingKept___init__ : List Str := ["self", "value"]
abbrev G_NothingKept___init__ : List Str := ["SieveError"]
abbrev B_NothingKept___init__ : List Str := []
theorem sc_NothingKept___init__ : scB N_NothingKept___init__ ["self", "value"] L_NothingKept___init__ G_NothingKept___init__ B_NothingKept___init__ (defScope s_NothingKept___init__) = true := by decide +kernel
abbrev N_LimitExceeded___init__ : List Str := ["self", "limit"]
abbrev L_LimitExceeded___init__ : List Str := ["self", "limit"]
abbrev G_LimitExceeded___init__ : List Str := []
abbrev B_LimitExceeded___init__ : List Str := ["OverflowError"]
theorem sc_LimitExceeded___init__ : scB N_LimitExceeded___init__ ["self", "limit"] L_LimitExceeded___init__ G_LimitExceeded___init__ B_LimitExceeded___init__ (defScope s_LimitExceeded___init__) = true := by decide +kernel
abbrev N_is_integer : List Str := ["value", "minimum"]
abbrev L_is_integer : List Str := ["value", "minimum"]
abbrev G_is_integer : List Str := []
abbrev B_is_integer : List Str := ["isinstance", "int", "bool"]
theorem sc_is_integer : scB N_is_integer ["value", "minimum"] L_is_integer G_is_integer B_is_integer (defScope s_is_integer) = true := by decide +kernel
abbrev N_check_number : List Str := ["value"]
abbrev L_check_number : List Str := ["value"]
abbrev G_check_number : List Str := ["is_integer", "InvalidNumber"]
abbrev B_check_number : List Str := []
theorem sc_check_number : scB N_check_number ["value"] L_check_number G_check_number B_check_number (defScope s_check_number) = true := by decide +kernel
abbrev N_least_pattern : List Str := ["pattern", "length", "period"]
abbrev L_least_pattern : List Str := ["pattern", "length", "period"]
abbrev G_least_pattern : List Str := []
abbrev B_least_pattern : List Str := ["len", "range"]
theorem sc_least_pattern : scB N_least_pattern ["pattern"] L_least_pattern G_least_pattern B_least_pattern (defScope s_least_pattern) = true := by decide +kernel
abbrev N_pattern_of : List Str := ["kept", "period", "marks", "number"]
abbrev L_pattern_of : List Str := ["kept", "period", "marks"]
abbrev G_pattern_of : List Str := []
abbrev B_pattern_of : List Str := ["set", "range"]
theorem sc_pattern_of : scB N_pattern_of ["kept", "period"] L_pattern_of G_pattern_of B_pattern_of (defScope s_pattern_of) = true := by decide +kernel
abbrev bL_pattern_of_0 : List Str := ["number", "marks"]
abbrev bS_pattern_of_0 : List Str := ["number"]
abbrev bG_pattern_of_0 : List Str := []
abbrev bB_pattern_of_0 : List Str := []
abbrev bO_pattern_of_0 : List (Str × Nat) := [("number", 3)]
abbrev N_Sieve___init__ : List Str := ["self", "pattern", "number", "sign"]
abbrev L_Sieve___init__ : List Str := ["self", "pattern"]
abbrev G_Sieve___init__ : List Str := ["least_pattern", "InvalidPattern", "Sieve"]
abbrev B_Sieve___init__ : List Str := ["enumerate"]
theorem sc_Sieve___init__ : scB N_Sieve___init__ ["self", "pattern"] L_Sieve___init__ G_Sieve___init__ B_Sieve___init__ (defScope s_Sieve___init__) = true := by decide +kernel
abbrev bL_Sieve___init___0 : List Str := ["number", "sign"]
abbrev bS_Sieve___init___0 : List Str := ["number", "sign"]
abbrev bG_Sieve___init___0 : List Str := []
abbrev bB_Sieve___init___0 : List Str := []
abbrev bO_Sieve___init___0 : List (Str × Nat) := [("number", 2), ("sign", 3)]
abbrev N_Sieve_is_pattern : List Str := ["value", "sign"]
abbrev L_Sieve_is_pattern : List Str := ["value"]
abbrev G_Sieve_is_pattern : List Str := ["Sieve"]
abbrev B_Sieve_is_pattern : List Str := ["all", "isinstance", "str", "len"]
theorem sc_Sieve_is_pattern : scB N_Sieve_is_pattern ["value"] L_Sieve_is_pattern G_Sieve_is_pattern B_Sieve_is_pattern (defScope s_Sieve_is_pattern) = true := by decide +kernel
abbrev bL_Sieve_is_pattern_0 : List Str := ["sign"]
abbrev bS_Sieve_is_pattern_0 : List Str := ["sign"]
abbrev bG_Sieve_is_pattern_0 : List Str := []
abbrev bB_Sieve_is_pattern_0 : List Str := []
abbrev bO_Sieve_is_pattern_0 : List (Str × Nat) := [("sign", 1)]
abbrev N_Sieve_of : List Str := ["cls", "period", "numbers", "number"]
abbrev L_Sieve_of : List Str := ["cls", "period", "numbers", "number"]
abbrev G_Sieve_of : List Str := ["InvalidNumber", "check_number", "NothingKept", "pattern_of", "is_integer"]
abbrev B_Sieve_of : List Str := ["len"]
theorem sc_Sieve_of : scB N_Sieve_of ["cls", "period", "numbers"] L_Sieve_of G_Sieve_of B_Sieve_of (defScope s_Sieve_of) = true := by decide +kernel
abbrev bL_Sieve_of_0 : List Str := ["number", "period"]
abbrev bS_Sieve_of_0 : List Str := ["number"]
abbrev bG_Sieve_of_0 : List Str := []
abbrev bB_Sieve_of_0 : List Str := []
abbrev bO_Sieve_of_0 : List (Str × Nat) := [("number", 3)]
abbrev N_Sieve_pattern : List Str := ["self"]
abbrev L_Sieve_pattern : List Str := ["self"]
abbrev G_Sieve_pattern : List Str := []
abbrev B_Sieve_pattern : List Str := []
theorem sc_Sieve_pattern : scB N_Sieve_pattern ["self"] L_Sieve_pattern G_Sieve_pattern B_Sieve_pattern (defScope s_Sieve_pattern) = true := by decide +kernel
abbrev N_Sieve_period : List Str := ["self"]
abbrev L_Sieve_period : List Str := ["self"]
abbrev G_Sieve_period : List Str := []
abbrev B_Sieve_period : List Str := ["len"]
theorem sc_Sieve_period : scB N_Sieve_period ["self"] L_Sieve_period G_Sieve_period B_Sieve_period (defScope s_Sieve_period) = true := by decide +kernel
abbrev N_Sieve_is_kept : List Str := ["self", "value"]
abbrev L_Sieve_is_kept : List Str := ["self", "value"]
abbrev G_Sieve_is_kept : List Str := ["is_integer"]
abbrev B_Sieve_is_kept : List Str := ["len"]
theorem sc_Sieve_is_kept : scB N_Sieve_is_kept ["self", "value"] L_Sieve_is_kept G_Sieve_is_kept B_Sieve_is_kept (defScope s_Sieve_is_kept) = true := by decide +kernel
abbrev N_Sieve___eq__ : List Str := ["self", "other"]
abbrev L_Sieve___eq__ : List Str := ["self", "other"]
abbrev G_Sieve___eq__ : List Str := ["Sieve"]
abbrev B_Sieve___eq__ : List Str := ["isinstance"]
theorem sc_Sieve___eq__ : scB N_Sieve___eq__ ["self", "other"] L_Sieve___eq__ G_Sieve___eq__ B_Sieve___eq__ (defScope s_Sieve___eq__) = true := by decide +kernel
abbrev N_common_divisor : List Str := ["first", "second"]
abbrev L_common_divisor : List Str := ["first", "second"]
abbrev G_common_divisor : List Str := []
abbrev B_common_divisor : List Str := []
theorem sc_common_divisor : scB N_common_divisor ["first", "second"] L_common_divisor G_common_divisor B_common_divisor (defScope s_common_divisor) = true := by decide +kernel
abbrev N_common_multiple : List Str := ["first", "second"]
abbrev L_common_multiple : List Str := ["first", "second"]
abbrev G_common_multiple : List Str := ["common_divisor"]
abbrev B_common_multiple : List Str := []
theorem sc_common_multiple : scB N_common_multiple ["first", "second"] L_common_multiple G_common_multiple B_common_multiple (defScope s_common_multiple) = true := by decide +kernel
abbrev N_check_limit : List Str := ["period"]
abbrev L_check_limit : List Str := ["period"]
abbrev G_check_limit : List Str := ["Sieve", "LimitExceeded"]
abbrev B_check_limit : List Str := []
theorem sc_check_limit : scB N_check_limit ["period"] L_check_limit G_check_limit B_check_limit (defScope s_check_limit) = true := by decide +kernel
abbrev N_common_period : List Str := ["first", "second", "period"]
abbrev L_common_period : List Str := ["first", "second", "period"]
abbrev G_common_period : List Str := ["common_multiple", "check_limit"]
abbrev B_common_period : List Str := []
theorem sc_common_period : scB N_common_period ["first", "second"] L_common_period G_common_period B_common_period (defScope s_common_period) = true := by decide +kernel
abbrev N_sieve_from : List Str := ["kept", "period"]
abbrev L_sieve_from : List Str := ["kept", "period"]
abbrev G_sieve_from : List Str := ["Sieve", "pattern_of"]
abbrev B_sieve_from : List Str := ["len"]
theorem sc_sieve_from : scB N_sieve_from ["kept", "period"] L_sieve_from G_sieve_from B_sieve_from (defScope s_sieve_from) = true := by decide +kernel
abbrev N_union : List Str := ["first", "second", "period", "number"]
abbrev L_union : List Str := ["first", "second", "period"]
abbrev G_union : List Str := ["common_period", "sieve_from"]
abbrev B_union : List Str := ["range"]
theorem sc_union : scB N_union ["first", "second"] L_union G_union B_union (defScope s_union) = true := by decide +kernel
abbrev bL_union_0 : List Str := ["number", "first", "second"]
abbrev bS_union_0 : List Str := ["number"]
abbrev bG_union_0 : List Str := []
abbrev bB_union_0 : List Str := []
abbrev bO_union_0 : List (Str × Nat) := [("number", 3)]
abbrev N_intersection : List Str := ["first", "second", "period", "number"]
abbrev L_intersection : List Str := ["first", "second", "period"]
abbrev G_intersection : List Str := ["common_period", "sieve_from"]
abbrev B_intersection : List Str := ["range"]
theorem sc_intersection : scB N_intersection ["first", "second"] L_intersection G_intersection B_intersection (defScope s_intersection) = true := by decide +kernel
abbrev bL_intersection_0 : List Str := ["number", "first", "second"]
abbrev bS_intersection_0 : List Str := ["number"]
abbrev bG_intersection_0 : List Str := []
abbrev bB_intersection_0 : List Str := []
abbrev bO_intersection_0 : List (Str × Nat) := [("number", 3)]
abbrev N_difference : List Str := ["first", "second", "period", "number"]
abbrev L_difference : List Str := ["first", "second", "period"]
abbrev G_difference : List Str := ["common_period", "sieve_from"]
abbrev B_difference : List Str := ["range"]
theorem sc_difference : scB N_difference ["first", "second"] L_difference G_difference B_difference (defScope s_difference) = true := by decide +kernel
abbrev bL_difference_0 : List Str := ["number", "first", "second"]
abbrev bS_difference_0 : List Str := ["number"]
abbrev bG_difference_0 : List Str := []
abbrev bB_difference_0 : List Str := []
abbrev bO_difference_0 : List (Str × Nat) := [("number", 3)]
abbrev N_complement : List Str := ["sieve", "number"]
abbrev L_complement : List Str := ["sieve"]
abbrev G_complement : List Str := ["sieve_from"]
abbrev B_complement : List Str := ["range"]
theorem sc_complement : scB N_complement ["sieve"] L_complement G_complement B_complement (defScope s_complement) = true := by decide +kernel
abbrev bL_complement_0 : List Str := ["number", "sieve"]
abbrev bS_complement_0 : List Str := ["number"]
abbrev bG_complement_0 : List Str := []
abbrev bB_complement_0 : List Str := []
abbrev bO_complement_0 : List (Str × Nat) := [("number", 1)]
abbrev N__law_pool : List Str := ["_law_script", "_law_k", "_law_cell", "_law_mixed"]
abbrev L__law_pool : List Str := ["_law_script", "_law_k", "_law_cell", "_law_mixed"]
abbrev G__law_pool : List Str := []
abbrev B__law_pool : List Str := ["len", "abs", "int"]
theorem sc__law_pool : scB N__law_pool ["_law_script", "_law_k"] L__law_pool G__law_pool B__law_pool (defScope s__law_pool) = true := by decide +kernel
abbrev N__law_take : List Str := ["_law_pool_here", "_law_many", "_law_found"]
abbrev L__law_take : List Str := ["_law_pool_here", "_law_many", "_law_found"]
abbrev G__law_take : List Str := []
abbrev B__law_take : List Str := []
theorem sc__law_take : scB N__law_take ["_law_pool_here", "_law_many"] L__law_take G__law_take B__law_take (defScope s__law_take) = true := by decide +kernel
abbrev N__law_pattern : List Str := ["_law_pool_here", "_law_most", "_law_signs", "_law_text", "_law_at", "_law_length", "_law_way", "_law_turn", "_law_sign"]
abbrev L__law_pattern : List Str := ["_law_pool_here", "_law_most", "_law_signs", "_law_text", "_law_at", "_law_length", "_law_way"]
abbrev G__law_pattern : List Str := ["_law_take"]
abbrev B__law_pattern : List Str := ["len", "range"]
theorem sc__law_pattern : scB N__law_pattern ["_law_pool_here", "_law_most"] L__law_pattern G__law_pattern B__law_pattern (defScope s__law_pattern) = true := by decide +kernel
abbrev bL__law_pattern_0 : List Str := ["_law_pool_here", "_law_way", "_law_turn"]
abbrev bS__law_pattern_0 : List Str := ["_law_turn"]
abbrev bG__law_pattern_0 : List Str := ["_law_take"]
abbrev bB__law_pattern_0 : List Str := []
abbrev bO__law_pattern_0 : List (Str × Nat) := [("_law_turn", 7)]
abbrev bL__law_pattern_1 : List Str := ["_law_sign"]
abbrev bS__law_pattern_1 : List Str := ["_law_sign"]
abbrev bG__law_pattern_1 : List Str := []
abbrev bB__law_pattern_1 : List Str := []
abbrev bO__law_pattern_1 : List (Str × Nat) := [("_law_sign", 8)]
abbrev N__law_same : List Str := ["_law_found", "_law_signs"]
abbrev L__law_same : List Str := ["_law_found", "_law_signs"]
abbrev G__law_same : List Str := ["Sieve"]
abbrev B__law_same : List Str := []
theorem sc__law_same : scB N__law_same ["_law_found", "_law_signs"] L__law_same G__law_same B__law_same (defScope s__law_same) = true := by decide +kernel
abbrev N__law_right : List Str := ["_law_one", "_law_two", "_law_pairs", "_law_first", "_law_second", "_law_number", "_law_pair", "_law_sign"]
abbrev L__law_right : List Str := ["_law_one", "_law_two", "_law_pairs", "_law_first", "_law_second"]
abbrev G__law_right : List Str := ["_law_same", "Sieve", "complement", "union", "intersection", "difference"]
abbrev B__law_right : List Str := ["range", "len"]
theorem sc__law_right : scB N__law_right ["_law_one", "_law_two"] L__law_right G__law_right B__law_right (defScope s__law_right) = true := by decide +kernel
abbrev bL__law_right_0 : List Str := ["_law_one", "_law_two", "_law_number"]
abbrev bS__law_right_0 : List Str := ["_law_number"]
abbrev bG__law_right_0 : List Str := []
abbrev bB__law_right_0 : List Str := ["len"]
abbrev bO__law_right_0 : List (Str × Nat) := [("_law_number", 5)]
abbrev bL__law_right_1 : List Str := ["_law_pair"]
abbrev bS__law_right_1 : List Str := ["_law_pair"]
abbrev bG__law_right_1 : List Str := []
abbrev bB__law_right_1 : List Str := []
abbrev bO__law_right_1 : List (Str × Nat) := [("_law_pair", 6)]
abbrev bL__law_right_2 : List Str := ["_law_pair"]
abbrev bS__law_right_2 : List Str := ["_law_pair"]
abbrev bG__law_right_2 : List Str := []
abbrev bB__law_right_2 : List Str := []
abbrev bO__law_right_2 : List (Str × Nat) := [("_law_pair", 6)]
abbrev bL__law_right_3 : List Str := ["_law_pair"]
abbrev bS__law_right_3 : List Str := ["_law_pair"]
abbrev bG__law_right_3 : List Str := []
abbrev bB__law_right_3 : List Str := []
abbrev bO__law_right_3 : List (Str × Nat) := [("_law_pair", 6)]
abbrev bL__law_right_4 : List Str := ["_law_sign"]
abbrev bS__law_right_4 : List Str := ["_law_sign"]
abbrev bG__law_right_4 : List Str := []
abbrev bB__law_right_4 : List Str := []
abbrev bO__law_right_4 : List (Str × Nat) := [("_law_sign", 7)]
abbrev N_law : List Str := ["_law_script", "_law_k", "_law_pool_here", "_law_turned", "_law_others", "_law_other", "_law_late", "_law_half", "_law_one", "_law_two", "_law_sign"]
abbrev L_law : List Str := ["_law_script", "_law_k", "_law_pool_here", "_law_turned", "_law_others", "_law_other", "_law_late", "_law_half", "_law_one", "_law_two"]
abbrev G_law : List Str := ["_law_pool", "Sieve", "difference", "_law_pattern", "union", "intersection", "_law_right"]
abbrev B_law : List Str := ["range", "max", "min", "len", "int"]
theorem sc_law : scB N_law ["_law_script"] L_law G_law B_law (defScope s_law) = true := by decide +kernel
abbrev bL_law_0 : List Str := ["_law_sign"]
abbrev bS_law_0 : List Str := ["_law_sign"]
abbrev bG_law_0 : List Str := []
abbrev bB_law_0 : List Str := []
abbrev bO_law_0 : List (Str × Nat) := [("_law_sign", 10)]
abbrev BB : List Str := ["isinstance", "int", "bool", "str", "list", "tuple", "set", "len", "range", "enumerate", "zip", "all", "any", "sum", "min", "max", "abs", "divmod", "sorted", "type", "ValueError", "OverflowError", "RuntimeError", "super", "next", "ord", "chr", "repr", "dict"]
def fnL : List DefY := [
  ⟨fun K => He.ga K "is_integer", "is_integer", "is_integer", defArgs s_is_integer, defBody s_is_integer, defScope s_is_integer, [.int 0]⟩,
  ⟨fun K => He.ga K "check_number", "check_number", "check_number", defArgs s_check_number, defBody s_check_number, defScope s_check_number, []⟩,
  ⟨fun K => He.ga K "least_pattern", "least_pattern", "least_pattern", defArgs s_least_pattern, defBody s_least_pattern, defScope s_least_pattern, []⟩,
  ⟨fun K => He.ga K "pattern_of", "pattern_of", "pattern_of", defArgs s_pattern_of, defBody s_pattern_of, defScope s_pattern_of, []⟩,
  ⟨fun K => He.ma K (He.ga K "Sieve") "__init__", "__init__", "Sieve.__init__", defArgs s_Sieve___init__, defBody s_Sieve___init__, defScope s_Sieve___init__, []⟩,
  ⟨rcA "staticmethod" "Sieve" "is_pattern", "is_pattern", "Sieve.is_pattern", defArgs s_Sieve_is_pattern, defBody s_Sieve_is_pattern, defScope s_Sieve_is_pattern, []⟩,
  ⟨rcA "classmethod" "Sieve" "of", "of", "Sieve.of", defArgs s_Sieve_of, defBody s_Sieve_of, defScope s_Sieve_of, []⟩,
  ⟨rcA "property" "Sieve" "pattern", "pattern", "Sieve.pattern", defArgs s_Sieve_pattern, defBody s_Sieve_pattern, defScope s_Sieve_pattern, []⟩,
  ⟨rcA "property" "Sieve" "period", "period", "Sieve.period", defArgs s_Sieve_period, defBody s_Sieve_period, defScope s_Sieve_period, []⟩,
  ⟨fun K => He.ma K (He.ga K "Sieve") "is_kept", "is_kept", "Sieve.is_kept", defArgs s_Sieve_is_kept, defBody s_Sieve_is_kept, defScope s_Sieve_is_kept, []⟩,
  ⟨fun K => He.ma K (He.ga K "Sieve") "__eq__", "__eq__", "Sieve.__eq__", defArgs s_Sieve___eq__, defBody s_Sieve___eq__, defScope s_Sieve___eq__, []⟩,
  ⟨fun K => He.ga K "common_divisor", "common_divisor", "common_divisor", defArgs s_common_divisor, defBody s_common_divisor, defScope s_common_divisor, []⟩,
  ⟨fun K => He.ga K "common_multiple", "common_multiple", "common_multiple", defArgs s_common_multiple, defBody s_common_multiple, defScope s_common_multiple, []⟩,
  ⟨fun K => He.ga K "check_limit", "check_limit", "check_limit", defArgs s_check_limit, defBody s_check_limit, defScope s_check_limit, []⟩,
  ⟨fun K => He.ga K "common_period", "common_period", "common_period", defArgs s_common_period, defBody s_common_period, defScope s_common_period, []⟩,
  ⟨fun K => He.ga K "sieve_from", "sieve_from", "sieve_from", defArgs s_sieve_from, defBody s_sieve_from, defScope s_sieve_from, []⟩,
  ⟨fun K => He.ga K "union", "union", "union", defArgs s_union, defBody s_union, defScope s_union, []⟩,
  ⟨fun K => He.ga K "intersection", "intersection", "intersection", defArgs s_intersection, defBody s_intersection, defScope s_intersection, []⟩,
  ⟨fun K => He.ga K "difference", "difference", "difference", defArgs s_difference, defBody s_difference, defScope s_difference, []⟩,
  ⟨fun K => He.ga K "complement", "complement", "complement", defArgs s_complement, defBody s_complement, defScope s_complement, []⟩,
  ⟨fun K => He.ga K "_law_pool", "_law_pool", "_law_pool", defArgs s__law_pool, defBody s__law_pool, defScope s__law_pool, []⟩,
  ⟨fun K => He.ga K "_law_take", "_law_take", "_law_take", defArgs s__law_take, defBody s__law_take, defScope s__law_take, []⟩,
  ⟨fun K => He.ga K "_law_pattern", "_law_pattern", "_law_pattern", defArgs s__law_pattern, defBody s__law_pattern, defScope s__law_pattern, []⟩,
  ⟨fun K => He.ga K "_law_same", "_law_same", "_law_same", defArgs s__law_same, defBody s__law_same, defScope s__law_same, []⟩,
  ⟨fun K => He.ga K "_law_right", "_law_right", "_law_right", defArgs s__law_right, defBody s__law_right, defScope s__law_right, []⟩,
  ⟨fun K => He.ga K "law", "law", "law", defArgs s_law, defBody s_law, defScope s_law, []⟩]
def fs1 : List (PySem.W.Frag → Bool) := [
  fun K => (He.Fa.glo "SieveError").ok K,
  fun K => (He.Fa.glo "is_integer").ok K,
  fun K => (He.Fa.glo "InvalidNumber").ok K,
  fun K => (He.Fa.glo "least_pattern").ok K,
  fun K => (He.Fa.glo "InvalidPattern").ok K,
  fun K => (He.Fa.glo "Sieve").ok K,
  fun K => (He.Fa.glo "check_number").ok K,
  fun K => (He.Fa.glo "NothingKept").ok K,
  fun K => (He.Fa.glo "pattern_of").ok K,
  fun K => (He.Fa.glo "common_divisor").ok K,
  fun K => (He.Fa.glo "LimitExceeded").ok K,
  fun K => (He.Fa.glo "common_multiple").ok K,
  fun K => (He.Fa.glo "check_limit").ok K,
  fun K => (He.Fa.glo "common_period").ok K,
  fun K => (He.Fa.glo "sieve_from").ok K,
  fun K => (He.Fa.glo "_law_take").ok K,
  fun K => (He.Fa.glo "_law_same").ok K,
  fun K => (He.Fa.glo "complement").ok K,
  fun K => (He.Fa.glo "union").ok K,
  fun K => (He.Fa.glo "intersection").ok K,
  fun K => (He.Fa.glo "difference").ok K,
  fun K => (He.Fa.glo "_law_pool").ok K,
  fun K => (He.Fa.glo "_law_pattern").ok K,
  fun K => (He.Fa.glo "_law_right").ok K,
  fun K => (He.Fa.glo "law").ok K,
  fun K => (He.Fa.cls "Sieve").ok K,
  fun K => (He.Fa.mkr "Sieve").ok K,
  creadB "Sieve",
  tyB "Sieve",
  fun K => (He.Fa.noat "Sieve" "text").ok K,
  fun K => (He.Fa.noat "Sieve" "marks").ok K,
  getB "Sieve" "is_pattern" "staticmethod" "staticmethod.__get__",
  keepB (rcA "staticmethod" "Sieve" "is_pattern"),
  getB "Sieve" "of" "classmethod" "classmethod.__get__",
  keepB (rcA "classmethod" "Sieve" "of"),
  fnInB (rcA "classmethod" "Sieve" "of"),
  propB "Sieve" "pattern",
  propB "Sieve" "period",
  fun K => (He.Fa.meth "Sieve" "is_kept").ok K,
  eqcB "Sieve",
  cvalB "Sieve" "LONGEST" (.int 10000),
  fun K => (He.Fa.keep "InvalidPattern").ok K,
  fun K => (He.Fa.keep "NothingKept").ok K,
  fun K => (He.Fa.keep "InvalidNumber").ok K,
  fun K => (He.Fa.keep "LimitExceeded").ok K,
  fun K => (He.Fa.keep "SieveError").ok K,
  kitC (fun K => .ref (He.ga K "Sieve")) "Sieve" true,
  kitC (fun _ => .type "int") "Sieve" false,
  kitC (fun _ => .type "bool") "Sieve" false,
  kitC (fun _ => .type "str") "Sieve" false,
  kitC (fun _ => .type "NoneType") "Sieve" false,
  kitC (fun _ => .type "list") "Sieve" false,
  kitC (fun _ => .type "tuple") "Sieve" false]
def fsL : List (PySem.W.Frag → Bool) := fs1 ++ BB.map fun x K => (He.Fa.free x).ok K
abbrev RwL : PySem.W.OpenRow := PySem.W.OpenLaw.row PySem.Challenge.rw_sieverows_k15_sets_of_numbers
abbrev hkL : PySem.W.Hook := hookY 6 fsL fnL
def obL (s : PySem.W.SharedT) : He.AlD := obsYG 6 fsL fnL (HandSHeadRun.getT s)
theorem obL_eq (s : PySem.W.SharedT) : obL s = hkL.obs s.abs := obsYG_eq (HandSHeadRun.getT_eq s)
local macro_rules
  | `(tactic| walk_at "mb") => `(tactic| with_reducible (repeat' first | exact Mb.here | apply Mb.there))
local macro_rules
  | `(tactic| walk_at "at") => `(tactic| with_reducible (repeat' first | exact At.here | apply At.there))
local macro_rules
  | `(tactic| walk_at "put") => `(tactic| with_reducible (repeat' first | exact Put.here | apply Put.there))
local macro_rules
  | `(tactic| walk_at "hm") => `(tactic| first | rfl | exact nomark _ | with_unfolding_all rfl)
local macro_rules
  | `(tactic| walk_at "built") => `(tactic| first
    | refine x_len (by assumption) (by walk_at "mb") ?_
    | refine x_isi (by assumption) (by walk_at "mb") (by walk_at "mb") bt_int ?_
    | refine x_isi (by assumption) (by walk_at "mb") (by walk_at "mb") bt_bool ?_
    | refine x_isi (by assumption) (by walk_at "mb") (by walk_at "mb") bt_str ?_
    | refine x_all (by assumption) (by walk_at "mb") ?_
    | refine x_sum (by assumption) (by walk_at "mb") ?_
    | refine x_set (by assumption) (by walk_at "mb") ?_
    | refine x_max (by assumption) (by walk_at "mb") ?_
    | refine x_min (by assumption) (by walk_at "mb") ?_
    | refine x_dm (by assumption) (by walk_at "mb") ?_
    | refine x_abs (by assumption) (by walk_at "mb") ?_
    | refine x_int (by assumption) (by walk_at "mb") ?_
    | refine x_list (by assumption) (by walk_at "mb") ?_)
local macro_rules
  | `(tactic| walk_at "we") => `(tactic| first
    | (refine gNm ?_; refine w_name (by assumption) (by walk_at "at") (by walk_at "mb") ?_)
    | (refine gCn ?_; first | refine w_int ?_ | refine w_str ?_ | refine w_bl ?_ | refine w_non ?_)
    | (refine gCall ?_; walk_at "built")
    | refine w_bin ?_ | refine w_cmp ?_ (by walk_at "hm") | refine w_attr ?_ | refine w_ix ?_ | refine w_slice ?_ | refine w_and ?_ | refine w_or ?_ | refine w_one ?_ | refine w_not ?_ | refine w_un ?_ | refine w_if ?_
    | refine w_lst ?_ | refine w_tup ?_)
local macro_rules
  | `(tactic| walk_at "ws") => `(tactic| first
    | refine ws_set (by assumption) (by walk_at "mb") ?_ | refine ws_ret ?_ | refine ws_if ?_ | refine ws_expr ?_ | refine ws_retN ?_ | refine ws_pass ?_ | refine ws_break ?_ | refine ws_continue ?_)
local macro_rules
  | `(tactic| walk_at "wt") => `(tactic| first
    | refine wt_cmp ?_ (by walk_at "hm") | refine wt_of_ww (ww_and ?_) | refine wt_of_ww (ww_or ?_) | refine wt_not ?_ | refine wt_chain ?_ | refine wt_val ?_)
local macro_rules
  | `(tactic| walk_at "ww") => `(tactic| first | refine ww_and ?_ | refine ww_or ?_ | refine ww_and1 ?_ | refine ww_or1 ?_)
local macro_rules
  | `(tactic| walk_at "wb") => `(tactic| first
    | (refine gBo ?_; first | refine b_add ?_ | refine b_sub ?_)
    | (refine gCo ?_; first | refine b_lt ?_ | refine b_le ?_ | refine b_gt ?_ | refine b_ge ?_ | refine b_eqI ?_ | refine b_neI ?_ | refine b_eqS ?_ | refine b_neS ?_ | refine b_eqB ?_ | refine b_neB ?_ | refine b_isN ?_ | refine b_notN ?_ | refine b_isB ?_ | refine b_notB ?_))
local macro_rules
  | `(tactic| walk_at "v1") => `(tactic| with_reducible first
    | (refine gWE ?_; walk_at "we")
    | (refine gWB ?_; walk_at "wb")
    | (refine gWL ?_; refine wl_nil ?_)
    | (refine gWS ?_; walk_at "ws")
    | (refine gWT ?_; walk_at "wt")
    | (refine gWA ?_; first | refine wa_cons ?_ | refine wa_nil ?_)
    | (refine gWW ?_; walk_at "ww")
    | (refine gWU ?_; refine u_neg ?_)
    | (refine gWG ?_; refine wg_name (by assumption) (by walk_at "put") (by walk_at "mb") ?_)
    | (refine gWGs ?_; first | refine wgs_cons ?_ | refine wgs_nil ?_)
    | apply ite_t | apply ite_f | apply ite_nt | apply ite_nf | apply ite_nn | apply ite_rn | apply ite_nnn | apply ite_nrn
    | (apply gEx; first
        | (refine ⟨_, (by walk_at "put"), ?_⟩)
        | refine ⟨_, _, tInt, kit_self, ?_⟩ | refine ⟨_, _, tInt, kit_int_bool, ?_⟩ | refine ⟨_, _, tBl, kit_bool_int, ?_⟩ | refine ⟨_, _, tBl, kit_self, ?_⟩ | refine ⟨_, _, tStr, kit_self, ?_⟩ | refine ⟨_, _, tStr, kit_str_int, ?_⟩ | refine ⟨_, _, tInt, kit_int_str, ?_⟩
        | refine ⟨_, tru_bl, ?_⟩
        | refine ⟨_, rfl, ?_⟩)
    | apply wp_none | apply wp_some)
local macro_rules
  | `(tactic| walk_at "s") => `(tactic| first | walk_at "v1" | with_reducible refine wl_cons ?_)
local macro_rules
  | `(tactic| walk_at "w") => `(tactic| repeat walk_at "s")
local macro_rules
  | `(tactic| walk_at "v") => `(tactic| repeat walk_at "v1")
local macro_rules
  | `(tactic| walk_at "go") => `(tactic| refine wl_cons ?_)

section
variable {P : Program} {w : World} {K : PySem.W.Frag} {mg : Str → Option Value} {base : Heap} {f : Addr} {fd : FuncData}
def NotInt (K : PySem.W.Frag) (H : Hp) (v : V) : Prop := (∃ b, v = .bl b) ∨ ∃ t, TyX K H v t ∧ PySem.W.kitOne K t (.type "int") = some false
def spInt2 (K : PySem.W.Frag) : Sp := fun vs H Q _ => ∃ v m, vs = [v, .int m] ∧ ((∃ i, v = .int i ∧ Q (.bl (decide (m ≤ i))) H) ∨ (NotInt K H v ∧ Q (.bl false) H))
def spIsInt (K : PySem.W.Frag) : Sp := fun vs H Q _ => ∃ v m, (vs = [v, .int m] ∨ (vs = [v] ∧ m = 0)) ∧ ((∃ i, v = .int i ∧ Q (.bl (decide (m ≤ i))) H) ∨ (NotInt K H v ∧ Q (.bl false) H))
theorem ok_is_integer {P : Program} {w : World} {K : PySem.W.Frag} {mg : Str → Option Value} {base : Heap} {f : Addr} {fd : FuncData} (F : FunD K "is_integer" "is_integer" (defArgs s_is_integer) (defBody s_is_integer) (defScope s_is_integer) [.int 0] [] f fd) (hb : ∀ x ∈ BB, mg x = none) : FnR P w K mg base (L2.CX P w) 2 f (spIsInt K) := by
  have G : FnOk P w K mg base (L2.CX P w) 2 f fd ["value", "minimum"] (spInt2 K) := by
    refine fnr_ofD F sc_is_integer (fun vs H Q E h => ?_) (fun x hx => hb x (by revert x; decide +kernel)) fun cd A outer s H vs Q E hr hc h => ?_
    · obtain ⟨v, m, rfl, _⟩ := h; rfl
    · obtain ⟨v, m, rfl, h⟩ := h
      refine wl_start (σ' := [some v, some (.int m)]) rfl (wl_cons ?_)
      rcases h with ⟨i, rfl, q⟩ | ⟨⟨b, rfl⟩ | ⟨t, ht, hk⟩, q⟩
      · walk_at "w"
        exact q
      · walk_at "w"
        exact q
      · walk_at "w"
        refine ⟨_, _, ht, hk, ?_⟩
        walk_at "w"
        exact q
  obtain ⟨ds, rd, hB⟩ := F.binds1 (ps := ["value", "minimum"]) 1 0 (by simp) rfl fun T kV doc pm an cdv ct us its h1 h2 => match us, its, h1, h2 with
    | [u], [d], _, _ => ⟨_, rfl, rfl⟩
  obtain ⟨ds', rd', hB'⟩ := F.binds1 (ps := ["value", "minimum"]) 2 1 (by simp) rfl fun T kV doc pm an cdv ct us its h1 h2 => match us, its, h1, h2 with
    | [u, u2], [d], _, _ => ⟨_, rfl, rfl⟩
  refine (fnr_or (G.raw hB rd) (G.raw hB' rd')).imp fun vs H Q E h => ?_
  obtain ⟨v, m, rfl | ⟨rfl, rfl⟩, h⟩ := h
  · exact .inr ⟨v, m, rfl, h⟩
  · exact .inl ⟨v, 0, rfl, h⟩
abbrev cS (K : PySem.W.Frag) : Addr := He.ga K "Sieve"
structure SvC (K : PySem.W.Frag) (mg : Str → Option Value) : Prop where
  cls : Cls K (cS K)
  nt : NoAttr K (cS K) "text"
  nm : NoAttr K (cS K) "marks"
  g : mg "Sieve" = some (.ref (cS K))
  rd : ClX.CRead K (cS K) (.type "type")
  lim : ∃ u, ClX.CVal K (cS K) (.type "type") "LONGEST" (.int 10000) u
  eqT : ∀ {H : Hp} {a dx : Addr} {fs : List (Str × V)}, H a = some (.ins (cS K) dx fs) → TyX K H (.ref a) (.ref (cS K))
def SieveAt (K : PySem.W.Frag) (H : Hp) (a : Addr) (l : List Bool) : Prop :=
  Good l ∧ ∃ dx p, H a = some (.ins (cS K) dx [("text", .str (sOf l)), ("marks", .ref p)]) ∧ H p = some (.lst ((marks l).map fun i => V.int (i : Nat)))
theorem SieveAt.same {H H' : Hp} {a : Addr} {l : List Bool} (h : SieveAt K H a l) (e : Same H H') : SieveAt K H' a l := by
  obtain ⟨g, dx, p, h1, h2⟩ := h
  exact ⟨g, dx, p, e _ _ h1, e _ _ h2⟩
def spCheckN : Sp := fun vs H Q _ => ∃ i : Int, vs = [.int i] ∧ 0 ≤ i ∧ Q .non H
theorem ok_check_number (F : FunD K "check_number" "check_number" (defArgs s_check_number) (defBody s_check_number) (defScope s_check_number) [] [] f fd) (hb : ∀ x ∈ BB, mg x = none) (h1 : Fn P w K mg base "is_integer" 2 (spIsInt K)) : FnR P w K mg base (L2.CX P w) 3 f spCheckN := by
  refine fnr_of F sc_check_number (fun vs H Q E h => ?_) (fun kV doc pm an cdv ct us hl => match us, hl with | [_], _ => rfl) (fun x hx => hb x (by revert x; decide +kernel)) fun cd A outer s H vs Q E hr hc h => ?_
  · obtain ⟨i, rfl, _⟩ := h; rfl
  · obtain ⟨i, rfl, hi, q⟩ := h
    refine wl_start (σ' := [some (.int i)]) rfl (wl_cons ?_)
    walk_at "w"
    refine w_call hc (by walk_at "mb") h1 hr (by decide) passL ?_
    walk_at "w"
    refine ⟨_, _, .inr ⟨rfl, rfl⟩, .inl ⟨_, rfl, ?_⟩⟩
    rw [decide_eq_true hi]
    walk_at "w"
    exact q
def spLeast : Sp := fun vs H Q _ => ∃ l, vs = [.str (sOf l)] ∧ Pat l ∧ ∀ m, Good m → (∀ n, kp m n = kp l n) → m.length ∣ l.length → Q (.str (sOf m)) H
theorem ok_least_pattern (F : FunD K "least_pattern" "least_pattern" (defArgs s_least_pattern) (defBody s_least_pattern) (defScope s_least_pattern) [] [] f fd) (hb : ∀ x ∈ BB, mg x = none) : FnR P w K mg base (L2.CX P w) 3 f spLeast := by
  refine fnr_of F sc_least_pattern (fun vs H Q E h => ?_) (fun kV doc pm an cdv ct us hl => match us, hl with | [_], _ => rfl) (fun x hx => hb x (by revert x; decide +kernel)) fun cd A outer s H vs Q E hr hc h => ?_
  · obtain ⟨i, rfl, _⟩ := h; rfl
  · obtain ⟨l, rfl, p, q⟩ := h
    have hz : sizeLine = 16777216 := sizeLine_eq
    have hp1 := p.one
    have hp2 := p.most
    refine wl_start (σ' := [some (.str (sOf l)), none, none]) rfl (wl_cons ?_)
    walk_at "w"
    refine ⟨l.length, ⟨by rw [sOf_len]; omega, by rw [sOf_len]⟩, ?_⟩
    walk_at "w"
    refine ws_for owns_cx hc ?_
    refine wi_range2 hc (by walk_at "mb") ?_
    walk_at "w"
    refine ⟨_, _, rfl, rfl, ⟨by omega, by omega, by omega, by omega⟩, ?_⟩
    refine ⟨_, _, wlk_range, fun i σ' H' => H' = H ∧ (∃ o, σ' = [some (.str (sOf l)), some (.int (l.length : Nat)), o]) ∧ ∀ e, 0 < e → e ≤ i → ¬ Cuts l e, ⟨rfl, ⟨_, rfl⟩, fun e h1 h2 => by omega⟩, fun i σ' H' ⟨h, _⟩ => by rw [h]; exact Same.refl _, fun i σ' H' hi ⟨hH, ⟨o, hσ⟩, hn⟩ => ?_, fun σ' H' ⟨hH, ⟨o, hσ⟩, hn⟩ => ?_⟩
    · subst hH hσ
      refine wg_name hc (by walk_at "put") (by walk_at "mb") ?_
      have ek : (1 : Int) + (i : Nat) = ((i + 1 : Nat) : Int) := by omega
      have hi' : i + 1 ≤ l.length := by omega
      rw [ek]
      walk_at "go"
      walk_at "w"
      refine b_mod (by omega) ?_
      walk_at "w"
      refine if_dec (fun h1 => ?_) (fun h1 => ?_)
      · have hm : l.length % (i + 1) = 0 := by omega
        walk_at "w"
        refine sl_s (by rw [sOf_len]; omega) ?_
        rw [cut_to l rfl hi']
        walk_at "w"
        refine b_fdiv (by omega) (by omega) ?_
        rw [← Int.natCast_ediv]
        have hd : l.length / (i + 1) * (i + 1) = l.length := Nat.div_mul_cancel (Nat.dvd_of_mod_eq_zero hm)
        have ht : (l.take (i + 1)).length = i + 1 := by rw [List.length_take]; omega
        refine b_mulS (Int.natCast_nonneg _) (by have := Nat.div_le_self l.length (i + 1); omega) (by rw [sOf_len, ht, Int.toNat_natCast, Nat.mul_comm, hd]; omega) ?_
        rw [Int.toNat_natCast, rep_sOf]
        walk_at "w"
        refine if_dec (fun h2 => ?_) (fun h2 => ?_)
        · have hc2 : Cuts l (i + 1) := ⟨Nat.dvd_of_mod_eq_zero hm, (cuts_iff (by omega) hi' hm).mp (sOf_inj h2)⟩
          walk_at "w"
          refine sl_s (by rw [sOf_len]; omega) ?_
          rw [cut_to l rfl hi']
          have hg := least_good p (by omega) hi' hc2 fun e h1 h2 => hn e h1 (by omega)
          exact q _ hg.1 hg.2.1 hg.2.2
        · walk_at "w"
          refine ⟨rfl, ⟨_, rfl⟩, fun e h3 h4 h5 => ?_⟩
          by_cases he : e = i + 1
          · subst he
            exact h2 (congrArg sOf ((cuts_iff (by omega) hi' hm).mpr h5.2))
          · exact hn e h3 (by omega) h5
      · walk_at "w"
        refine ⟨rfl, ⟨_, rfl⟩, fun e h3 h4 h5 => ?_⟩
        by_cases he : e = i + 1
        · subst he
          have := Nat.mod_eq_zero_of_dvd h5.1
          omega
        · exact hn e h3 (by omega) h5
    · exact absurd ⟨Nat.dvd_refl _, kp_per l⟩ (hn l.length hp1 (by omega))

def spPatOf (K : PySem.W.Frag) : Sp := fun vs H Q _ => ∃ (a : Addr) (ns : List Int) (p : Nat), vs = [.ref a, .int (p : Nat)] ∧ SqL K H a (ns.map V.int) ∧ ns.length < 4090 ∧ p ≤ 10000 ∧ ∀ H', Same H H' → Q (.str (sOf (lof (fun i => ns.any (· == ((i : Nat) : Int))) p))) H'
theorem ok_pattern_of (F : FunD K "pattern_of" "pattern_of" (defArgs s_pattern_of) (defBody s_pattern_of) (defScope s_pattern_of) [] [] f fd) (hb : ∀ x ∈ BB, mg x = none) : FnR P w K mg base (L2.CX P w) 3 f (spPatOf K) := by
  refine fnr_of F sc_pattern_of (fun vs H Q E h => ?_) (fun kV doc pm an cdv ct us hl => match us, hl with | [_, _], _ => rfl) (fun x hx => hb x (by revert x; decide +kernel)) fun cd A outer s H vs Q E hr hc h => ?_
  · obtain ⟨a, ns, p, rfl, _⟩ := h; rfl
  · obtain ⟨a, ns, p, rfl, hs, hn, hp, q⟩ := h
    have hz : sizeLine = 16777216 := sizeLine_eq
    have hsb : scanBound = 4096 := by decide +kernel
    refine wl_start (σ' := [some (.ref a), some (.int (p : Nat)), none, none]) rfl (wl_cons ?_)
    walk_at "w"
    refine ⟨_, ns, rfl, hs, by omega, fun ps H1 n hps e1 hset => ?_⟩
    walk_at "w"
    refine w_join ?_
    walk_at "w"
    refine w_lc hc (own := bO_pattern_of_0) (by kernel_rfl) (fun i acc => acc = (lof (fun i => ns.any (· == ((i : Nat) : Int))) i).map fun b => V.str (sOf [b])) ?_
    refine wi_range1 hc (by walk_at "mb") ?_
    walk_at "w"
    refine ⟨by omega, by omega, _, _, wlk_range, by omega, rfl, fun i acc H' hi hl hP hS => ?_, fun acc D H' hl hP hD hS hDa => ?_⟩
    · intro X1 b1
      have c1 := nm_blk (L' := bL_pattern_of_0) (S' := bS_pattern_of_0) (G' := bG_pattern_of_0) (B' := bB_pattern_of_0) b1 hc (by kernel_rfl) (fun x hx => nomatch hx)
      obtain ⟨_, _, _, _, _, rfl⟩ := b1
      simp only [wipe, List.map_cons, List.map_nil, List.set_cons_succ, List.set_cons_zero]
      refine wg_name c1 (by walk_at "put") (by walk_at "mb") ?_
      refine ⟨rfl, rfl, ?_⟩
      intro X2 b2
      refine wts_nil ?_
      refine ⟨Same.refl _, ite_t ?_⟩
      have c2 := nm_blk (L' := bL_pattern_of_0) (S' := bS_pattern_of_0) (G' := bG_pattern_of_0) (B' := bB_pattern_of_0) b2 hc (by kernel_rfl) (fun x hx => nomatch hx)
      intro X3 b3
      have c3 := nm_blk (L' := bL_pattern_of_0) (S' := bS_pattern_of_0) (G' := bG_pattern_of_0) (B' := bB_pattern_of_0) b3 hc (by kernel_rfl) (fun x hx => nomatch hx)
      obtain ⟨_, _, _, _, _, rfl⟩ := b3
      walk_at "w"
      refine b_inSetI (hS _ _ hset) ?_
      have e0 : (0 : Int) + (i : Nat) = ((i : Nat) : Int) := by omega
      rw [e0]
      have hlast : ∀ b, (ns.any fun x => x == ((i : Nat) : Int)) = b → acc ++ [V.str (sOf [b])] = List.map (fun b => V.str (sOf [b])) (lof (fun i => ns.any fun x => x == ((i : Nat) : Int)) (i + 1)) := fun b e => by
        rw [hP, ← e]
        simp [lof, List.range_succ]
      cases hb2 : (ns.any fun x => x == ((i : Nat) : Int)) with
      | true =>
        walk_at "w"
        exact ⟨Same.refl _, hlast true hb2⟩
      | false =>
        walk_at "w"
        exact ⟨Same.refl _, hlast false hb2⟩
    · have e2 : acc = (((lof (fun i => ns.any fun x => x == ((i : Nat) : Int)) p)).map fun b => sOf [b]).map V.str := by
        rw [hP, Int.toNat_natCast, List.map_map]; rfl
      refine ⟨D, _, rfl, .inl (.inl (.inl (by rw [hDa, e2]))), ?_, ?_⟩
      · have hl1 : ∀ l : List Bool, ((l.map fun b => sOf [b]).map fun x => x.length).sum = l.length := fun l => by
          induction l with
          | nil => rfl
          | cons b r ih => simp only [List.map_cons, List.sum_cons, ih, sOf_len, List.length_cons, List.length_nil]; omega
        rw [hl1, lof_len, List.length_map, lof_len]
        have : ("" : Str).length = 0 := by decide +kernel
        rw [this]
        omega
      · rw [join_sOf]
        exact q _ (e1.trans hS)

def spIsPat : Sp := fun vs H Q _ => ∃ l, vs = [.str (sOf l)] ∧ Pat l ∧ ∀ H', Same H H' → Q (.bl true) H'
theorem ok_Sieve_is_pattern (F : FunD K "is_pattern" "Sieve.is_pattern" (defArgs s_Sieve_is_pattern) (defBody s_Sieve_is_pattern) (defScope s_Sieve_is_pattern) [] [] f fd) (hb : ∀ x ∈ BB, mg x = none) (SC : SvC K mg) : FnR P w K mg base (L2.CX P w) 3 f spIsPat := by
  refine fnr_of F sc_Sieve_is_pattern (fun vs H Q E h => ?_) (fun kV doc pm an cdv ct us hl => match us, hl with | [_], _ => rfl) (fun x hx => hb x (by revert x; decide +kernel)) fun cd A outer s H vs Q E hr hc h => ?_
  · obtain ⟨l, rfl, _⟩ := h; rfl
  · obtain ⟨l, rfl, p, q⟩ := h
    have hz : sizeLine = 16777216 := sizeLine_eq
    have p1 := p.one
    have p2 := p.most
    obtain ⟨u, hu⟩ := SC.lim
    refine wl_start (σ' := [some (.str (sOf l)), none]) rfl (wl_cons ?_)
    walk_at "w"
    refine ⟨l.length, ⟨by rw [sOf_len]; omega, by rw [sOf_len]⟩, ?_⟩
    walk_at "w"
    rw [decide_eq_true (show (1 : Int) ≤ (l.length : Nat) by omega)]
    walk_at "w"
    refine w_gref hc (by walk_at "mb") SC.g ?_
    refine a_cval SC.rd hu ?_
    walk_at "w"
    rw [decide_eq_true (show ((l.length : Nat) : Int) ≤ 10000 by omega)]
    walk_at "w"
    refine b_inPlus ?_
    rw [decide_eq_true p.plus]
    walk_at "w"
    refine w_lc hc (own := bO_Sieve_is_pattern_0) (by kernel_rfl) (fun i acc => acc = (List.replicate i true).map V.bl) ?_
    refine wi_str ?_
    walk_at "w"
    refine ⟨_, _, wlk_str, ?_, rfl, fun i acc H' hi hl hP hS => ?_, fun acc D H' hl hP hD hS hDa => ?_⟩
    · have := sOf_len l
      show (sOf l).length < sizeLine
      omega
    · have hi' : i < l.length := by
        have := sOf_len l
        show i < l.length
        rw [← this]; exact hi
      intro X1 b1
      have c1 := nm_blk (L' := bL_Sieve_is_pattern_0) (S' := bS_Sieve_is_pattern_0) (G' := bG_Sieve_is_pattern_0) (B' := bB_Sieve_is_pattern_0) b1 hc (by kernel_rfl) (fun x hx => nomatch hx)
      simp only [wipe, List.map_cons, List.map_nil, List.set_cons_succ, List.set_cons_zero]
      refine wg_name c1 (by walk_at "put") (by walk_at "mb") ?_
      refine ⟨rfl, rfl, ?_⟩
      intro X2 b2
      refine wts_nil ?_
      refine ⟨Same.refl _, ite_t ?_⟩
      intro X3 b3
      have c3 := nm_blk (L' := bL_Sieve_is_pattern_0) (S' := bS_Sieve_is_pattern_0) (G' := bG_Sieve_is_pattern_0) (B' := bB_Sieve_is_pattern_0) b3 hc (by kernel_rfl) (fun x hx => nomatch hx)
      walk_at "w"
      rw [signAt_sOf hi']
      refine b_inPM ?_
      refine ⟨Same.refl _, ?_⟩
      rw [hP, List.replicate_succ', List.map_append]; rfl
    · refine ⟨D, _, rfl, .inl (.inl (by rw [hDa, hP])), ?_⟩
      have e : ((List.replicate (sOf l).cps.size true).all fun k => k) = true := by simp
      rw [e]
      walk_at "w"
      exact q _ hS
def spSvInit (K : PySem.W.Frag) : Sp := fun vs H Q _ => ∃ (a dx : Addr) (l : List Bool), vs = [.ref a, .str (sOf l)] ∧ H a = some (.ins (cS K) dx []) ∧ Pat l ∧
  ∀ m H', Good m → (∀ n, kp m n = kp l n) → m.length ∣ l.length → (∀ b o, b ≠ a → H b = some o → H' b = some o) → SieveAt K H' a m → Q .non H'
theorem ok_Sieve___init__ (F : FunD K "__init__" "Sieve.__init__" (defArgs s_Sieve___init__) (defBody s_Sieve___init__) (defScope s_Sieve___init__) [] [] f fd) (hb : ∀ x ∈ BB, mg x = none) (SC : SvC K mg) (h1 : SMt P w K mg base (cS K) "is_pattern" 3 spIsPat) (h2 : Fn P w K mg base "least_pattern" 3 spLeast) : FnR P w K mg base (L2.CX P w) 4 f (spSvInit K) := by
  refine fnr_of F sc_Sieve___init__ (fun vs H Q E h => ?_) (fun kV doc pm an cdv ct us hl => match us, hl with | [_, _], _ => rfl) (fun x hx => hb x (by revert x; decide +kernel)) fun cd A outer s H vs Q E hr hc h => ?_
  · obtain ⟨a, dx, l, rfl, _⟩ := h; rfl
  · obtain ⟨a, dx, l, rfl, ha, p, q⟩ := h
    have hz : sizeLine = 16777216 := sizeLine_eq
    refine wl_start (σ' := [some (.ref a), some (.str (sOf l)), none, none]) rfl (wl_cons ?_)
    walk_at "w"
    refine w_smeth h1 hr (by decide) passL ?_
    refine w_gref hc (by walk_at "mb") SC.g ⟨rfl, ?_⟩
    walk_at "w"
    refine ⟨l, rfl, p, fun H1 e1 => ?_⟩
    walk_at "w"
    refine ws_fld ?_
    refine w_call hc (by walk_at "mb") h2 hr (by decide) passL ?_
    walk_at "w"
    refine ⟨l, rfl, p, fun m gm km dm => ?_⟩
    walk_at "w"
    refine ⟨a, _, _, _, rfl, e1 _ _ ha, SC.cls, SC.nt, by decide, ?_⟩
    walk_at "w"
    refine ws_fld ?_
    refine w_lcT hc (own := bO_Sieve___init___0) (by kernel_rfl) (fun i acc => acc = ((List.range i).filter fun i => m.getD i false).map fun i => V.int (i : Nat)) ?_
    refine wi_enumS hc (by walk_at "mb") ?_
    walk_at "w"
    refine a_fld SC.cls SC.nt upd_same rfl ?_
    have hml : (sOf m).length = m.length := sOf_len m
    have hm1 := gm.most
    refine ⟨_, rfl, _, _, wlk_g, (by show (sOf m).length < sizeLine; omega), rfl, fun i acc H0 H' T hi hl hP hS0 hS hT => ?_, fun acc D H' hl hP hD hS hDa => ?_⟩
    · have hi' : i < m.length := by
        show i < m.length
        rw [← hml]; exact hi
      intro X1 b1
      have c1 := nm_blk (L' := bL_Sieve___init___0) (S' := bS_Sieve___init___0) (G' := bG_Sieve___init___0) (B' := bB_Sieve___init___0) b1 hc (by kernel_rfl) (fun x hx => nomatch hx)
      simp only [wipe, List.map_cons, List.map_nil, List.set_cons_succ, List.set_cons_zero]
      refine wg_tup c1 (.inl (.inl hT)) ?_
      walk_at "w"
      refine ⟨rfl, rfl, ?_⟩
      intro X2 b2
      refine wts_one ?_
      have c2 := nm_blk (L' := bL_Sieve___init___0) (S' := bS_Sieve___init___0) (G' := bG_Sieve___init___0) (B' := bB_Sieve___init___0) b2 hc (by kernel_rfl) (fun x hx => nomatch hx)
      walk_at "w"
      rw [signAt_sOf hi']
      refine b_eqPlus ?_
      have hst := marks_step hi'
      refine ⟨_, rfl, Same.refl _, ?_⟩
      cases hb2 : m[i] with
      | true =>
        refine ite_t ?_
        intro X3 b3
        have c3 := nm_blk (L' := bL_Sieve___init___0) (S' := bS_Sieve___init___0) (G' := bG_Sieve___init___0) (B' := bB_Sieve___init___0) b3 hc (by kernel_rfl) (fun x hx => nomatch hx)
        walk_at "w"
        refine ⟨Same.refl _, ?_⟩
        rw [hst, hb2, hP, if_pos rfl, List.map_append]; rfl
      | false =>
        refine ite_f ?_
        rw [hst, hb2, hP]; simp
    · walk_at "w"
      refine ⟨a, _, _, _, rfl, hS _ _ upd_same, SC.cls, SC.nm, (by show 1 < 1000; decide), ?_⟩
      walk_at "w"
      have hDa2 : D ≠ a := fun z => by
        rw [z, upd_same] at hD
        cases hD
      refine q m _ gm km dm (fun b o hb2 ho => ?_) ⟨gm, dx, D, upd_same, ?_⟩
      · rw [upd_ne hb2]
        exact hS _ _ (by rw [upd_ne hb2]; exact e1 _ _ ho)
      · rw [upd_ne hDa2, hDa, hP]
        have e : (sOf m).cps.size = m.length := hml
        rw [e]; rfl
/-- what C(pattern) promises -/
def spMkSv (K : PySem.W.Frag) (l : List Bool) (H : Hp) (Q : VK) : Prop := Pat l ∧ ∀ a m H', Same H H' → Good m → (∀ n, kp m n = kp l n) → m.length ∣ l.length → SieveAt K H' a m → Q (.ref a) H'
theorem made_sv {H : Hp} {Q : VK} {E : XK} {l : List Bool} (h : spMkSv K l H Q) : Made (cS K) (spSvInit K) [.str (sOf l)] H Q E := by
  intro x dx H2 h1 h2 h3 e h4 h5
  refine ⟨x, dx, l, rfl, h5, h.1, fun m H' gm km dm hf hs => ⟨rfl, h.2 x m H' (fun b o ho => ?_) gm km dm hs⟩⟩
  exact hf b o (fun z => by rw [z, h1] at ho; cases ho) (e _ _ ho)
def spEvery (K : PySem.W.Frag) : Sp := fun vs H Q _ => vs = [.ref (cS K)] ∧ ∀ a H', Same H H' → SieveAt K H' a [true] → Q (.ref a) H'
theorem good_one : Good [true] := ⟨⟨by decide, by decide, by decide⟩, fun d h1 h2 => by
  have : d < 1 := h2
  omega⟩
structure SvP (P : Program) (w : World) (K : PySem.W.Frag) (mg : Str → Option Value) (base : Heap) (m : Str) (sp : Sp) : Prop where
  ex : ∃ p g, PropOf K (cS K) m p g ∧ FnR P w K mg base (L2.CX P w) 3 g sp
/-- o.m, a property of a sieve -/
theorem a_svp {X : Cx} {m : Str} {σ : L2.St} {H : Hp} {Q : VK} {sp : Sp} {j : Nat} {a : Addr} {l : List Bool} (SC : SvC X.K X.mg) (F : SvP X.prog X.w X.K X.mg X.base m sp) (hr : Room j X.A) (hj : 4 ≤ j) (hs : SieveAt X.K H a l) (q : sp [.ref a] H Q E0) : WAt X (.ref a) m σ H Q := by
  obtain ⟨p, g, c, F⟩ := F.ex
  obtain ⟨_, dx, p2, ha, _⟩ := hs
  exact a_prop (E := E0) SC.cls c F (hr.mono hj) ha q
def spPat (K : PySem.W.Frag) : Sp := fun vs H Q _ => ∃ a l, vs = [.ref a] ∧ SieveAt K H a l ∧ Q (.str (sOf l)) H
def spPer (K : PySem.W.Frag) : Sp := fun vs H Q _ => ∃ a l, vs = [.ref a] ∧ SieveAt K H a l ∧ Q (.int (l.length : Nat)) H
def spSize (K : PySem.W.Frag) : Sp := fun vs H Q _ => ∃ a l, vs = [.ref a] ∧ SieveAt K H a l ∧ Q (.int (ct (kp l) l.length : Nat)) H
theorem ok_Sieve_pattern (F : FunD K "pattern" "Sieve.pattern" (defArgs s_Sieve_pattern) (defBody s_Sieve_pattern) (defScope s_Sieve_pattern) [] [] f fd) (hb : ∀ x ∈ BB, mg x = none) (SC : SvC K mg) : FnR P w K mg base (L2.CX P w) 3 f (spPat K) := by
  refine FnR.mono (fnr_of (k := 1) F sc_Sieve_pattern (fun vs H Q E h => ?_) (fun kV doc pm an cdv ct us hl => match us, hl with | [_], _ => rfl) (fun x hx => hb x (by revert x; decide +kernel)) fun cd A outer s H vs Q E hr hc h => ?_) (by decide)
  · obtain ⟨a, l, rfl, _⟩ := h; rfl
  · obtain ⟨a, l, rfl, ⟨g, dx, p, ha, hp⟩, q⟩ := h
    refine wl_start (σ' := [some (.ref a)]) rfl (wl_cons ?_)
    walk_at "w"
    refine a_fld SC.cls SC.nt ha rfl ?_
    exact q
theorem ok_Sieve_period (F : FunD K "period" "Sieve.period" (defArgs s_Sieve_period) (defBody s_Sieve_period) (defScope s_Sieve_period) [] [] f fd) (hb : ∀ x ∈ BB, mg x = none) (SC : SvC K mg) : FnR P w K mg base (L2.CX P w) 3 f (spPer K) := by
  refine FnR.mono (fnr_of (k := 1) F sc_Sieve_period (fun vs H Q E h => ?_) (fun kV doc pm an cdv ct us hl => match us, hl with | [_], _ => rfl) (fun x hx => hb x (by revert x; decide +kernel)) fun cd A outer s H vs Q E hr hc h => ?_) (by decide)
  · obtain ⟨a, l, rfl, _⟩ := h; rfl
  · obtain ⟨a, l, rfl, ⟨g, dx, p, ha, hp⟩, q⟩ := h
    have hz : sizeLine = 16777216 := sizeLine_eq
    have hm := g.most
    refine wl_start (σ' := [some (.ref a)]) rfl (wl_cons ?_)
    walk_at "w"
    refine a_fld SC.cls SC.nt ha rfl ?_
    exact ⟨l.length, ⟨by rw [sOf_len]; omega, by rw [sOf_len]⟩, q⟩
def spKept (K : PySem.W.Frag) : Sp := fun vs H Q _ => ∃ (a : Addr) (l : List Bool) (n : Nat), vs = [.ref a, .int n] ∧ SieveAt K H a l ∧ Q (.bl (kp l n)) H
theorem ok_Sieve_is_kept (F : FunD K "is_kept" "Sieve.is_kept" (defArgs s_Sieve_is_kept) (defBody s_Sieve_is_kept) (defScope s_Sieve_is_kept) [] [] f fd) (hb : ∀ x ∈ BB, mg x = none) (SC : SvC K mg) (h1 : Fn P w K mg base "is_integer" 2 (spIsInt K)) : FnR P w K mg base (L2.CX P w) 4 f (spKept K) := by
  refine fnr_of F sc_Sieve_is_kept (fun vs H Q E h => ?_) (fun kV doc pm an cdv ct us hl => match us, hl with | [_, _], _ => rfl) (fun x hx => hb x (by revert x; decide +kernel)) fun cd A outer s H vs Q E hr hc h => ?_
  · obtain ⟨a, l, n, rfl, _⟩ := h; rfl
  · obtain ⟨a, l, n, rfl, ⟨g, dx, p, ha, hp⟩, q⟩ := h
    have hz : sizeLine = 16777216 := sizeLine_eq
    have hm := g.most
    have h0 := g.one
    refine wl_start (σ' := [some (.ref a), some (.int n)]) rfl (wl_cons ?_)
    walk_at "w"
    refine w_call hc (by walk_at "mb") h1 hr (by decide) passL ?_
    walk_at "w"
    refine ⟨_, _, .inr ⟨rfl, rfl⟩, .inl ⟨_, rfl, ?_⟩⟩
    rw [decide_eq_true (show (0 : Int) ≤ (n : Nat) by omega)]
    walk_at "w"
    refine a_fld SC.cls SC.nt ha rfl ?_
    walk_at "w"
    refine a_fld SC.cls SC.nt ha rfl ?_
    refine ⟨l.length, ⟨by rw [sOf_len]; omega, by rw [sOf_len]⟩, ?_⟩
    refine b_mod (by omega) ?_
    have hi : n % l.length < l.length := Nat.mod_lt _ h0
    refine ix_s (by rw [sOf_len]; omega) (sOf_at (i := n % l.length) (by simp) hi) ?_
    walk_at "w"
    rw [dec_plus]
    have e : l[n % l.length] = kp l n := by rw [← kp_lt hi, (kp_per l).mod]
    rw [e]
    exact q
theorem mul_small {i j : Int} (h0 : 0 ≤ j) (h : j ≤ 1000000000) : IntMulOk i j := .of_right (intBits_le_64 (by omega) (by omega))
theorem mul_small' {i j : Int} (h0 : 0 ≤ i) (h : i ≤ 1000000000) : IntMulOk i j := .of_left (intBits_le_64 (by omega) (by omega))
def spNth (K : PySem.W.Frag) : Sp := fun vs H Q _ => ∃ (a : Addr) (l : List Bool) (i : Nat), vs = [.ref a, .int i] ∧ SieveAt K H a l ∧ ∀ n H', Same H H' → kp l n = true → ct (kp l) n = i → Q (.int (n : Nat)) H'
def spRank (K : PySem.W.Frag) : Sp := fun vs H Q _ => ∃ (a : Addr) (l : List Bool) (n : Nat), vs = [.ref a, .int n] ∧ SieveAt K H a l ∧ ∀ H', Same H H' → Q (.int (ct (kp l) n : Nat)) H'
def spSvEq (K : PySem.W.Frag) : Sp := fun vs H Q _ => ∃ (a b : Addr) (l m : List Bool), vs = [.ref a, .ref b] ∧ SieveAt K H a l ∧ SieveAt K H b m ∧ Q (.bl (decide (l = m))) H
theorem ok_Sieve___eq__ (F : FunD K "__eq__" "Sieve.__eq__" (defArgs s_Sieve___eq__) (defBody s_Sieve___eq__) (defScope s_Sieve___eq__) [] [] f fd) (hb : ∀ x ∈ BB, mg x = none) (SC : SvC K mg) : FnR P w K mg base (L2.CX P w) 4 f (spSvEq K) := by
  refine fnr_of F sc_Sieve___eq__ (fun vs H Q E h => ?_) (fun kV doc pm an cdv ct us hl => match us, hl with | [_, _], _ => rfl) (fun x hx => hb x (by revert x; decide +kernel)) fun cd A outer s H vs Q E hr hc h => ?_
  · obtain ⟨a, b, l, n, rfl, _⟩ := h; rfl
  · obtain ⟨a, b, l, m, rfl, ⟨g, dx, p, ha, hp⟩, ⟨g2, dx2, p2, hb2, hp2⟩, q⟩ := h
    refine wl_start (σ' := [some (.ref a), some (.ref b)]) rfl (wl_cons ?_)
    walk_at "w"
    refine x_isiC hc (by walk_at "mb") (by walk_at "mb") SC.g ?_
    walk_at "w"
    refine ⟨_, true, SC.eqT hb2, kit_own, ?_⟩
    walk_at "w"
    refine a_fld SC.cls SC.nt ha rfl ?_
    walk_at "w"
    refine a_fld SC.cls SC.nt hb2 rfl ?_
    walk_at "w"
    have e : decide (sOf l = sOf m) = decide (l = m) := by
      by_cases h : l = m
      · rw [decide_eq_true h, decide_eq_true (congrArg sOf h)]
      · rw [decide_eq_false h, decide_eq_false (fun z => h (sOf_inj z))]
    rw [e]
    exact q
def spGcd : Sp := fun vs H Q _ => ∃ a b : Nat, vs = [.int a, .int b] ∧ Q (.int (Nat.gcd a b : Nat)) H
theorem ok_common_divisor (F : FunD K "common_divisor" "common_divisor" (defArgs s_common_divisor) (defBody s_common_divisor) (defScope s_common_divisor) [] [] f fd) (hb : ∀ x ∈ BB, mg x = none) : FnR P w K mg base (L2.CX P w) 2 f spGcd := by
  refine fnr_of F sc_common_divisor (fun vs H Q E h => ?_) (fun kV doc pm an cdv ct us hl => match us, hl with | [_, _], _ => rfl) (fun x hx => hb x (by revert x; decide +kernel)) fun cd A outer s H vs Q E hr hc h => ?_
  · obtain ⟨a, b, rfl, _⟩ := h; rfl
  · obtain ⟨a, b, rfl, q⟩ := h
    refine wl_start (σ' := [some (.int a), some (.int b)]) rfl (wl_cons ?_)
    refine ws_while owns_cx (fun m σ' H' => ∃ x y : Nat, m = y ∧ H' = H ∧ σ' = [some (.int x), some (.int y)] ∧ Nat.gcd x y = Nat.gcd a b) b ⟨a, b, rfl, rfl, rfl, rfl⟩ fun m σ' H' ⟨x, y, hm, hH, hσ, hg⟩ => ?_
    subst hm hH hσ
    walk_at "w"
    refine if_dec (fun h1 => ?_) (fun h1 => ?_)
    · walk_at "go"
      refine ws_par hc (by kernel_rfl) (by kernel_rfl) (by decide +kernel) ?_ (by with_unfolding_all rfl) (by with_unfolding_all rfl) (by with_unfolding_all rfl) (by with_unfolding_all rfl) ⟨0, 1, rfl, rfl⟩
      walk_at "w"
      refine b_mod (by omega) ?_
      refine ⟨_, _, by walk_at "put", by walk_at "put", ?_⟩
      walk_at "w"
      refine ⟨_, Nat.mod_lt x (show 0 < m by omega), m, x % m, rfl, rfl, by simp, ?_⟩
      rw [← hg, Nat.gcd_comm x m, Nat.gcd_rec m x, Nat.gcd_comm]
    · have hy : m = 0 := by omega
      subst hy
      rw [Nat.gcd_zero_right] at hg
      walk_at "w"
      rw [hg]
      exact q
def spLcm : Sp := fun vs H Q _ => ∃ a b : Nat, vs = [.int a, .int b] ∧ 0 < a ∧ a < 1000000000 ∧ 0 < b ∧ b < 1000000000 ∧ Q (.int (Nat.lcm a b : Nat)) H
theorem ok_common_multiple (F : FunD K "common_multiple" "common_multiple" (defArgs s_common_multiple) (defBody s_common_multiple) (defScope s_common_multiple) [] [] f fd) (hb : ∀ x ∈ BB, mg x = none) (h1 : Fn P w K mg base "common_divisor" 2 spGcd) : FnR P w K mg base (L2.CX P w) 3 f spLcm := by
  refine fnr_of F sc_common_multiple (fun vs H Q E h => ?_) (fun kV doc pm an cdv ct us hl => match us, hl with | [_, _], _ => rfl) (fun x hx => hb x (by revert x; decide +kernel)) fun cd A outer s H vs Q E hr hc h => ?_
  · obtain ⟨a, b, rfl, _⟩ := h; rfl
  · obtain ⟨a, b, rfl, ha, ha2, hb1, hb2, q⟩ := h
    refine wl_start (σ' := [some (.int a), some (.int b)]) rfl (wl_cons ?_)
    walk_at "w"
    refine w_call hc (by walk_at "mb") h1 hr (by decide) passL ?_
    walk_at "w"
    refine ⟨a, b, rfl, ?_⟩
    have hg := Nat.gcd_le_left b ha
    have hg0 := Nat.gcd_pos_of_pos_left b ha
    refine b_fdiv (by omega) (by omega) ?_
    walk_at "w"
    have hd := Nat.div_le_self a (Nat.gcd a b)
    refine b_mul (mul_small (by omega) (by omega)) ?_
    have e : (a : Int) / (Nat.gcd a b : Nat) * (b : Nat) = ((Nat.lcm a b : Nat) : Int) := by
      rw [Nat.lcm, Nat.mul_comm a b, Nat.mul_div_assoc _ (Nat.gcd_dvd_left a b), Nat.mul_comm]
      simp
    rw [e]
    exact q
def spLimit : Sp := fun vs H Q _ => ∃ p : Nat, vs = [.int p] ∧ p ≤ 10000 ∧ Q .non H
theorem ok_check_limit (F : FunD K "check_limit" "check_limit" (defArgs s_check_limit) (defBody s_check_limit) (defScope s_check_limit) [] [] f fd) (hb : ∀ x ∈ BB, mg x = none) (SC : SvC K mg) : FnR P w K mg base (L2.CX P w) 2 f spLimit := by
  refine fnr_of F sc_check_limit (fun vs H Q E h => ?_) (fun kV doc pm an cdv ct us hl => match us, hl with | [_], _ => rfl) (fun x hx => hb x (by revert x; decide +kernel)) fun cd A outer s H vs Q E hr hc h => ?_
  · obtain ⟨a, rfl, _⟩ := h; rfl
  · obtain ⟨p, rfl, hp, q⟩ := h
    obtain ⟨u, hu⟩ := SC.lim
    refine wl_start (σ' := [some (.int p)]) rfl (wl_cons ?_)
    walk_at "w"
    refine w_gref hc (by walk_at "mb") SC.g ?_
    refine a_cval SC.rd hu ?_
    walk_at "w"
    rw [decide_eq_false (show ¬ (10000 : Int) < (p : Nat) by omega)]
    walk_at "w"
    exact q
def spSvFrom (K : PySem.W.Frag) : Sp := fun vs H Q _ => ∃ (a : Addr) (ns : List Int) (p : Nat), vs = [.ref a, .int (p : Nat)] ∧ SqL K H a (ns.map V.int) ∧ ns.length < 4090 ∧ 0 < p ∧ p ≤ 10000 ∧
  ((ns = [] ∧ Q .non H) ∨ ∃ f : Nat → Bool, ns ≠ [] ∧ Per f p ∧ (∃ i, f i = true) ∧ (∀ i, i < p → (ns.any (· == ((i : Nat) : Int))) = f i) ∧ ∀ b m H', Same H H' → (∀ n, kp m n = f n) → m.length ∣ p → SieveAt K H' b m → Q (.ref b) H')
theorem ok_sieve_from (F : FunD K "sieve_from" "sieve_from" (defArgs s_sieve_from) (defBody s_sieve_from) (defScope s_sieve_from) [] [] f fd) (hb : ∀ x ∈ BB, mg x = none) (SC : SvC K mg) (h1 : Fn P w K mg base "pattern_of" 3 (spPatOf K)) (h2 : Mkr P w K mg base (cS K) 4 (spSvInit K)) : FnR P w K mg base (L2.CX P w) 6 f (spSvFrom K) := by
  refine fnr_of F sc_sieve_from (fun vs H Q E h => ?_) (fun kV doc pm an cdv ct us hl => match us, hl with | [_, _], _ => rfl) (fun x hx => hb x (by revert x; decide +kernel)) fun cd A outer s H vs Q E hr hc h => ?_
  · obtain ⟨a, ns, p, rfl, _⟩ := h; rfl
  · obtain ⟨a, ns, p, rfl, hs, hn, hp0, hp, q⟩ := h
    refine wl_start (σ' := [some (.ref a), some (.int p)]) rfl (wl_cons ?_)
    walk_at "w"
    refine ⟨_, .inl ⟨_, hs, rfl⟩, ?_⟩
    rw [List.length_map]
    walk_at "w"
    rcases q with ⟨rfl, q⟩ | ⟨f, hne, hper, hex, hf, q⟩
    · refine if_dec (fun h => absurd h (by simp)) (fun _ => ?_)
      walk_at "w"
      exact q
    · have hl : 0 < ns.length := List.length_pos_iff.mpr hne
      rw [decide_eq_true (show (0 : Int) < (ns.length : Nat) by omega)]
      walk_at "w"
      refine w_make hc (by walk_at "mb") SC.g h2 hr (by decide) passL ?_
      walk_at "w"
      refine w_call hc (by walk_at "mb") h1 hr (by decide) passL ?_
      walk_at "w"
      refine ⟨a, ns, p, rfl, hs, hn, hp, fun H1 e1 => ?_⟩
      walk_at "w"
      have e : lof (fun i => ns.any (· == ((i : Nat) : Int))) p = lof f p := by
        unfold lof
        exact List.map_congr_left fun i hi => hf i (List.mem_range.mp hi)
      rw [e]
      refine made_sv ⟨⟨by rw [lof_len]; exact hp0, by rw [lof_len]; exact hp, ?_⟩, fun b m H' e2 gm km dm hs2 => ?_⟩
      · obtain ⟨i, hi⟩ := hex
        exact kp_plus (by rw [lof_len]; exact hp0) (i := i) (by rw [kp_lof hper hp0]; exact hi)
      · rw [lof_len] at dm
        exact q b m H' (e1.trans e2) (fun n => by rw [km, kp_lof hper hp0]) dm hs2

def spPool (K : PySem.W.Frag) : Sp := fun vs H Q _ => ∃ (sc : Addr) (ns : List Int) (k : Nat), vs = [.ref sc, .int k] ∧ SqL K H sc (ns.map V.int) ∧ ns.length ≤ 63 ∧ k ≤ 1000 ∧ ∀ p H', H p = none → Same H H' → H' p = some (pool p) → Q (.ref p) H'
theorem ok__law_pool (F : FunD K "_law_pool" "_law_pool" (defArgs s__law_pool) (defBody s__law_pool) (defScope s__law_pool) [] [] f fd) (hb : ∀ x ∈ BB, mg x = none) : FnR P w K mg base (L2.CX P w) 2 f (spPool K) := by
  refine fnr_of F sc__law_pool (fun vs H Q E h => ?_) (fun kV doc pm an cdv ct us hl => match us, hl with | [_, _], _ => rfl) (fun x hx => hb x (by revert x; decide +kernel)) fun cd A outer s H vs Q E hr hc h => ?_
  · obtain ⟨sc, ns, k, rfl, _⟩ := h; rfl
  · obtain ⟨sc, ns, k, rfl, hs, hn, hk, q⟩ := h
    have hz : sizeLine = 16777216 := sizeLine_eq
    refine wl_start (σ' := [some (.ref sc), some (.int k), none, none]) rfl (wl_cons ?_)
    walk_at "w"
    refine ⟨_, .inl ⟨_, hs, rfl⟩, ?_⟩
    walk_at "w"
    have key : ∀ c : Int, 0 ≤ c → WL (cx P w K mg base N__law_pool "_law_pool" (defScope s__law_pool) f cd A outer s H E) ((defBody s__law_pool).drop 2) { nx := fun _ H' => Q .non H', rt := Q } [some (.ref sc), some (.int k), some (.int c), none] H := by
      intro c h0
      refine wl_cons ?_
      walk_at "w"
      refine b_mod (by omega) ?_
      walk_at "w"
      refine b_mul (mul_small (by omega) (by omega)) ?_
      walk_at "w"
      refine b_mul (mul_small (by omega) (by omega)) ?_
      walk_at "w"
      refine b_mul (mul_small (by omega) (by omega)) ?_
      walk_at "w"
      refine b_mul (mul_small (by omega) (by omega)) ?_
      walk_at "w"
      refine b_mod (by omega) ?_
      refine ⟨_, by walk_at "put", ?_⟩
      refine wl_cons ?_
      refine ws_ret ?_
      refine we_abs ?_
      walk_at "w"
      generalize hm : (c % 2147483629 + 7919 * (k : Int) * (k : Int) + 31 * (k : Int) + 17) * 48271 % 2147483647 = m
      have m0 : 0 ≤ m := by rw [← hm]; exact Int.emod_nonneg _ (by decide)
      have m1 : m < 2147483647 := by rw [← hm]; exact Int.emod_lt_of_pos _ (by decide)
      refine b_pow ⟨by omega, by omega, by decide⟩ ?_
      walk_at "w"
      have hb1 : ∀ b : Bool, (0 : Int) ≤ (if b = true then 1 else 0) ∧ (if b = true then (1 : Int) else 0) ≤ 1 := fun b => by cases b <;> decide
      refine b_mul (mul_small (hb1 _).1 (by have := (hb1 (decide ((10 : Int) ^ Int.toNat 18 ≤ c))).2; omega)) ?_
      walk_at "w"
      refine b_mul (.of_right (intBits_le_64 (by omega) (by omega))) ?_
      walk_at "w"
      refine b_mod (by omega) ?_
      walk_at "w"
      refine ⟨(by show 2 ≤ sizeLine; omega), fun p H1 hp e1 hp1 => ?_⟩
      have h5 := hb1 (decide ((10 : Int) ^ Int.toNat 18 ≤ c))
      refine ⟨_, pool_abs hp1 (Int.mul_nonneg h0 h5.1) (Int.emod_nonneg _ (by decide)), ?_⟩
      exact q p _ hp (same_mut e1 hp) upd_same
    refine if_dec (fun h1 => ?_) (fun h1 => ?_)
    · walk_at "w"
      have hk2 : k < ns.length := by rw [List.length_map] at h1; omega
      refine ix_l hs (at_of (i := k) rfl (v := .int ns[k]) (by rw [List.getElem?_map, List.getElem?_eq_getElem hk2]; rfl)) ?_
      refine ⟨_, rfl, ?_⟩
      refine ⟨_, by walk_at "put", ?_⟩
      refine wl_nil ?_
      refine key _ ?_
      split <;> omega
    · refine wl_nil ?_
      exact key 0 (by decide)
def spTake : Sp := fun vs H Q _ => ∃ (p : Addr) (many : Nat), vs = [.ref p, .int many] ∧ H p = some (pool p) ∧ 0 < many ∧ many ≤ 1000000000 ∧ ∀ r : Nat, r < many → Q (.int (r : Nat)) H
theorem ok__law_take (F : FunD K "_law_take" "_law_take" (defArgs s__law_take) (defBody s__law_take) (defScope s__law_take) [] [] f fd) (hb : ∀ x ∈ BB, mg x = none) : FnR P w K mg base (L2.CX P w) 2 f spTake := by
  refine fnr_of F sc__law_take (fun vs H Q E h => ?_) (fun kV doc pm an cdv ct us hl => match us, hl with | [_, _], _ => rfl) (fun x hx => hb x (by revert x; decide +kernel)) fun cd A outer s H vs Q E hr hc h => ?_
  · obtain ⟨p, many, rfl, _⟩ := h; rfl
  · obtain ⟨p, many, rfl, hp, hm0, hm1, q⟩ := h
    refine wl_start (σ' := [some (.ref p), some (.int many), none]) rfl (wl_pool hp fun i j hi hj => ?_)
    walk_at "go"
    walk_at "w"
    refine ix_l (.inl (.inl upd_same)) rfl ?_
    walk_at "w"
    refine if_dec (fun h1 => ?_) (fun h1 => ?_)
    · walk_at "w"
      refine ix_l (.inl (.inl upd_same)) rfl ?_
      walk_at "w"
      refine b_mod (by omega) ?_
      walk_at "w"
      refine ws_asg ?_
      walk_at "w"
      refine ix_l (.inl (.inl upd_same)) rfl ?_
      walk_at "w"
      refine b_fdiv (by omega) (by omega) ?_
      refine wg_subL ?_
      walk_at "w"
      refine ⟨p, _, 0, 0, rfl, rfl, upd_same, rfl, ?_⟩
      walk_at "go"
      refine ws_ret (we_abs ?_)
      walk_at "w"
      refine ⟨_, pool_abs (i := i / (many : Int)) (j := j) upd_same (Int.ediv_nonneg hi (by omega)) hj, ?_⟩
      rw [upd_upd, pool_back hp]
      have e1 : i % (many : Int) = ((i % (many : Int)).toNat : Int) := by
        have := Int.emod_nonneg i (show (many : Int) ≠ 0 by omega)
        omega
      rw [e1]
      refine q _ ?_
      have := Int.emod_lt_of_pos i (show (0 : Int) < (many : Int) by omega)
      omega
    · walk_at "w"
      refine ws_asg ?_
      walk_at "w"
      refine ix_l (.inl (.inl upd_same)) rfl ?_
      walk_at "w"
      refine b_mul (mul_small (by omega) (by omega)) ?_
      walk_at "w"
      refine b_mod (by omega) ?_
      generalize hm : (j * 48271 + 12345) % 2147483647 = m
      have m0 : 0 ≤ m := by rw [← hm]; exact Int.emod_nonneg _ (by decide)
      have m1 : m < 2147483647 := by rw [← hm]; exact Int.emod_lt_of_pos _ (by decide)
      refine wg_subL ?_
      walk_at "w"
      refine ⟨p, _, 1, 1, rfl, rfl, upd_same, rfl, ?_⟩
      walk_at "go"
      refine ws_ret (we_abs ?_)
      walk_at "w"
      refine ix_l (.inl (.inl upd_same)) rfl ?_
      walk_at "w"
      refine ix_l (.inl (.inl upd_same)) rfl ?_
      refine b_mul (.of_right (intBits_le_64 (by omega) (by omega))) ?_
      walk_at "w"
      refine b_mod (by omega) ?_
      walk_at "w"
      refine b_fdiv (by omega) (by omega) ?_
      walk_at "w"
      refine b_mod (by omega) ?_
      refine ⟨_, pool_abs (i := i) (j := m) upd_same hi m0, ?_⟩
      rw [upd_upd, pool_back hp]
      generalize m * m % 2147483629 / 64 = z
      have e1 : z % (many : Int) = ((z % (many : Int)).toNat : Int) := by
        have := Int.emod_nonneg z (show (many : Int) ≠ 0 by omega)
        omega
      rw [e1]
      refine q _ ?_
      have := Int.emod_lt_of_pos z (show (0 : Int) < (many : Int) by omega)
      omega

def spLPat : Sp := fun vs H Q _ => ∃ (p : Addr) (most : Nat), vs = [.ref p, .int most] ∧ H p = some (pool p) ∧ 0 < most ∧ most ≤ 200 ∧ ∀ l H', Same H H' → Pat l → l.length ≤ 3 * most + 3 → Q (.str (sOf l)) H'
theorem ok__law_pattern (F : FunD K "_law_pattern" "_law_pattern" (defArgs s__law_pattern) (defBody s__law_pattern) (defScope s__law_pattern) [] [] f fd) (hb : ∀ x ∈ BB, mg x = none) (h1 : Fn P w K mg base "_law_take" 2 spTake) : FnR P w K mg base (L2.CX P w) 3 f spLPat := by
  refine fnr_of F sc__law_pattern (fun vs H Q E h => ?_) (fun kV doc pm an cdv ct us hl => match us, hl with | [_, _], _ => rfl) (fun x hx => hb x (by revert x; decide +kernel)) fun cd A outer s H vs Q E hr hc h => ?_
  · obtain ⟨p, most, rfl, _⟩ := h; rfl
  · obtain ⟨p, most, rfl, hp, hm0, hm1, q⟩ := h
    have hz : sizeLine = 16777216 := sizeLine_eq
    refine wl_start (σ' := [some (.ref p), some (.int most), none, none, none, none, none, none, none]) rfl (wl_cons ?_)
    refine ws_asg ?_
    walk_at "w"
    refine w_call hc (by walk_at "mb") h1 hr (by decide) passL ?_
    walk_at "w"
    refine ⟨p, most, rfl, hp, hm0, by omega, fun len0 hlen0 => ?_⟩
    walk_at "w"
    refine w_call hc (by walk_at "mb") h1 hr (by decide) passL ?_
    walk_at "w"
    refine ⟨p, 4, rfl, hp, by decide, by decide, fun way hway => ?_⟩
    walk_at "w"
    refine ⟨(by show 2 ≤ sizeLine; omega), fun T H1 hT e1 hT1 => ?_⟩
    refine wg_tup hc (.inl (.inl hT1)) ?_
    walk_at "w"
    have hl1 : (1 : Int) + (len0 : Nat) = ((len0 + 1 : Nat) : Int) := by omega
    rw [hl1]
    refine ws_setLc hc (own := bO__law_pattern_0) (by kernel_rfl) (fun i acc => ∃ ns : List Nat, acc = (ns.map fun n => ((n : Nat) : Int)).map V.int ∧ ns.length = i) ?_ (by kernel_rfl) (by kernel_rfl) (iy := ⟨2, rfl⟩)
    refine wi_range1 hc (by walk_at "mb") ?_
    walk_at "w"
    refine ⟨by omega, by omega, _, _, wlk_range, by omega, ⟨[], rfl, rfl⟩, fun i acc H' hi hl hP hS => ?_, fun acc D H2 hl hP hD hS hDa => ?_⟩
    · obtain ⟨ns, rfl, hns⟩ := hP
      intro X1 b1
      have c1 := nm_blk (L' := bL__law_pattern_0) (S' := bS__law_pattern_0) (G' := bG__law_pattern_0) (B' := bB__law_pattern_0) b1 hc (by kernel_rfl) (fun x hx => nomatch hx)
      simp only [wipe, List.map_cons, List.map_nil, List.set_cons_succ, List.set_cons_zero]
      walk_at "w"
      refine ⟨rfl, rfl, ?_⟩
      intro X2 b2
      refine wts_nil ?_
      refine ⟨Same.refl _, ite_t ?_⟩
      intro X3 b3
      have c3 := nm_blk (L' := bL__law_pattern_0) (S' := bS__law_pattern_0) (G' := bG__law_pattern_0) (B' := bB__law_pattern_0) b3 hc (by kernel_rfl) (fun x hx => nomatch hx)
      obtain ⟨_, _, _, _, _, rfl⟩ := b3
      refine w_call c3 (by walk_at "mb") h1 hr (by decide) passL ?_
      walk_at "w"
      refine ⟨(by show 4 ≤ sizeLine; omega), fun q3 H3 hq3 e3 hq4 => ?_⟩
      walk_at "w"
      obtain ⟨b, hb1, hb2, hb3⟩ : ∃ b : Nat, atI [V.int 2, V.int 4, V.int 2, V.int 2] ((way : Nat) : Int) = some (V.int (b : Nat)) ∧ 0 < b ∧ b ≤ 4 := by
        rcases (by omega : way = 0 ∨ way = 1 ∨ way = 2 ∨ way = 3) with rfl | rfl | rfl | rfl
        · exact ⟨2, rfl, by decide, by decide⟩
        · exact ⟨4, rfl, by decide, by decide⟩
        · exact ⟨2, rfl, by decide, by decide⟩
        · exact ⟨2, rfl, by decide, by decide⟩
      refine ix_l (.inl (.inl hq4)) hb1 ?_
      walk_at "w"
      refine ⟨p, b, rfl, e3 _ _ (hS _ _ (e1 _ _ hp)), hb2, by omega, fun r hr2 => ⟨e3, ns ++ [r], by simp, by simp [hns]⟩⟩
    · obtain ⟨ns, rfl, hns⟩ := hP
      rw [Int.toNat_natCast] at hns
      walk_at "w"
      refine w_join ?_
      walk_at "w"
      refine w_lc hc (own := bO__law_pattern_1) (by kernel_rfl) (fun i acc => acc = ((ns.take i).map fun n => !decide (n = 0)).map fun b => V.str (sOf [b])) ?_
      refine wi_list ?_
      walk_at "w"
      refine ⟨D, _, rfl, .inl (.inl hDa), _, _, wlk_list (.inl (.inl hDa)), (by simp; omega), by simp, fun i acc H' hi hl hP hS2 => ?_, fun acc D2 H3 hl hP hD2 hS2 hDa2 => ?_⟩
      · rw [List.length_map, List.length_map] at hi
        intro X1 b1
        have c1 := nm_blk (L' := bL__law_pattern_1) (S' := bS__law_pattern_1) (G' := bG__law_pattern_1) (B' := bB__law_pattern_1) b1 hc (by kernel_rfl) (fun x hx => nomatch hx)
        simp only [wipe, List.map_cons, List.map_nil, List.set_cons_succ, List.set_cons_zero]
        have e5 : ((ns.map fun n => ((n : Nat) : Int)).map V.int).getD i .non = .int ((ns[i] : Nat) : Int) := by
          rw [List.getD_eq_getElem?_getD, List.getElem?_map, List.getElem?_map, List.getElem?_eq_getElem hi]; rfl
        rw [e5]
        walk_at "w"
        refine ⟨rfl, rfl, ?_⟩
        intro X2 b2
        refine wts_nil ?_
        refine ⟨Same.refl _, ite_t ?_⟩
        intro X3 b3
        have c3 := nm_blk (L' := bL__law_pattern_1) (S' := bS__law_pattern_1) (G' := bG__law_pattern_1) (B' := bB__law_pattern_1) b3 hc (by kernel_rfl) (fun x hx => nomatch hx)
        walk_at "w"
        have hst : ∀ b, (!decide (ns[i] = 0)) = b → acc ++ [V.str (sOf [b])] = ((ns.take (i + 1)).map fun n => !decide (n = 0)).map fun b => V.str (sOf [b]) := fun b e => by
          rw [hP, List.take_succ_eq_append_getElem hi, ← e, List.map_append, List.map_append]; rfl
        refine if_dec (fun h2 => ?_) (fun h2 => ?_)
        · walk_at "w"
          refine ⟨Same.refl _, hst false (by rw [decide_eq_true (show ns[i] = 0 by omega)]; rfl)⟩
        · walk_at "w"
          refine ⟨Same.refl _, hst true (by rw [decide_eq_false (show ¬ ns[i] = 0 by omega)]; rfl)⟩
      · rw [List.length_map, List.length_map, List.take_length] at hP
        refine ⟨D2, (ns.map fun n => !decide (n = 0)).map fun b => sOf [b], rfl, .inl (.inl (.inl (by rw [hDa2, hP]; simp only [List.map_map]; rfl))), ?_, ?_⟩
        · have hl1 : ∀ l : List Bool, ((l.map fun b => sOf [b]).map fun x => x.length).sum = l.length := fun l => by
            induction l with
            | nil => rfl
            | cons b r ih => simp only [List.map_cons, List.sum_cons, ih, sOf_len, List.length_cons, List.length_nil]; omega
          rw [hl1, List.length_map, List.length_map, List.length_map]
          have : ("" : Str).length = 0 := by decide +kernel
          rw [this]
          omega
        · rw [join_sOf]
          have hbl : (ns.map fun n => !decide (n = 0)).length = len0 + 1 := by rw [List.length_map, hns]
          generalize (ns.map fun n => !decide (n = 0)) = bs at hbl
          have eS : Same H H3 := e1.trans (hS.trans hS2)
          walk_at "w"
          have key2 : ∀ (cs : List Bool), 0 < cs.length → cs.length ≤ 3 * most + 3 → WL (cx P w K mg base N__law_pattern "_law_pattern" (defScope s__law_pattern) f cd A outer s H E) ((defBody s__law_pattern).drop 5) { nx := fun _ H' => Q .non H', rt := Q } [some (.ref p), some (.int most), some (.ref D), some (.str (sOf cs)), none, some (.int ((len0 + 1 : Nat) : Int)), some (.int (way : Nat)), none, none] H3 := by
            intro cs hc0 hc1
            refine wl_cons ?_
            walk_at "w"
            refine w_call hc (by walk_at "mb") h1 hr (by decide) passL ?_
            walk_at "w"
            refine ⟨cs.length, ⟨by rw [sOf_len]; omega, by rw [sOf_len]⟩, ?_⟩
            walk_at "w"
            refine ⟨p, cs.length, rfl, eS _ _ hp, hc0, by omega, fun at_ hat => ?_⟩
            walk_at "w"
            refine b_inPlus ?_
            walk_at "w"
            refine if_dec (fun h2 => ?_) (fun h2 => ?_)
            · walk_at "w"
              exact q cs H3 eS ⟨hc0, by omega, h2⟩ hc1
            · walk_at "w"
              refine sl_s (by rw [sOf_len]; omega) ?_
              rw [cut_to cs rfl (by omega)]
              walk_at "w"
              rw [plus_sOf]
              refine b_addS (by rw [sOf_len, sOf_len, List.length_take, List.length_singleton]; omega) ?_
              rw [sOf_app]
              walk_at "w"
              refine sl_s (by rw [sOf_len]; omega) ?_
              rw [cut_from cs (d := at_ + 1) (by omega) (by omega)]
              refine b_addS (by rw [sOf_len, sOf_len, List.length_append, List.length_take, List.length_singleton, List.length_drop]; omega) ?_
              rw [sOf_app]
              refine q _ H3 eS ⟨?_, ?_, by simp⟩ ?_
              · simp; omega
              · simp; omega
              · simp; omega
          have key1 : ∀ (cs : List Bool), 0 < cs.length → cs.length ≤ 3 * most → (way = 3 → cs.length ≤ most) → WL (cx P w K mg base N__law_pattern "_law_pattern" (defScope s__law_pattern) f cd A outer s H E) ((defBody s__law_pattern).drop 4) { nx := fun _ H' => Q .non H', rt := Q } [some (.ref p), some (.int most), some (.ref D), some (.str (sOf cs)), none, some (.int ((len0 + 1 : Nat) : Int)), some (.int (way : Nat)), none, none] H3 := by
            intro cs hc0 hc1 hc2
            refine wl_cons ?_
            walk_at "w"
            refine if_dec (fun h2 => ?_) (fun h2 => ?_)
            · walk_at "w"
              refine w_call hc (by walk_at "mb") h1 hr (by decide) passL ?_
              walk_at "w"
              refine ⟨p, 4, rfl, eS _ _ hp, by decide, by decide, fun r hr2 => ?_⟩
              rw [minus_sOf]
              refine b_mulS (by omega) (by omega) (by rw [sOf_len]; simp; omega) ?_
              rw [rep_sOf, Int.toNat_natCast]
              refine b_addS (by rw [sOf_len, sOf_len, rep_len]; simp; omega) ?_
              rw [sOf_app]
              refine ⟨_, by walk_at "put", ?_⟩
              refine wl_nil ?_
              refine key2 _ ?_ ?_
              · simp; omega
              · rw [List.length_append, rep_len]; simp; omega
            · refine wl_nil ?_
              exact key2 cs hc0 (by omega)
          refine if_dec (fun h2 => ?_) (fun h2 => ?_)
          · walk_at "w"
            refine w_call hc (by walk_at "mb") h1 hr (by decide) passL ?_
            walk_at "w"
            refine ⟨p, 3, rfl, eS _ _ hp, by decide, by decide, fun r hr2 => ?_⟩
            walk_at "w"
            have er : ((1 : Int) + (r : Nat)).toNat = r + 1 := by omega
            have h9 : (r + 1) * bs.length ≤ 3 * bs.length := Nat.mul_le_mul_right _ (by omega)
            refine b_mulS (by omega) (by omega) (by rw [sOf_len, er, Nat.mul_comm]; omega) ?_
            rw [rep_sOf, er]
            refine ⟨_, by walk_at "put", ?_⟩
            refine wl_nil ?_
            refine key1 _ ?_ ?_ (fun h => by omega)
            · rw [rep_len, hbl]; exact Nat.mul_pos (by omega) (by omega)
            · rw [rep_len]; omega
          · refine wl_nil ?_
            exact key1 bs (by omega) (by omega) (fun _ => by omega)

def spCPer (K : PySem.W.Frag) : Sp := fun vs H Q _ => ∃ (a b : Addr) (l m : List Bool), vs = [.ref a, .ref b] ∧ SieveAt K H a l ∧ SieveAt K H b m ∧ Nat.lcm l.length m.length ≤ 10000 ∧ Q (.int (Nat.lcm l.length m.length : Nat)) H
theorem ok_common_period (F : FunD K "common_period" "common_period" (defArgs s_common_period) (defBody s_common_period) (defScope s_common_period) [] [] f fd) (hb : ∀ x ∈ BB, mg x = none) (SC : SvC K mg) (h1 : Fn P w K mg base "common_multiple" 3 spLcm) (h2 : Fn P w K mg base "check_limit" 2 spLimit) (h7 : SvP P w K mg base "period" (spPer K)) : FnR P w K mg base (L2.CX P w) 5 f (spCPer K) := by
  refine fnr_of F sc_common_period (fun vs H Q E h => ?_) (fun kV doc pm an cdv ct us hl => match us, hl with | [_, _], _ => rfl) (fun x hx => hb x (by revert x; decide +kernel)) fun cd A outer s H vs Q E hr hc h => ?_
  · obtain ⟨a, b, l, m, rfl, _⟩ := h; rfl
  · obtain ⟨a, b, l, m, rfl, ha, hb2, hP, q⟩ := h
    have l1 := ha.1.one
    have l2 := ha.1.most
    have m1 := hb2.1.one
    have m2 := hb2.1.most
    refine wl_start (σ' := [some (.ref a), some (.ref b), none]) rfl (wl_cons ?_)
    walk_at "w"
    refine w_call hc (by walk_at "mb") h1 hr (by decide) passL ?_
    walk_at "w"
    refine a_svp SC h7 hr (by decide) ha ⟨a, l, rfl, ha, ?_⟩
    walk_at "w"
    refine a_svp SC h7 hr (by decide) hb2 ⟨b, m, rfl, hb2, ?_⟩
    walk_at "w"
    refine ⟨_, _, rfl, l1, by omega, m1, by omega, ?_⟩
    walk_at "w"
    refine w_call hc (by walk_at "mb") h2 hr (by decide) passL ?_
    walk_at "w"
    refine ⟨_, rfl, hP, ?_⟩
    walk_at "w"
    exact q
/-- a sieve of f, or None if there is nothing -/
def ResK (K : PySem.W.Frag) (H : Hp) (f : Nat → Bool) (p : Nat) (Q : VK) : Prop :=
  ((∀ n, f n = false) → ∀ H', Same H H' → Q .non H') ∧ ((∃ n, f n = true) → ∀ b m H', Same H H' → (∀ n, kp m n = f n) → m.length ∣ p → SieveAt K H' b m → Q (.ref b) H')
theorem ResK.mono {H H' : Hp} {f : Nat → Bool} {p : Nat} {Q : VK} (h : ResK K H f p Q) (e : Same H H') : ResK K H' f p Q := ⟨fun z H2 e2 => h.1 z H2 (e.trans e2), fun ex b m H2 e2 => h.2 ex b m H2 (e.trans e2)⟩
theorem svFrom_of {H : Hp} {D : Addr} {g : Nat → Bool} {p : Nat} {Q : VK} {E : XK} (hper : Per g p) (h0 : 0 < p) (hp : p ≤ 10000) (hD : SqL K H D (((sel g p).map fun n => ((n : Nat) : Int)).map V.int)) (hlen : ct g p < 4090) (q : ResK K H g p Q) : spSvFrom K [.ref D, .int (p : Nat)] H Q E := by
  refine ⟨D, _, p, rfl, hD, by rw [List.length_map, sel_len]; exact hlen, h0, hp, ?_⟩
  by_cases hx : ∃ n, g n = true
  · refine .inr ⟨g, fun z => ?_, hper, hx, fun i hi => sel_any g p hi, fun b m H' e hk hd hs => q.2 hx b m H' e hk hd hs⟩
    obtain ⟨n, hn⟩ := hx
    have h1 : n % p ∈ sel g p := sel_mem.mpr ⟨Nat.mod_lt _ h0, by rw [hper.mod]; exact hn⟩
    rw [List.map_eq_nil_iff] at z
    rw [z] at h1
    cases h1
  · have hf : ∀ n, g n = false := fun n => by
      cases e : g n with
      | false => rfl
      | true => exact absurd ⟨n, e⟩ hx
    refine .inl ⟨?_, q.1 hf H (Same.refl _)⟩
    rw [List.map_eq_nil_iff, ← List.length_eq_zero_iff, sel_len]
    have : ∀ n, ct g n = 0 := fun n => by
      induction n with
      | zero => rfl
      | succ n ih => rw [ct_succ_f (hf n), ih]
    exact this p
theorem per_or {f g : Nat → Bool} {a b : Nat} (o : Bool → Bool → Bool) (ha : Per f a) (hb : Per g b) : Per (fun n => o (f n) (g n)) (Nat.lcm a b) := fun i => by
  show o (f (i + _)) (g (i + _)) = _
  rw [ha.dvd (Nat.dvd_lcm_left a b), hb.dvd (Nat.dvd_lcm_right a b)]
def spSet2 (K : PySem.W.Frag) (o : Bool → Bool → Bool) : Sp := fun vs H Q _ => ∃ (a b : Addr) (l m : List Bool), vs = [.ref a, .ref b] ∧ SieveAt K H a l ∧ SieveAt K H b m ∧ Nat.lcm l.length m.length ≤ 10000 ∧ ct (fun n => o (kp l n) (kp m n)) (Nat.lcm l.length m.length) < 4090 ∧ ResK K H (fun n => o (kp l n) (kp m n)) (Nat.lcm l.length m.length) Q
theorem ok_union (F : FunD K "union" "union" (defArgs s_union) (defBody s_union) (defScope s_union) [] [] f fd) (hb : ∀ x ∈ BB, mg x = none) (h1 : Fn P w K mg base "common_period" 5 (spCPer K)) (h3 : Fn P w K mg base "sieve_from" 6 (spSvFrom K)) (h5 : Mth P w K mg base (cS K) "is_kept" 4 (spKept K)) : FnR P w K mg base (L2.CX P w) 7 f (spSet2 K fun x y => x || y) := by
  refine fnr_of F sc_union (fun vs H Q E h => ?_) (fun kV doc pm an cdv ct us hl => match us, hl with | [_, _], _ => rfl) (fun x hx => hb x (by revert x; decide +kernel)) fun cd A outer s H vs Q E hr hc h => ?_
  · obtain ⟨a, b, l, m, rfl, _⟩ := h; rfl
  · obtain ⟨a, b, l, m, rfl, ha, hb2, hP, hcap, q⟩ := h
    have hz : sizeLine = 16777216 := sizeLine_eq
    have hL0 := Nat.lcm_pos ha.1.one hb2.1.one
    refine wl_start (σ' := [some (.ref a), some (.ref b), none, none]) rfl (wl_cons ?_)
    walk_at "w"
    refine w_call hc (by walk_at "mb") h1 hr (by decide) passL ?_
    walk_at "w"
    refine ⟨a, b, l, m, rfl, ha, hb2, hP, ?_⟩
    walk_at "w"
    refine w_call hc (by walk_at "mb") h3 hr (by decide) passL ?_
    walk_at "w"
    refine w_lc hc (own := bO_union_0) (by kernel_rfl) (fun i acc => acc = ((sel (fun n => kp l n || kp m n) i).map fun n => ((n : Nat) : Int)).map V.int) ?_
    refine wi_range1 hc (by walk_at "mb") ?_
    walk_at "w"
    refine ⟨by omega, by omega, _, _, wlk_range, by omega, rfl, fun i acc H' hi hl hP2 hS => ?_, fun acc D H' hl hP2 hD hS hDa => ?_⟩
    · intro X1 b1
      have c1 := nm_blk (L' := bL_union_0) (S' := bS_union_0) (G' := bG_union_0) (B' := bB_union_0) b1 hc (by kernel_rfl) (fun x hx => nomatch hx)
      simp only [wipe, List.map_cons, List.map_nil, List.set_cons_succ, List.set_cons_zero]
      rw [show (0 : Int) + (i : Nat) = ((i : Nat) : Int) by omega]
      walk_at "w"
      refine ⟨rfl, rfl, ?_⟩
      intro X2 b2
      refine wts_one ?_
      have c2 := nm_blk (L' := bL_union_0) (S' := bS_union_0) (G' := bG_union_0) (B' := bB_union_0) b2 hc (by kernel_rfl) (fun x hx => nomatch hx)
      obtain ⟨_, _, _, _, _, rfl⟩ := b2
      have ha3 := ha.same hS
      have hb3 := hb2.same hS
      obtain ⟨_, dx, p, hi1, hi2⟩ := id ha3
      obtain ⟨_, dx2, p2, hi3, hi4⟩ := id hb3
      walk_at "w"
      refine w_meth h5 hr (by decide) passL ?_
      walk_at "w"
      refine ⟨_, _, _, rfl, hi1, rfl, ?_⟩
      walk_at "w"
      refine ⟨a, l, i, rfl, ha3, ?_⟩
      cases hk1 : kp l i with
      | true =>
        walk_at "w"
        refine ⟨Same.refl _, ite_t ?_⟩
        intro X3 b3
        have c3 := nm_blk (L' := bL_union_0) (S' := bS_union_0) (G' := bG_union_0) (B' := bB_union_0) b3 hc (by kernel_rfl) (fun x hx => nomatch hx)
        walk_at "w"
        refine ⟨Same.refl _, ?_⟩
        rw [hP2, sel_step, (show (kp l i || kp m i) = true by rw [hk1]; rfl), if_pos rfl, List.map_append, List.map_append]; rfl
      | false =>
        walk_at "w"
        refine w_meth h5 hr (by decide) passL ?_
        walk_at "w"
        refine ⟨_, _, _, rfl, hi3, rfl, ?_⟩
        walk_at "w"
        refine ⟨b, m, i, rfl, hb3, ?_⟩
        cases hk2 : kp m i with
        | true =>
          walk_at "w"
          refine ⟨Same.refl _, ite_t ?_⟩
          intro X3 b3
          have c3 := nm_blk (L' := bL_union_0) (S' := bS_union_0) (G' := bG_union_0) (B' := bB_union_0) b3 hc (by kernel_rfl) (fun x hx => nomatch hx)
          walk_at "w"
          refine ⟨Same.refl _, ?_⟩
          rw [hP2, sel_step, (show (kp l i || kp m i) = true by rw [hk1, hk2]; rfl), if_pos rfl, List.map_append, List.map_append]; rfl
        | false =>
          walk_at "w"
          refine ⟨Same.refl _, ite_f ?_⟩
          rw [hP2, sel_step, (show (kp l i || kp m i) = false by rw [hk1, hk2]; rfl)]; simp
    · rw [Int.toNat_natCast] at hP2
      walk_at "w"
      exact svFrom_of (per_or (fun x y => x || y) (kp_per l) (kp_per m)) hL0 hP (.inl (.inl (by rw [hDa, hP2]))) hcap (q.mono hS)
theorem ok_intersection (F : FunD K "intersection" "intersection" (defArgs s_intersection) (defBody s_intersection) (defScope s_intersection) [] [] f fd) (hb : ∀ x ∈ BB, mg x = none) (h1 : Fn P w K mg base "common_period" 5 (spCPer K)) (h3 : Fn P w K mg base "sieve_from" 6 (spSvFrom K)) (h5 : Mth P w K mg base (cS K) "is_kept" 4 (spKept K)) : FnR P w K mg base (L2.CX P w) 7 f (spSet2 K fun x y => x && y) := by
  refine fnr_of F sc_intersection (fun vs H Q E h => ?_) (fun kV doc pm an cdv ct us hl => match us, hl with | [_, _], _ => rfl) (fun x hx => hb x (by revert x; decide +kernel)) fun cd A outer s H vs Q E hr hc h => ?_
  · obtain ⟨a, b, l, m, rfl, _⟩ := h; rfl
  · obtain ⟨a, b, l, m, rfl, ha, hb2, hP, hcap, q⟩ := h
    have hz : sizeLine = 16777216 := sizeLine_eq
    have hL0 := Nat.lcm_pos ha.1.one hb2.1.one
    refine wl_start (σ' := [some (.ref a), some (.ref b), none, none]) rfl (wl_cons ?_)
    walk_at "w"
    refine w_call hc (by walk_at "mb") h1 hr (by decide) passL ?_
    walk_at "w"
    refine ⟨a, b, l, m, rfl, ha, hb2, hP, ?_⟩
    walk_at "w"
    refine w_call hc (by walk_at "mb") h3 hr (by decide) passL ?_
    walk_at "w"
    refine w_lc hc (own := bO_intersection_0) (by kernel_rfl) (fun i acc => acc = ((sel (fun n => kp l n && kp m n) i).map fun n => ((n : Nat) : Int)).map V.int) ?_
    refine wi_range1 hc (by walk_at "mb") ?_
    walk_at "w"
    refine ⟨by omega, by omega, _, _, wlk_range, by omega, rfl, fun i acc H' hi hl hP2 hS => ?_, fun acc D H' hl hP2 hD hS hDa => ?_⟩
    · intro X1 b1
      have c1 := nm_blk (L' := bL_intersection_0) (S' := bS_intersection_0) (G' := bG_intersection_0) (B' := bB_intersection_0) b1 hc (by kernel_rfl) (fun x hx => nomatch hx)
      simp only [wipe, List.map_cons, List.map_nil, List.set_cons_succ, List.set_cons_zero]
      rw [show (0 : Int) + (i : Nat) = ((i : Nat) : Int) by omega]
      walk_at "w"
      refine ⟨rfl, rfl, ?_⟩
      intro X2 b2
      refine wts_one ?_
      have c2 := nm_blk (L' := bL_intersection_0) (S' := bS_intersection_0) (G' := bG_intersection_0) (B' := bB_intersection_0) b2 hc (by kernel_rfl) (fun x hx => nomatch hx)
      obtain ⟨_, _, _, _, _, rfl⟩ := b2
      have ha3 := ha.same hS
      have hb3 := hb2.same hS
      obtain ⟨_, dx, p, hi1, hi2⟩ := id ha3
      obtain ⟨_, dx2, p2, hi3, hi4⟩ := id hb3
      walk_at "w"
      refine w_meth h5 hr (by decide) passL ?_
      walk_at "w"
      refine ⟨_, _, _, rfl, hi1, rfl, ?_⟩
      walk_at "w"
      refine ⟨a, l, i, rfl, ha3, ?_⟩
      cases hk1 : kp l i with
      | false =>
        walk_at "w"
        refine ⟨Same.refl _, ite_f ?_⟩
        rw [hP2, sel_step, (show (kp l i && kp m i) = false by rw [hk1]; rfl)]; simp
      | true =>
        walk_at "w"
        refine w_meth h5 hr (by decide) passL ?_
        walk_at "w"
        refine ⟨_, _, _, rfl, hi3, rfl, ?_⟩
        walk_at "w"
        refine ⟨b, m, i, rfl, hb3, ?_⟩
        cases hk2 : kp m i with
        | true =>
          walk_at "w"
          refine ⟨Same.refl _, ite_t ?_⟩
          intro X3 b3
          have c3 := nm_blk (L' := bL_intersection_0) (S' := bS_intersection_0) (G' := bG_intersection_0) (B' := bB_intersection_0) b3 hc (by kernel_rfl) (fun x hx => nomatch hx)
          walk_at "w"
          refine ⟨Same.refl _, ?_⟩
          rw [hP2, sel_step, (show (kp l i && kp m i) = true by rw [hk1, hk2]; rfl), if_pos rfl, List.map_append, List.map_append]; rfl
        | false =>
          walk_at "w"
          refine ⟨Same.refl _, ite_f ?_⟩
          rw [hP2, sel_step, (show (kp l i && kp m i) = false by rw [hk1, hk2]; rfl)]; simp
    · rw [Int.toNat_natCast] at hP2
      walk_at "w"
      exact svFrom_of (per_or (fun x y => x && y) (kp_per l) (kp_per m)) hL0 hP (.inl (.inl (by rw [hDa, hP2]))) hcap (q.mono hS)
theorem ok_difference (F : FunD K "difference" "difference" (defArgs s_difference) (defBody s_difference) (defScope s_difference) [] [] f fd) (hb : ∀ x ∈ BB, mg x = none) (h1 : Fn P w K mg base "common_period" 5 (spCPer K)) (h3 : Fn P w K mg base "sieve_from" 6 (spSvFrom K)) (h5 : Mth P w K mg base (cS K) "is_kept" 4 (spKept K)) : FnR P w K mg base (L2.CX P w) 7 f (spSet2 K fun x y => x && !y) := by
  refine fnr_of F sc_difference (fun vs H Q E h => ?_) (fun kV doc pm an cdv ct us hl => match us, hl with | [_, _], _ => rfl) (fun x hx => hb x (by revert x; decide +kernel)) fun cd A outer s H vs Q E hr hc h => ?_
  · obtain ⟨a, b, l, m, rfl, _⟩ := h; rfl
  · obtain ⟨a, b, l, m, rfl, ha, hb2, hP, hcap, q⟩ := h
    have hz : sizeLine = 16777216 := sizeLine_eq
    have hL0 := Nat.lcm_pos ha.1.one hb2.1.one
    refine wl_start (σ' := [some (.ref a), some (.ref b), none, none]) rfl (wl_cons ?_)
    walk_at "w"
    refine w_call hc (by walk_at "mb") h1 hr (by decide) passL ?_
    walk_at "w"
    refine ⟨a, b, l, m, rfl, ha, hb2, hP, ?_⟩
    walk_at "w"
    refine w_call hc (by walk_at "mb") h3 hr (by decide) passL ?_
    walk_at "w"
    refine w_lc hc (own := bO_difference_0) (by kernel_rfl) (fun i acc => acc = ((sel (fun n => kp l n && !kp m n) i).map fun n => ((n : Nat) : Int)).map V.int) ?_
    refine wi_range1 hc (by walk_at "mb") ?_
    walk_at "w"
    refine ⟨by omega, by omega, _, _, wlk_range, by omega, rfl, fun i acc H' hi hl hP2 hS => ?_, fun acc D H' hl hP2 hD hS hDa => ?_⟩
    · intro X1 b1
      have c1 := nm_blk (L' := bL_difference_0) (S' := bS_difference_0) (G' := bG_difference_0) (B' := bB_difference_0) b1 hc (by kernel_rfl) (fun x hx => nomatch hx)
      simp only [wipe, List.map_cons, List.map_nil, List.set_cons_succ, List.set_cons_zero]
      rw [show (0 : Int) + (i : Nat) = ((i : Nat) : Int) by omega]
      walk_at "w"
      refine ⟨rfl, rfl, ?_⟩
      intro X2 b2
      refine wts_one ?_
      have c2 := nm_blk (L' := bL_difference_0) (S' := bS_difference_0) (G' := bG_difference_0) (B' := bB_difference_0) b2 hc (by kernel_rfl) (fun x hx => nomatch hx)
      obtain ⟨_, _, _, _, _, rfl⟩ := b2
      have ha3 := ha.same hS
      have hb3 := hb2.same hS
      obtain ⟨_, dx, p, hi1, hi2⟩ := id ha3
      obtain ⟨_, dx2, p2, hi3, hi4⟩ := id hb3
      walk_at "w"
      refine w_meth h5 hr (by decide) passL ?_
      walk_at "w"
      refine ⟨_, _, _, rfl, hi1, rfl, ?_⟩
      walk_at "w"
      refine ⟨a, l, i, rfl, ha3, ?_⟩
      refine w_meth h5 hr (by decide) passL ?_
      walk_at "w"
      refine ⟨_, _, _, rfl, hi3, rfl, ?_⟩
      walk_at "w"
      refine ⟨b, m, i, rfl, hb3, ?_⟩
      refine b_gtB ?_
      refine ⟨_, rfl, ?_⟩
      cases hk : (kp l i && !kp m i) with
      | true =>
        refine ⟨Same.refl _, ite_t ?_⟩
        intro X3 b3
        have c3 := nm_blk (L' := bL_difference_0) (S' := bS_difference_0) (G' := bG_difference_0) (B' := bB_difference_0) b3 hc (by kernel_rfl) (fun x hx => nomatch hx)
        walk_at "w"
        refine ⟨Same.refl _, ?_⟩
        rw [hP2, sel_step, hk, if_pos rfl, List.map_append, List.map_append]; rfl
      | false =>
        refine ⟨Same.refl _, ite_f ?_⟩
        rw [hP2, sel_step, hk]; simp
    · rw [Int.toNat_natCast] at hP2
      walk_at "w"
      exact svFrom_of (per_or (fun x y => x && !y) (kp_per l) (kp_per m)) hL0 hP (.inl (.inl (by rw [hDa, hP2]))) hcap (q.mono hS)
def spCompl (K : PySem.W.Frag) : Sp := fun vs H Q _ => ∃ (a : Addr) (l : List Bool), vs = [.ref a] ∧ SieveAt K H a l ∧ l.length < 4090 ∧ ResK K H (fun n => !kp l n) l.length Q
theorem ok_complement (F : FunD K "complement" "complement" (defArgs s_complement) (defBody s_complement) (defScope s_complement) [] [] f fd) (hb : ∀ x ∈ BB, mg x = none) (SC : SvC K mg) (h3 : Fn P w K mg base "sieve_from" 6 (spSvFrom K)) (h5 : Mth P w K mg base (cS K) "is_kept" 4 (spKept K)) (h7 : SvP P w K mg base "period" (spPer K)) : FnR P w K mg base (L2.CX P w) 7 f (spCompl K) := by
  refine fnr_of F sc_complement (fun vs H Q E h => ?_) (fun kV doc pm an cdv ct us hl => match us, hl with | [_], _ => rfl) (fun x hx => hb x (by revert x; decide +kernel)) fun cd A outer s H vs Q E hr hc h => ?_
  · obtain ⟨a, l, rfl, _⟩ := h; rfl
  · obtain ⟨a, l, rfl, ha, hcap, q⟩ := h
    have hz : sizeLine = 16777216 := sizeLine_eq
    have l1 := ha.1.one
    have l2 := ha.1.most
    refine wl_start (σ' := [some (.ref a), none]) rfl (wl_cons ?_)
    walk_at "w"
    refine w_call hc (by walk_at "mb") h3 hr (by decide) passL ?_
    walk_at "w"
    refine w_lc hc (own := bO_complement_0) (by kernel_rfl) (fun i acc => acc = ((sel (fun n => !kp l n) i).map fun n => ((n : Nat) : Int)).map V.int) ?_
    refine wi_range1 hc (by walk_at "mb") ?_
    walk_at "w"
    refine a_svp SC h7 hr (by decide) ha ⟨a, l, rfl, ha, ?_⟩
    refine ⟨_, rfl, by omega, by omega, _, _, wlk_range, by omega, rfl, fun i acc H' hi hl hP2 hS => ?_, fun acc D H' hl hP2 hD hS hDa => ?_⟩
    · intro X1 b1
      have c1 := nm_blk (L' := bL_complement_0) (S' := bS_complement_0) (G' := bG_complement_0) (B' := bB_complement_0) b1 hc (by kernel_rfl) (fun x hx => nomatch hx)
      simp only [wipe, List.map_cons, List.map_nil, List.set_cons_succ, List.set_cons_zero]
      rw [show (0 : Int) + (i : Nat) = ((i : Nat) : Int) by omega]
      walk_at "w"
      refine ⟨rfl, rfl, ?_⟩
      intro X2 b2
      refine wts_one ?_
      have c2 := nm_blk (L' := bL_complement_0) (S' := bS_complement_0) (G' := bG_complement_0) (B' := bB_complement_0) b2 hc (by kernel_rfl) (fun x hx => nomatch hx)
      obtain ⟨_, _, _, _, _, rfl⟩ := b2
      have ha3 := ha.same hS
      obtain ⟨_, dx, p, hi1, hi2⟩ := id ha3
      walk_at "w"
      refine w_meth h5 hr (by decide) passL ?_
      walk_at "w"
      refine ⟨_, _, _, rfl, hi1, rfl, ?_⟩
      walk_at "w"
      refine ⟨a, l, i, rfl, ha3, ?_⟩
      refine ⟨_, tru_bl, ?_⟩
      cases hk : kp l i with
      | true =>
        refine ⟨Same.refl _, ite_nt ?_⟩
        rw [hP2, sel_step, hk]; simp
      | false =>
        refine ⟨Same.refl _, ite_nf ?_⟩
        intro X3 b3
        have c3 := nm_blk (L' := bL_complement_0) (S' := bS_complement_0) (G' := bG_complement_0) (B' := bB_complement_0) b3 hc (by kernel_rfl) (fun x hx => nomatch hx)
        walk_at "w"
        refine ⟨Same.refl _, ?_⟩
        rw [hP2, sel_step, hk, List.map_append, List.map_append]; rfl
    · rw [Int.toNat_natCast] at hP2
      walk_at "w"
      refine a_svp SC h7 hr (by decide) (ha.same hS) ⟨a, l, rfl, ha.same hS, ?_⟩
      walk_at "w"
      exact svFrom_of (fun i => by show (!kp l (i + l.length)) = _; rw [kp_per l]) l1 l2 (.inl (.inl (by rw [hDa, hP2]))) (Nat.lt_of_le_of_lt (ct_le _ _) hcap) (q.mono hS)
def spShift (K : PySem.W.Frag) : Sp := fun vs H Q _ => ∃ (a : Addr) (l : List Bool) (off : Int), vs = [.ref a, .int off] ∧ SieveAt K H a l ∧ l.length < 4090 ∧ ∀ b m H', Same H H' → (∀ n : Nat, kp m n = kp l (((n : Int) + off) % (l.length : Int)).toNat) → m.length ∣ l.length → SieveAt K H' b m → Q (.ref b) H'
theorem shift_per (l : List Bool) (off : Int) : Per (fun n : Nat => kp l (((n : Int) + off) % (l.length : Int)).toNat) l.length := fun i => by
  show kp l ((((i + l.length : Nat) : Int) + off) % (l.length : Int)).toNat = _
  rw [show ((i + l.length : Nat) : Int) + off = ((i : Int) + off) + (l.length : Int) by omega, Int.add_emod_right]
theorem shift_ex {l : List Bool} (p : Pat l) (off : Int) : ∃ n : Nat, kp l (((n : Int) + off) % (l.length : Int)).toNat = true := by
  obtain ⟨i, hi, e⟩ := plus_kp p.plus
  have h0 := p.one
  refine ⟨(((i : Int) - off) % (l.length : Int)).toNat, ?_⟩
  rw [Int.toNat_of_nonneg (Int.emod_nonneg _ (by omega)), Int.emod_add_emod, show (i : Int) - off + off = (i : Int) by omega, Int.emod_eq_of_lt (by omega) (by omega)]
  simpa using e
/-- the numbers that survivors hands out -/
def surv (f : Nat → Bool) (i j : Nat) : List Nat := sel (fun n => decide (i ≤ n) && f n) j
theorem sel_gap {g : Nat → Bool} {M M' : Nat} (h : M ≤ M') (k : ∀ m, M ≤ m → m < M' → g m = false) : sel g M' = sel g M := by
  induction h with
  | refl => rfl
  | step h ih =>
    rename_i m
    rw [sel_step, k m h (by omega), ih fun m' h1 h2 => k m' h1 (by omega)]
    simp
theorem ct_gap {f : Nat → Bool} {M M' : Nat} (h : ct f M = ct f M') {m : Nat} (h1 : M ≤ m) (h2 : m < M') : f m = false := by
  cases e : f m with
  | false => rfl
  | true =>
    have a := ct_mono f h1
    have b := ct_lt e h2
    omega
def spSurv (K : PySem.W.Frag) : SpG := fun vs H Q _ => ∃ (a : Addr) (l : List Bool) (i j : Nat), vs = [.ref a, .int i, .int j] ∧ SieveAt K H a l ∧ i < 1000000000 ∧ j < 1000000000 ∧ ct (kp l) j < 16000000 ∧ ∀ H', Same H H' → Q (((surv (kp l) i j).map fun n => ((n : Nat) : Int)).map V.int) H'
/-- how many periods of a dealer, s of one kept and t struck, until both sides begin anew -/
def dP (s t m k : Nat) : Nat := if 0 < t then Nat.lcm (Nat.lcm s m / s) (Nat.lcm t k / t) else Nat.lcm s m / s
theorem dP_a {s m : Nat} (hs : 0 < s) : m ∣ s * (Nat.lcm s m / s) := by
  rw [Nat.mul_div_cancel' (Nat.dvd_lcm_left s m)]
  exact Nat.dvd_lcm_right s m
theorem dP_b {s m q : Nat} (hs : 0 < s) (h : m ∣ s * q) : Nat.lcm s m / s ∣ q := by
  have h1 : Nat.lcm s m ∣ s * q := Nat.lcm_dvd (Nat.dvd_mul_right _ _) h
  obtain ⟨c, hc⟩ := h1
  refine ⟨c, ?_⟩
  apply Nat.eq_of_mul_eq_mul_left hs
  rw [hc, ← Nat.mul_assoc, Nat.mul_div_cancel' (Nat.dvd_lcm_left s m)]
theorem dP_0 {s m : Nat} (hs : 0 < s) (hm : 0 < m) : 0 < Nat.lcm s m / s := Nat.div_pos (Nat.le_of_dvd (Nat.lcm_pos hs hm) (Nat.dvd_lcm_left s m)) hs
theorem dP_pos {s t m k : Nat} (hs : 0 < s) (hm : 0 < m) (hk : 0 < k) : 0 < dP s t m k := by
  unfold dP
  split
  · rename_i ht
    exact Nat.lcm_pos (dP_0 hs hm) (dP_0 ht hk)
  · exact dP_0 hs hm
theorem dP_one {s t m k : Nat} (hs : 0 < s) : m ∣ s * dP s t m k := by
  refine Nat.dvd_trans (dP_a hs) (Nat.mul_dvd_mul_left s ?_)
  unfold dP
  split
  · exact Nat.dvd_lcm_left _ _
  · exact Nat.dvd_refl _
theorem dP_two {s t m k : Nat} : k ∣ t * dP s t m k := by
  by_cases ht : 0 < t
  · refine Nat.dvd_trans (dP_a ht) (Nat.mul_dvd_mul_left t ?_)
    unfold dP
    rw [if_pos ht]
    exact Nat.dvd_lcm_right _ _
  · have : t = 0 := by omega
    rw [this, Nat.zero_mul]
    exact Nat.dvd_zero _
theorem dP_min {s t m k q : Nat} (hs : 0 < s) (h1 : m ∣ s * q) (h2 : k ∣ t * q) : dP s t m k ∣ q := by
  unfold dP
  split
  · rename_i ht
    exact Nat.lcm_dvd (dP_b hs h1) (dP_b ht h2)
  · exact dP_b hs h1
theorem dP_le {s t m k : Nat} (hs : 0 < s) (hm : 0 < m) (hk : 0 < k) : dP s t m k ≤ m * k :=
  Nat.le_of_dvd (Nat.mul_pos hm hk) (dP_min hs (Nat.dvd_trans (Nat.dvd_mul_right m k) (Nat.dvd_mul_left _ _)) (Nat.dvd_trans (Nat.dvd_mul_left k m) (Nat.dvd_mul_left _ _)))
/-- how many periods, of a sieve's pattern -/
def dQ (l m k : List Bool) : Nat := dP (ct (kp l) l.length) (l.length - ct (kp l) l.length) m.length k.length
def spDealP (K : PySem.W.Frag) : Sp := fun vs H Q _ => ∃ (a b c : Addr) (l m k : List Bool), vs = [.ref a, .ref b, .ref c] ∧ SieveAt K H a l ∧ SieveAt K H b m ∧ SieveAt K H c k ∧ Q (.int (dQ l m k : Nat)) H
/-- what is dealt -/
def dlt (f g h : Nat → Bool) (n : Nat) : Bool := if f n then g (ct f n) else h (n - ct f n)
theorem dlt_t {f g h : Nat → Bool} {n : Nat} (e : f n = true) : dlt f g h n = g (ct f n) := by unfold dlt; rw [e]; rfl
theorem dlt_f {f g h : Nat → Bool} {n : Nat} (e : f n = false) : dlt f g h n = h (n - ct f n) := by unfold dlt; rw [e]; rfl
theorem dlt_per {f g h : Nat → Bool} {p q m k : Nat} (hf : Per f p) (hg : Per g m) (hh : Per h k) (h1 : m ∣ ct f p * q) (h2 : k ∣ (p - ct f p) * q) : Per (dlt f g h) (p * q) := fun n => by
  have e1 : f (n + p * q) = f n := hf.dvd (Nat.dvd_mul_right _ _) n
  have e2 : ct f (n + p * q) = ct f n + ct f p * q := by
    rw [Nat.add_comm n, Nat.mul_comm p, ct_mul hf, Nat.add_comm, Nat.mul_comm q]
  have e3 : n + p * q - ct f (n + p * q) = n - ct f n + (p - ct f p) * q := by
    rw [e2, Nat.sub_mul]
    have := ct_le f n
    have := Nat.mul_le_mul_right q (ct_le f p)
    omega
  unfold dlt
  rw [e1, e3, e2, hg.dvd h1, hh.dvd h2]
theorem ct_dlt (f g h : Nat → Bool) (n : Nat) : ct (dlt f g h) n = ct g (ct f n) + ct h (n - ct f n) := by
  induction n with
  | zero => rfl
  | succ n ih =>
    have hl := ct_le f n
    cases e : f n with
    | true =>
      rw [ct_succ_t e, ct_succ, ih, dlt_t e, ct_succ, show n + 1 - (ct f n + 1) = n - ct f n by omega]
      omega
    | false =>
      rw [ct_succ_f e, ct_succ, ih, dlt_f e, show n + 1 - ct f n = (n - ct f n) + 1 by omega, ct_succ]
      omega
theorem dlt_ex {f g h : Nat → Bool} {p : Nat} (hf : Per f p) (hp : 0 < ct f p) (hg : ∃ i, g i = true) : ∃ n, dlt f g h n = true := by
  obtain ⟨i, hi⟩ := hg
  obtain ⟨n, a, b⟩ := nth_of hf hp i
  exact ⟨n, by rw [dlt_t a, b, hi]⟩
def spDeal (K : PySem.W.Frag) : Sp := fun vs H Q _ => ∃ (a b c : Addr) (l m k : List Bool), vs = [.ref a, .ref b, .ref c] ∧ SieveAt K H a l ∧ SieveAt K H b m ∧ SieveAt K H c k ∧ l.length * dQ l m k < 4090 ∧ ResK K H (dlt (kp l) (kp m) (kp k)) (l.length * dQ l m k) Q
theorem ct_not (f : Nat → Bool) (n : Nat) : ct (fun n => !f n) n = n - ct f n := by
  have : ct (fun n => !f n) n + ct f n = n := by
    induction n with
    | zero => rfl
    | succ n ih =>
      cases e : f n with
      | true => rw [ct_succ_t e, ct_succ_f (f := fun n => !f n) (by show (!f n) = false; rw [e]; rfl)]; omega
      | false => rw [ct_succ_f e, ct_succ_t (f := fun n => !f n) (by show (!f n) = true; rw [e]; rfl)]; omega
  omega
theorem dlt_not (f g h : Nat → Bool) (n : Nat) : dlt (fun n => !f n) h g n = dlt f g h n := by
  have hl := ct_le f n
  cases e : f n with
  | true =>
    rw [dlt_t e, dlt_f (f := fun n => !f n) (by show (!f n) = false; rw [e]; rfl), ct_not]
    congr 1; omega
  | false =>
    rw [dlt_f e, dlt_t (f := fun n => !f n) (by show (!f n) = true; rw [e]; rfl), ct_not]
theorem dlt_or (f g h : Nat → Bool) (n : Nat) : dlt f g h n = (cmp f g n || cmp (fun n => !f n) h n) := by
  show (if f n then g (ct f n) else h (n - ct f n)) = ((f n && g (ct f n)) || ((!f n) && h (ct (fun n => !f n) n)))
  rw [ct_not]
  cases f n <;> simp
theorem ct_all {f : Nat → Bool} (h : ∀ n, f n = true) (n : Nat) : ct f n = n := by
  rw [show f = fun _ => true from funext h, ct_true]
theorem cmp_per2 {f g : Nat → Bool} {p q m : Nat} (hf : Per f p) (hg : Per g m) (h : m ∣ ct f p * q) : Per (cmp f g) (p * q) := fun n => by
  have e1 : f (n + p * q) = f n := hf.dvd (Nat.dvd_mul_right _ _) n
  have e2 : ct f (n + p * q) = ct f n + ct f p * q := by
    rw [Nat.add_comm n, Nat.mul_comm p, ct_mul hf, Nat.add_comm, Nat.mul_comm q]
  unfold cmp
  rw [e1, e2, hg.dvd h]
theorem not_per {f : Nat → Bool} {p : Nat} (h : Per f p) : Per (fun n => !f n) p := fun n => by
  show (!f (n + p)) = !f n
  rw [h]
theorem dQ_le {l m k : List Bool} {x y z : Nat} (gl : Pat l) (gm : Pat m) (gk : Pat k) (h1 : l.length ≤ x) (h2 : m.length ≤ y) (h3 : k.length ≤ z) : l.length * dQ l m k ≤ x * (y * z) :=
  Nat.mul_le_mul h1 (Nat.le_trans (dP_le gl.size gm.one gk.one) (Nat.mul_le_mul h2 h3))
theorem dQ_pos {l m k : List Bool} (gl : Pat l) (gm : Pat m) (gk : Pat k) : 0 < l.length * dQ l m k := Nat.mul_pos gl.one (dP_pos gl.size gm.one gk.one)

/-- the indices that h has in f, over P numbers -/
def qt (f h : Nat → Bool) (P i : Nat) : Bool := ((surv h 0 P).map (ct f)).any (· == i % ct f P)
theorem qt_per (f h : Nat → Bool) (P : Nat) : Per (qt f h P) (ct f P) := fun i => by
  unfold qt
  rw [Nat.add_mod_right]
theorem surv_mem {h : Nat → Bool} {P n : Nat} : n ∈ surv h 0 P ↔ n < P ∧ h n = true := by
  unfold surv
  rw [sel_mem]
  simp
theorem qt_cmp {f h : Nat → Bool} {P : Nat} (hf : Per f P) (hh : Per h P) (h0 : 0 < P) (hc : ∀ n, h n = true → f n = true) (n : Nat) : cmp f (qt f h P) n = h n := by
  have hlt := Nat.mod_lt n h0
  have fm : f (n % P) = f n := hf.mod n
  have hm : h (n % P) = h n := hh.mod n
  have e : f n = true → ct f n % ct f P = ct f (n % P) := fun e => by
    rw [ct_mod hf n, Nat.add_comm, Nat.add_mul_mod_self_right]
    exact Nat.mod_eq_of_lt (ct_lt (by rw [fm]; exact e) hlt)
  rw [Bool.eq_iff_iff]
  unfold cmp qt
  rw [Bool.and_eq_true, List.any_eq_true]
  constructor
  · rintro ⟨h1, x, hx, hx2⟩
    obtain ⟨k, hk, rfl⟩ := List.mem_map.mp hx
    obtain ⟨k1, k2⟩ := surv_mem.mp hk
    have e2 : ct f k = ct f n % ct f P := by simpa using hx2
    rw [e h1] at e2
    have := ct_inj (hc k k2) (show f (n % P) = true by rw [fm]; exact h1) e2
    rw [← hm, ← this]
    exact k2
  · intro h1
    have h2 := hc n h1
    exact ⟨h2, ct f (n % P), List.mem_map.mpr ⟨n % P, surv_mem.mpr ⟨hlt, by rw [hm]; exact h1⟩, rfl⟩, by rw [e h2]; simp⟩
theorem qt_ex {f h : Nat → Bool} {P : Nat} (hf : Per f P) (hh : Per h P) (h0 : 0 < P) (hc : ∀ n, h n = true → f n = true) (hx : ∃ n, h n = true) : ∃ i, qt f h P i = true := by
  obtain ⟨n, hn⟩ := hx
  have := qt_cmp hf hh h0 hc n
  rw [hn] at this
  unfold cmp at this
  exact ⟨ct f n, by rw [Bool.and_eq_true] at this; exact this.2⟩
theorem surv_len_le (h : Nat → Bool) (P : Nat) : (surv h 0 P).length ≤ P := by
  unfold surv
  rw [sel_len]
  exact ct_le _ _
def spContin (K : PySem.W.Frag) : Sp := fun vs H Q _ => ∃ (a b : Addr) (l m : List Bool), vs = [.ref a, .ref b] ∧ SieveAt K H a l ∧ SieveAt K H b m ∧ Nat.lcm l.length m.length < 4090 ∧ ((∃ n, kp m n = true ∧ kp l n = false) → ∀ H', Same H H' → Q .non H') ∧
  ((∀ n, kp m n = true → kp l n = true) → ∀ c r H', Same H H' → (∀ n, cmp (kp l) (kp r) n = kp m n) → r.length ∣ ct (kp l) (Nat.lcm l.length m.length) → SieveAt K H' c r → Q (.ref c) H')
def spFDiff (K : PySem.W.Frag) : Sp := fun vs H Q _ => ∃ (a b : Addr) (l m : List Bool), vs = [.ref a, .ref b] ∧ SieveAt K H a l ∧ SieveAt K H b m ∧ Nat.lcm l.length m.length ≤ 10000 ∧ ((∀ n, kp l n = kp m n) → Q .non H) ∧ ∀ n : Nat, (∀ j, j < n → kp l j = kp m j) → kp l n ≠ kp m n → Q (.int (n : Nat)) H
/-- only where the first keeps all that the second keeps -/
def spAhead (K : PySem.W.Frag) : Sp := fun vs H Q _ => ∃ (a b : Addr) (l m : List Bool), vs = [.ref a, .ref b] ∧ SieveAt K H a l ∧ SieveAt K H b m ∧ Nat.lcm l.length m.length ≤ 10000 ∧ (∀ n, kp m n = true → kp l n = true) ∧ ∀ H', Same H H' → Q .non H'
theorem ct_imp {f g : Nat → Bool} (h : ∀ n, g n = true → f n = true) (n : Nat) : ct g n ≤ ct f n := by
  induction n with
  | zero => exact Nat.le_refl _
  | succ n ih =>
    rw [ct_succ, ct_succ]
    cases e : g n with
    | false => simp; omega
    | true => rw [h n e]; simp; exact ih
theorem surv_ct {h : Nat → Bool} {P i : Nat} (hi : i < (surv h 0 P).length) : ct h ((surv h 0 P).getD i 0 + 1) = i + 1 := by
  have e : surv h 0 P = sel h P := by
    unfold surv
    congr 1
  rw [e] at hi ⊢
  unfold sel at hi ⊢
  rw [ct_lof] at hi
  obtain ⟨m, e1, h1, h2, h3⟩ := filter_range hi
  rw [List.getD_eq_getElem?_getD, e1]
  show ct h (m + 1) = i + 1
  rw [ct_succ_t h2, h3]
/-- the common period of what divides P -/
theorem lcm_le {a b P : Nat} (h0 : 0 < P) (ha : a ∣ P) (hb : b ∣ P) : Nat.lcm a b ≤ P := Nat.le_of_dvd h0 (Nat.lcm_dvd ha hb)
theorem comp_dvd {l m : List Bool} (gl : Pat l) {q : Nat} (h : m.length ∣ ct (kp l) l.length * q) : l.length * (Nat.lcm (ct (kp l) l.length) m.length / ct (kp l) l.length) ∣ l.length * q := Nat.mul_dvd_mul_left _ (dP_b gl.size h)
/-- a composition with what belongs to a continuation -/
theorem comp_cont {l m : List Bool} (gl : Pat l) {q : Nat} (q0 : 0 < q) (h : m.length ∣ ct (kp l) l.length * q) (hb : l.length * q < 4090) : l.length * (Nat.lcm (ct (kp l) l.length) m.length / ct (kp l) l.length) ≤ 10000 ∧ ct (kp m) (Nat.lcm (ct (kp l) l.length) m.length) < 4090 := by
  have h1 := Nat.le_of_dvd (Nat.mul_pos gl.one q0) (comp_dvd gl h)
  refine ⟨by omega, ?_⟩
  have h2 : Nat.lcm (ct (kp l) l.length) m.length ≤ ct (kp l) l.length * q := Nat.le_of_dvd (Nat.mul_pos gl.size q0) (Nat.lcm_dvd (Nat.dvd_mul_right _ _) h)
  have h3 := Nat.mul_le_mul_right q (ct_le (kp l) l.length)
  have h4 := ct_le (kp m) (Nat.lcm (ct (kp l) l.length) m.length)
  omega
theorem ct_many (l : List Bool) (q : Nat) : ct (kp l) (l.length * q) = ct (kp l) l.length * q := by
  have := ct_mul (kp_per l) q 0
  rw [Nat.add_zero, Nat.mul_comm q] at this
  rw [this]
  show q * ct (kp l) l.length + 0 = _
  rw [Nat.add_zero, Nat.mul_comm]
/-- densities, reduced -/
theorem red_le {s1 p1 s2 p2 g1 g2 : Nat} (h : s2 * p1 ≤ s1 * p2) (d1 : g1 ∣ s1) (e1 : g1 ∣ p1) (d2 : g2 ∣ s2) (e2 : g2 ∣ p2) (q1 : 0 < g1) (q2 : 0 < g2) : (s2 / g2) * (p1 / g1) ≤ (s1 / g1) * (p2 / g2) := by
  obtain ⟨a1, rfl⟩ := d1
  obtain ⟨b1, rfl⟩ := e1
  obtain ⟨a2, rfl⟩ := d2
  obtain ⟨b2, rfl⟩ := e2
  rw [Nat.mul_div_cancel_left _ q1, Nat.mul_div_cancel_left _ q1, Nat.mul_div_cancel_left _ q2, Nat.mul_div_cancel_left _ q2]
  have q : 0 < g1 * g2 := Nat.mul_pos q1 q2
  refine Nat.le_of_mul_le_mul_left ?_ q
  have l : g1 * g2 * (a2 * b1) = g2 * a2 * (g1 * b1) := by simp only [Nat.mul_assoc, Nat.mul_comm, Nat.mul_left_comm]
  have r : g1 * g2 * (a1 * b2) = g1 * a1 * (g2 * b2) := by simp only [Nat.mul_assoc, Nat.mul_comm, Nat.mul_left_comm]
  rw [l, r]
  exact h
theorem dens_le {l m : List Bool} (h : ∀ n, kp m n = true → kp l n = true) : ct (kp m) m.length * l.length ≤ ct (kp l) l.length * m.length := by
  have h1 := ct_imp h (l.length * m.length)
  rw [ct_many l, Nat.mul_comm l.length, ct_many m] at h1
  exact h1

/-- a sieve of g, whose period divides R, or None -/
def OpA (K : PySem.W.Frag) (H : Hp) (v : V) (g : Nat → Bool) (R : Nat) : Prop := (v = .non ∧ ∀ n, g n = false) ∨ ∃ (a : Addr) (l : List Bool), v = .ref a ∧ SieveAt K H a l ∧ (∀ n, kp l n = g n) ∧ l.length ∣ R
theorem OpA.same {K : PySem.W.Frag} {H H' : Hp} {v : V} {g : Nat → Bool} {R : Nat} (h : OpA K H v g R) (e : Same H H') : OpA K H' v g R := by
  rcases h with h | ⟨a, l, h1, h2, h3⟩
  · exact .inl h
  · exact .inr ⟨a, l, h1, h2.same e, h3⟩
theorem OpA.congr {K : PySem.W.Frag} {H : Hp} {v : V} {g g' : Nat → Bool} {R : Nat} (h : OpA K H v g R) (e : ∀ n, g n = g' n) : OpA K H v g' R := by
  rw [← show g = g' from funext e]
  exact h
theorem OpA.of {K : PySem.W.Frag} {H : Hp} {a : Addr} {l : List Bool} {R : Nat} (h : SieveAt K H a l) (hd : l.length ∣ R) : OpA K H (.ref a) (kp l) R := .inr ⟨a, l, rfl, h, fun _ => rfl, hd⟩
theorem OpA.ref {K : PySem.W.Frag} {H : Hp} {v : V} {g : Nat → Bool} {R : Nat} (h : OpA K H v g R) (hx : ∃ n, g n = true) : ∃ (a : Addr) (l : List Bool), v = .ref a ∧ SieveAt K H a l ∧ (∀ n, kp l n = g n) ∧ l.length ∣ R := by
  rcases h with ⟨_, h⟩ | h
  · obtain ⟨n, hn⟩ := hx
    rw [h n] at hn
    cases hn
  · exact h
/-- what ResK asks, with OpA for all ends -/
theorem ResK.opa {K : PySem.W.Frag} {H : Hp} {g : Nat → Bool} {p R : Nat} {Q : VK} (hd : p ∣ R) (q : ∀ v H', Same H H' → OpA K H' v g R → Q v H') : ResK K H g p Q :=
  ⟨fun z H' e => q _ _ e (.inl ⟨rfl, z⟩), fun _ b m H' e hk hm hs => q _ _ e (.inr ⟨b, m, rfl, hs, hk, Nat.dvd_trans hm hd⟩)⟩
section
variable {X : Cx} {σ : L2.St} {H : Hp} {Q : VK} {v u : V} {g : Nat → Bool} {R R' j : Nat}
theorem opa_two {K : PySem.W.Frag} (h1 : OpA K H v g R) (h2 : OpA K H u g R') : (v = .non ∧ u = .non) ∨ ∃ (a b : Addr) (l : List Bool), v = .ref a ∧ u = .ref b ∧ SieveAt K H a l ∧ SieveAt K H b l := by
  rcases h1 with ⟨rfl, h1⟩ | ⟨a, l, rfl, h1, k1, _⟩
  · rcases h2 with ⟨rfl, h2⟩ | ⟨b, m, rfl, h2, k2, _⟩
    · exact .inl ⟨rfl, rfl⟩
    · obtain ⟨n, _, e⟩ := plus_kp h2.1.plus
      rw [k2, h1 n] at e
      cases e
  · rcases h2 with ⟨rfl, h2⟩ | ⟨b, m, rfl, h2, k2, _⟩
    · obtain ⟨n, _, e⟩ := plus_kp h1.1.plus
      rw [k1, h2 n] at e
      cases e
    · have e : l = m := h1.1.uniq h2.1 fun n => by rw [k1, k2]
      subst e
      exact .inr ⟨a, b, l, rfl, rfl, h1, h2⟩
theorem b_eqOp (F : EqM X.prog X.w X.K X.mg X.base (cS X.K) 4 (spSvEq X.K)) (hr : Room j X.A) (hj : 5 ≤ j) (h1 : OpA X.K H v g R) (h2 : OpA X.K H u g R') (q : Q (.bl true) H) : WB X (compareOp .Eq) v u σ H Q := by
  rcases opa_two h1 h2 with ⟨rfl, rfl⟩ | ⟨a, b, l, rfl, rfl, s1, s2⟩
  · exact b_eqV rfl (by rw [decide_eq_true rfl]; exact q)
  · obtain ⟨_, dx, p, i1, _⟩ := id s1
    obtain ⟨_, dx2, p2, i2, _⟩ := id s2
    exact b_eqO F hr hj i1 i2 ⟨a, b, l, l, rfl, s1, s2, _, rfl, by rw [decide_eq_true rfl]; exact q⟩
theorem b_neOp (F : EqM X.prog X.w X.K X.mg X.base (cS X.K) 4 (spSvEq X.K)) (hr : Room j X.A) (hj : 5 ≤ j) (h1 : OpA X.K H v g R) (h2 : OpA X.K H u g R') (q : Q (.bl false) H) : WB X (compareOp .NotEq) v u σ H Q := by
  rcases opa_two h1 h2 with ⟨rfl, rfl⟩ | ⟨a, b, l, rfl, rfl, s1, s2⟩
  · exact b_neV rfl (by rw [decide_eq_true rfl]; exact q)
  · obtain ⟨_, dx, p, i1, _⟩ := id s1
    obtain ⟨_, dx2, p2, i2, _⟩ := id s2
    exact b_neO F hr hj i1 i2 ⟨a, b, l, l, rfl, s1, s2, _, rfl, by rw [decide_eq_true rfl]; exact q⟩
end
theorem ct_dvd {f : Nat → Bool} {p a R : Nat} (hf : Per f p) (hp : p ∣ a) (hd : a ∣ R) : ct f a ∣ ct f R := by
  obtain ⟨q, rfl⟩ := hd
  have := ct_mul (hf.dvd hp) q 0
  rw [Nat.add_zero, Nat.mul_comm q] at this
  rw [this]
  exact ⟨q, by show q * ct f a + 0 = _; rw [Nat.add_zero, Nat.mul_comm]⟩
/-- a dealer whose sides begin anew after R numbers -/
theorem dQ_dvd {l m k : List Bool} {R : Nat} (gl : Pat l) (hl : l.length ∣ R) (hm : m.length ∣ ct (kp l) R) (hk : k.length ∣ R - ct (kp l) R) : l.length * dQ l m k ∣ R := by
  obtain ⟨q, rfl⟩ := hl
  refine Nat.mul_dvd_mul_left _ (dP_min gl.size ?_ ?_)
  · rw [← ct_many]; exact hm
  · rw [Nat.sub_mul, ← ct_many]; exact hk
theorem comp_contR {l m : List Bool} {R : Nat} (gl : Pat l) (R0 : 0 < R) (hl : l.length ∣ R) (hm : m.length ∣ ct (kp l) R) (hb : R < 4090) : l.length * (Nat.lcm (ct (kp l) l.length) m.length / ct (kp l) l.length) ≤ 10000 ∧ ct (kp m) (Nat.lcm (ct (kp l) l.length) m.length) < 4090 := by
  obtain ⟨q, rfl⟩ := hl
  rw [ct_many] at hm
  exact comp_cont gl (Nat.pos_of_mul_pos_left R0) hm hb

theorem dec_minus {b : Bool} : decide ((⟨#[sgn b]⟩ : Str) = "-") = !b := by
  rw [minus_str]
  cases b
  · exact decide_eq_true rfl
  · exact decide_eq_false (fun z => by injection z with z; exact absurd (congrArg (fun a : Array Nat => a.toList) z) (by decide))
theorem eqV_plus (b : Bool) : eqV (.str (sOf [b])) (.str "+") = b := by
  show (sOf [b] == ("+" : Str)) = b
  rw [plus_sOf]
  cases b
  · exact beq_eq_false_iff_ne.mpr (fun z => by have := sOf_inj z; cases this)
  · exact beq_self_eq_true _
theorem eqV_minus (b : Bool) : eqV (.str (sOf [b])) (.str "-") = !b := by
  show (sOf [b] == ("-" : Str)) = !b
  rw [minus_sOf]
  cases b
  · exact beq_self_eq_true _
  · exact beq_eq_false_iff_ne.mpr (fun z => by have := sOf_inj z; cases this)
theorem inV_plus (bs : List Bool) : inV (.str "+") (bs.map fun b => V.str (sOf [b])) = bs.any fun b => b := by
  unfold inV
  rw [List.any_map]
  congr 1
  funext b
  exact eqV_plus b
theorem flat_strs (bs : List Bool) : (bs.map fun b => V.str (sOf [b])).all flatV = true := by
  rw [List.all_map, List.all_eq_true]
  intro x _
  rfl
theorem inV_p2 (a b : Bool) : inV (.str "+") [.str (sOf [a]), .str (sOf [b])] = (a || b) := by
  unfold inV
  simp only [List.any_cons, List.any_nil, eqV_plus, Bool.or_false]
theorem inV_m2 (a b : Bool) : inV (.str "-") [.str (sOf [a]), .str (sOf [b])] = (!a || !b) := by
  unfold inV
  simp only [List.any_cons, List.any_nil, eqV_minus, Bool.or_false]
theorem eqv_pm (a b : Bool) : PyData.eqv (.tuple [.str (sOf [a]), .str (sOf [b])]) (.tuple [.str (sOf [true]), .str (sOf [false])]) = (a && !b) := by
  rw [← plus_sOf, ← minus_sOf]
  have h1 := eqV_plus a
  have h2 := eqV_minus b
  have h1 : (sOf [a] == ("+" : Str)) = a := h1
  have h2 : (sOf [b] == ("-" : Str)) = !b := h2
  simp only [PyData.eqv, PyData.eqvAll, h1, h2, Bool.and_true]
theorem lof_pat {f : Nat → Bool} {p : Nat} (h : Per f p) (h0 : 0 < p) (h1 : p ≤ 10000) (hx : ∃ i, f i = true) : Pat (lof f p) := by
  refine ⟨by rw [lof_len]; exact h0, by rw [lof_len]; exact h1, ?_⟩
  obtain ⟨i, hi⟩ := hx
  exact kp_plus (by rw [lof_len]; exact h0) (i := i) (by rw [kp_lof h h0]; exact hi)
theorem shaped_s2 (a b : Bool) : SeqAt.shaped (.tuple [.str (sOf [a]), .str (sOf [b])]) = true := by
  have h : ∀ c : Bool, PyData.strOk (sOf [c]) = true := fun c => by cases c <;> decide +kernel
  simp [SeqAt.shaped, PyData.canLay0, PyData.canLayAll0, PyData.depth, PyData.depthAll, h]
theorem lof_step (f : Nat → Bool) (i : Nat) : lof f (i + 1) = lof f i ++ [f i] := by
  simp [lof, List.range_succ]
def spSm15 (K : PySem.W.Frag) : Sp := fun vs H Q _ => ∃ (v : V) (s : Addr) (g : Nat → Bool) (R N : Nat), vs = [v, .ref s] ∧ OpA K H v g R ∧ Per g N ∧ 0 < N ∧ N ≤ 10000 ∧ SqL K H s ((lof g N).map fun b => V.str (sOf [b])) ∧ ∀ H', Same H H' → Q (.bl true) H'
theorem ok__law_same (F : FunD K "_law_same" "_law_same" (defArgs s__law_same) (defBody s__law_same) (defScope s__law_same) [] [] f fd) (hb : ∀ x ∈ BB, mg x = none) (SC : SvC K mg) (h6 : Mkr P w K mg base (cS K) 4 (spSvInit K)) (h11 : EqM P w K mg base (cS K) 4 (spSvEq K)) : FnR P w K mg base (L2.CX P w) 6 f (spSm15 K) := by
  refine fnr_of F sc__law_same (fun vs H Q E h => ?_) (fun kV doc pm an cdv ct us hl => match us, hl with | [_, _], _ => rfl) (fun x hx => hb x (by revert x; decide +kernel)) fun cd A outer s H vs Q E hr hc h => ?_
  · obtain ⟨v, s, g, R, N, rfl, _⟩ := h; rfl
  · obtain ⟨v, s', g, R, N, rfl, hv, hper, N0, N1, hs, q⟩ := h
    refine wl_start (σ' := [some v, some (.ref s')]) rfl (wl_cons ?_)
    walk_at "w"
    refine b_notinL (.inl hs) rfl (flat_strs _) ?_
    rw [inV_plus]
    by_cases hx : ∃ n, g n = true
    · have hany : ((lof g N).any fun b => b) = true := by
        obtain ⟨n, hn⟩ := hx
        rw [List.any_eq_true]
        exact ⟨true, List.mem_map.mpr ⟨n % N, List.mem_range.mpr (Nat.mod_lt _ N0), by rw [hper.mod]; exact hn⟩, rfl⟩
      rw [hany]
      walk_at "w"
      refine w_make hc (by walk_at "mb") SC.g h6 hr (by decide) passL ?_
      refine wa_cons ?_
      refine w_join ?_
      walk_at "w"
      refine ⟨s', (lof g N).map fun b => sOf [b], rfl, .inl (by rw [List.map_map]; exact hs), ?_, ?_⟩
      · have hl1 : ∀ l : List Bool, ((l.map fun b => sOf [b]).map fun x => x.length).sum = l.length := fun l => by
          induction l with
          | nil => rfl
          | cons b r ih => simp only [List.map_cons, List.sum_cons, ih, sOf_len, List.length_cons, List.length_nil]; omega
        rw [hl1, lof_len, List.length_map, lof_len]
        have : ("" : Str).length = 0 := by decide +kernel
        rw [this]
        omega
      rw [join_sOf]
      refine wa_nil ?_
      refine made_sv ⟨lof_pat hper N0 N1 hx, fun b m H' e gm km dm hs2 => ?_⟩
      refine b_eqOp h11 hr (by decide) (hv.same e) ((OpA.of hs2 (Nat.dvd_refl _)).congr fun n => by rw [km, kp_lof hper N0]) ?_
      exact q _ e
    · have hf : ∀ n, g n = false := fun n => by
        cases e : g n with
        | false => rfl
        | true => exact absurd ⟨n, e⟩ hx
      have hany : ((lof g N).any fun b => b) = false := by
        cases e : (lof g N).any fun b => b with
        | false => rfl
        | true =>
          obtain ⟨b, hb1, hb2⟩ := List.any_eq_true.mp e
          obtain ⟨n, _, rfl⟩ := List.mem_map.mp hb1
          rw [hf n] at hb2
          cases hb2
      rw [hany]
      rcases hv with ⟨rfl, _⟩ | ⟨a, l, rfl, ha, ka, _⟩
      · walk_at "w"
        rw [dec_nn]
        exact q _ (Same.refl _)
      · obtain ⟨n, _, e⟩ := plus_kp ha.1.plus
        rw [ka, hf n] at e
        cases e
def spRt15 (K : PySem.W.Frag) : Sp := fun vs H Q _ => ∃ (l m : List Bool), vs = [.str (sOf l), .str (sOf m)] ∧ Pat l ∧ Pat m ∧ l.length * m.length ≤ 4000 ∧ l.length ≤ 4000 ∧ ∀ H', Same H H' → Q (.bl true) H'
theorem ok__law_right (F : FunD K "_law_right" "_law_right" (defArgs s__law_right) (defBody s__law_right) (defScope s__law_right) [] [] f fd) (hb : ∀ x ∈ BB, mg x = none) (SC : SvC K mg)
    (h1 : Fn P w K mg base "_law_same" 6 (spSm15 K)) (h2 : Fn P w K mg base "union" 7 (spSet2 K fun x y => x || y)) (h3 : Fn P w K mg base "intersection" 7 (spSet2 K fun x y => x && y)) (h4 : Fn P w K mg base "difference" 7 (spSet2 K fun x y => x && !y)) (h5 : Fn P w K mg base "complement" 7 (spCompl K)) (h6 : Mkr P w K mg base (cS K) 4 (spSvInit K)) : FnR P w K mg base (L2.CX P w) 8 f (spRt15 K) := by
  refine fnr_of F sc__law_right (fun vs H Q E h => ?_) (fun kV doc pm an cdv ct us hl => match us, hl with | [_, _], _ => rfl) (fun x hx => hb x (by revert x; decide +kernel)) fun cd A outer s H vs Q E hr hc h => ?_
  · obtain ⟨l, m, rfl, _⟩ := h; rfl
  · obtain ⟨l, m, rfl, pl, pm, hlm, hl4, q⟩ := h
    have hz : sizeLine = 16777216 := sizeLine_eq
    have ol := pl.one
    have om := pm.one
    have l2 := pl.most
    have m2 := pm.most
    have N0 : 0 < l.length * m.length := Nat.mul_pos ol om
    refine wl_start (σ' := [some (.str (sOf l)), some (.str (sOf m)), none, none, none, none, none, none]) rfl (wl_cons ?_)
    refine ws_par hc (by kernel_rfl) (by kernel_rfl) (by decide +kernel) ?_ (by with_unfolding_all rfl) (by with_unfolding_all rfl) (by with_unfolding_all rfl) (by with_unfolding_all rfl) ⟨3, 4, rfl, rfl⟩
    refine w_make hc (by walk_at "mb") SC.g h6 hr (by decide) passL ?_
    walk_at "w"
    refine made_sv ⟨pl, fun a l' H1 e1 gl kl dl ha => ?_⟩
    refine w_make hc (by walk_at "mb") SC.g h6 hr (by decide) passL ?_
    walk_at "w"
    refine made_sv ⟨pm, fun b m' H2 e2 gm km dm hb2 => ?_⟩
    refine ⟨_, _, by walk_at "put", by walk_at "put", ?_⟩
    have ha2 := ha.same e2
    have s2 := e1.trans e2
    have hd : Nat.lcm l'.length m'.length ∣ l.length * m.length := Nat.lcm_dvd (Nat.dvd_trans dl (Nat.dvd_mul_right _ _)) (Nat.dvd_trans dm (Nat.dvd_mul_left _ _))
    have hle := Nat.le_of_dvd N0 hd
    have hll := Nat.le_of_dvd ol dl
    have perl : Per (kp l) (l.length * m.length) := (kp_per l).dvd (Nat.dvd_mul_right _ _)
    have perm : Per (kp m) (l.length * m.length) := (kp_per m).dvd (Nat.dvd_mul_left _ _)
    walk_at "go"
    refine ws_setLcH hc (own := bO__law_right_0) (by kernel_rfl) (fun i acc H' => ∃ ps : List Addr, acc = ps.map V.ref ∧ ps.length = i ∧ ∀ j, j < i → H' (ps.getD j 0) = some (.tup [.str (sOf [kp l j]), .str (sOf [kp m j])])) ?_ (by kernel_rfl) (by kernel_rfl) (iy := ⟨2, rfl⟩)
    refine wi_range1 hc (by walk_at "mb") ?_
    walk_at "w"
    refine ⟨l.length, ⟨by rw [sOf_len]; omega, by rw [sOf_len]⟩, ?_⟩
    walk_at "w"
    refine ⟨m.length, ⟨by rw [sOf_len]; omega, by rw [sOf_len]⟩, ?_⟩
    refine b_mul (mul_small (by omega) (by omega)) ?_
    rw [show ((l.length : Nat) : Int) * ((m.length : Nat) : Int) = ((l.length * m.length : Nat) : Int) from (Int.natCast_mul _ _).symm]
    generalize hNN : l.length * m.length = N at *
    refine ⟨_, rfl, by omega, by omega, ?_⟩
    refine ⟨_, _, wlk_range, by omega, fun D hD => ⟨[], rfl, rfl, fun j hj => by omega⟩, fun i acc acc' H' D hi hD hS hDb hP' hP => ?_, fun i acc H' hi hl hP hS => ?_, fun acc D H3 hl hP hD hS hDa => ?_⟩
    · obtain ⟨ps, rfl, hps, hm⟩ := hP
      refine ⟨ps, rfl, hps, fun j hj => ?_⟩
      have h9 := hm j hj
      rw [upd_ne (fun z => by rw [z, hDb] at h9; cases h9)]
      exact h9
    · obtain ⟨ps, rfl, hps, hm⟩ := hP
      rw [show (0 : Int) + (i : Nat) = ((i : Nat) : Int) by omega]
      intro X1 b1
      have c1 := nm_blk (L' := bL__law_right_0) (S' := bS__law_right_0) (G' := bG__law_right_0) (B' := bB__law_right_0) b1 hc (by kernel_rfl) (fun x hx => hb x (by revert x; decide +kernel))
      simp only [wipe, List.map_cons, List.map_nil, List.set_cons_succ, List.set_cons_zero]
      walk_at "w"
      refine ⟨rfl, rfl, ?_⟩
      intro X2 b2
      refine wts_nil ?_
      refine ⟨Same.refl _, ite_t ?_⟩
      intro X3 b3
      have c3 := nm_blk (L' := bL__law_right_0) (S' := bS__law_right_0) (G' := bG__law_right_0) (B' := bB__law_right_0) b3 hc (by kernel_rfl) (fun x hx => hb x (by revert x; decide +kernel))
      obtain ⟨_, _, _, _, _, rfl⟩ := b3
      walk_at "w"
      refine ⟨l.length, ⟨by rw [sOf_len]; omega, by rw [sOf_len]⟩, ?_⟩
      refine b_mod (by omega) ?_
      have hi3 : i % l.length < l.length := Nat.mod_lt _ ol
      refine ix_s (by rw [sOf_len]; omega) (sOf_at (i := i % l.length) (by simp) hi3) ?_
      walk_at "w"
      refine ⟨m.length, ⟨by rw [sOf_len]; omega, by rw [sOf_len]⟩, ?_⟩
      refine b_mod (by omega) ?_
      have hi4 : i % m.length < m.length := Nat.mod_lt _ om
      refine ix_s (by rw [sOf_len]; omega) (sOf_at (i := i % m.length) (by simp) hi4) ?_
      have e5 : l[i % l.length] = kp l i := by rw [← kp_lt hi3, (kp_per l).mod]
      have e6 : m[i % m.length] = kp m i := by rw [← kp_lt hi4, (kp_per m).mod]
      rw [e5, e6]
      walk_at "w"
      refine ⟨(by show 2 ≤ sizeLine; omega), fun T H4 hT e4 hT4 => ⟨e4, ⟨ps, rfl, hps, fun j hj => e4 _ _ (hm j hj)⟩, ps ++ [T], by simp, by simp [hps], fun j hj => ?_⟩⟩
      by_cases hj2 : j < i
      · rw [List.getD_eq_getElem?_getD, List.getElem?_append_left (by omega), ← List.getD_eq_getElem?_getD]
        exact e4 _ _ (hm j hj2)
      · have ej : j = i := by omega
        subst ej
        rw [List.getD_eq_getElem?_getD, List.getElem?_append_right (by omega), hps]
        rw [show ([T] : List Addr)[j - j]?.getD 0 = T by simp]
        exact hT4
    obtain ⟨ps, rfl, hps, hm⟩ := hP
    rw [Int.toNat_natCast] at hps hm
    have hget : ∀ i, i < N → (ps.map V.ref).getD i .non = .ref (ps.getD i 0) := fun i hi => by
      rw [List.getD_eq_getElem?_getD, List.getElem?_map, List.getElem?_eq_getElem (by omega), List.getD_eq_getElem?_getD, List.getElem?_eq_getElem (by omega)]; rfl
    refine ⟨_, by walk_at "put", ?_⟩
    have s3 := s2.trans hS
    have a3 := ha2.same hS
    have b3' := hb2.same hS
    have cap : ∀ (o : Bool → Bool → Bool), ct (fun n => o (kp l' n) (kp m' n)) (Nat.lcm l'.length m'.length) < 4090 := fun o => Nat.lt_of_le_of_lt (ct_le _ _) (by omega)
    walk_at "go"
    -- union
    walk_at "w"
    refine w_call hc (by walk_at "mb") h1 hr (by decide) passL ?_
    refine wa_cons ?_
    refine w_call hc (by walk_at "mb") h2 hr (by decide) passL ?_
    walk_at "w"
    refine ⟨a, b, l', m', rfl, a3.same (Same.refl H3), b3'.same (Same.refl H3), by omega, cap (fun x y => x || y), ResK.opa (Nat.dvd_refl _) fun v1 A1 ea1 t1 => ?_⟩
    have q1 : Same H3 A1 := (Same.refl H3).trans ea1
    refine wa_cons ?_
    refine w_lc hc (own := bO__law_right_1) (by kernel_rfl) (fun i acc => acc = (lof (fun n => kp l n || kp m n) i).map fun b => V.str (sOf [b])) ?_
    refine wi_list ?_
    walk_at "w"
    refine ⟨D, _, rfl, .inl (.inl (q1 _ _ hDa)), _, _, wlk_list (.inl (.inl (q1 _ _ hDa))), (by rw [List.length_map]; omega), rfl, fun i acc H' hi hl hP hS => ?_, fun acc D1' H' hl hP hD1 hS1 hDa1 => ?_⟩
    · rw [List.length_map] at hi
      rw [hget i (by omega)]
      have hTi := hS _ _ (q1 _ _ (hm i (by omega)))
      intro X1 b1
      have c1 := nm_blk (L' := bL__law_right_1) (S' := bS__law_right_1) (G' := bG__law_right_1) (B' := bB__law_right_1) b1 hc (by kernel_rfl) (fun x hx => nomatch hx)
      simp only [wipe, List.map_cons, List.map_nil, List.set_cons_succ, List.set_cons_zero]
      walk_at "w"
      refine ⟨rfl, rfl, ?_⟩
      intro X2 b2
      refine wts_nil ?_
      refine ⟨Same.refl _, ite_t ?_⟩
      intro X3 b3
      have c3 := nm_blk (L' := bL__law_right_1) (S' := bS__law_right_1) (G' := bG__law_right_1) (B' := bB__law_right_1) b3 hc (by kernel_rfl) (fun x hx => nomatch hx)
      obtain ⟨_, _, _, _, _, rfl⟩ := b3
      walk_at "w"
      refine b_inL (.inr (.inl (.inl hTi))) rfl rfl ?_
      rw [inV_p2]
      cases hk : (kp l i || kp m i) with
      | true =>
        walk_at "w"
        refine ⟨Same.refl _, ?_⟩
        rw [hP, lof_step, hk, List.map_append, plus_sOf]; rfl
      | false =>
        walk_at "w"
        refine ⟨Same.refl _, ?_⟩
        rw [hP, lof_step, hk, List.map_append, minus_sOf]; rfl
    rw [List.length_map, hps] at hP
    refine wa_nil ?_
    refine ⟨v1, D1', fun n => kp l n || kp m n, _, N, rfl, (t1.congr fun n => by rw [kl, km]).same hS1, ?_, N0, by omega, .inl (.inl (by rw [hDa1, hP])), fun B1 eb1 => ?_⟩
    · intro n
      show (kp l (n + N) || kp m (n + N)) = _
      rw [perl, perm]
    have r1 : Same H3 B1 := q1.trans (hS1.trans eb1)
    -- intersection
    walk_at "w"
    refine w_call hc (by walk_at "mb") h1 hr (by decide) passL ?_
    refine wa_cons ?_
    refine w_call hc (by walk_at "mb") h3 hr (by decide) passL ?_
    walk_at "w"
    refine ⟨a, b, l', m', rfl, a3.same (r1), b3'.same (r1), by omega, cap (fun x y => x && y), ResK.opa (Nat.dvd_refl _) fun v2 A2 ea2 t2 => ?_⟩
    have q2 : Same H3 A2 := (r1).trans ea2
    refine wa_cons ?_
    refine w_lc hc (own := bO__law_right_2) (by kernel_rfl) (fun i acc => acc = (lof (fun n => kp l n && kp m n) i).map fun b => V.str (sOf [b])) ?_
    refine wi_list ?_
    walk_at "w"
    refine ⟨D, _, rfl, .inl (.inl (q2 _ _ hDa)), _, _, wlk_list (.inl (.inl (q2 _ _ hDa))), (by rw [List.length_map]; omega), rfl, fun i acc H' hi hl hP hS => ?_, fun acc D2' H' hl hP hD2 hS2 hDa2 => ?_⟩
    · rw [List.length_map] at hi
      rw [hget i (by omega)]
      have hTi := hS _ _ (q2 _ _ (hm i (by omega)))
      intro X1 b1
      have c1 := nm_blk (L' := bL__law_right_2) (S' := bS__law_right_2) (G' := bG__law_right_2) (B' := bB__law_right_2) b1 hc (by kernel_rfl) (fun x hx => nomatch hx)
      simp only [wipe, List.map_cons, List.map_nil, List.set_cons_succ, List.set_cons_zero]
      walk_at "w"
      refine ⟨rfl, rfl, ?_⟩
      intro X2 b2
      refine wts_nil ?_
      refine ⟨Same.refl _, ite_t ?_⟩
      intro X3 b3
      have c3 := nm_blk (L' := bL__law_right_2) (S' := bS__law_right_2) (G' := bG__law_right_2) (B' := bB__law_right_2) b3 hc (by kernel_rfl) (fun x hx => nomatch hx)
      obtain ⟨_, _, _, _, _, rfl⟩ := b3
      walk_at "w"
      refine b_inL (.inr (.inl (.inl hTi))) rfl rfl ?_
      rw [inV_m2]
      have hd9 : (kp l i && kp m i) = !(!kp l i || !kp m i) := by cases kp l i <;> cases kp m i <;> rfl
      cases hk : (!kp l i || !kp m i) with
      | true =>
        walk_at "w"
        refine ⟨Same.refl _, ?_⟩
        rw [hP, lof_step, hd9, hk, List.map_append, minus_sOf]; rfl
      | false =>
        walk_at "w"
        refine ⟨Same.refl _, ?_⟩
        rw [hP, lof_step, hd9, hk, List.map_append, plus_sOf]; rfl
    rw [List.length_map, hps] at hP
    refine wa_nil ?_
    refine ⟨v2, D2', fun n => kp l n && kp m n, _, N, rfl, (t2.congr fun n => by rw [kl, km]).same hS2, ?_, N0, by omega, .inl (.inl (by rw [hDa2, hP])), fun B2 eb2 => ?_⟩
    · intro n
      show (kp l (n + N) && kp m (n + N)) = _
      rw [perl, perm]
    have r2 : Same H3 B2 := q2.trans (hS2.trans eb2)
    -- difference
    walk_at "w"
    refine w_call hc (by walk_at "mb") h1 hr (by decide) passL ?_
    refine wa_cons ?_
    refine w_call hc (by walk_at "mb") h4 hr (by decide) passL ?_
    walk_at "w"
    refine ⟨a, b, l', m', rfl, a3.same (r2), b3'.same (r2), by omega, cap (fun x y => x && !y), ResK.opa (Nat.dvd_refl _) fun v3 A3 ea3 t3 => ?_⟩
    have q3 : Same H3 A3 := (r2).trans ea3
    refine wa_cons ?_
    refine w_lc hc (own := bO__law_right_3) (by kernel_rfl) (fun i acc => acc = (lof (fun n => kp l n && !kp m n) i).map fun b => V.str (sOf [b])) ?_
    refine wi_list ?_
    walk_at "w"
    refine ⟨D, _, rfl, .inl (.inl (q3 _ _ hDa)), _, _, wlk_list (.inl (.inl (q3 _ _ hDa))), (by rw [List.length_map]; omega), rfl, fun i acc H' hi hl hP hS => ?_, fun acc D3' H' hl hP hD3 hS3 hDa3 => ?_⟩
    · rw [List.length_map] at hi
      rw [hget i (by omega)]
      have hTi := hS _ _ (q3 _ _ (hm i (by omega)))
      intro X1 b1
      have c1 := nm_blk (L' := bL__law_right_3) (S' := bS__law_right_3) (G' := bG__law_right_3) (B' := bB__law_right_3) b1 hc (by kernel_rfl) (fun x hx => nomatch hx)
      simp only [wipe, List.map_cons, List.map_nil, List.set_cons_succ, List.set_cons_zero]
      walk_at "w"
      refine ⟨rfl, rfl, ?_⟩
      intro X2 b2
      refine wts_nil ?_
      refine ⟨Same.refl _, ite_t ?_⟩
      intro X3 b3
      have c3 := nm_blk (L' := bL__law_right_3) (S' := bS__law_right_3) (G' := bG__law_right_3) (B' := bB__law_right_3) b3 hc (by kernel_rfl) (fun x hx => nomatch hx)
      obtain ⟨_, _, _, _, _, rfl⟩ := b3
      walk_at "w"
      refine ⟨(by show 2 ≤ sizeLine; omega), fun T9 H9 hT9 e9 hT9' => ?_⟩
      rw [plus_sOf, minus_sOf] at hT9'
      refine b_eqD hr.units (.tup (.inl (.inl (e9 _ _ hTi))) (.cons (.str _) (.cons (.str _) .nil))) (.tup (.inl (.inl hT9')) (.cons (.str _) (.cons (.str _) .nil))) (shaped_s2 _ _) (shaped_s2 _ _) ?_
      rw [eqv_pm]
      cases hk : (kp l i && !kp m i) with
      | true =>
        walk_at "w"
        refine ⟨e9, ?_⟩
        rw [hP, lof_step, hk, List.map_append, plus_sOf]; rfl
      | false =>
        walk_at "w"
        refine ⟨e9, ?_⟩
        rw [hP, lof_step, hk, List.map_append, minus_sOf]; rfl
    rw [List.length_map, hps] at hP
    refine wa_nil ?_
    refine ⟨v3, D3', fun n => kp l n && !kp m n, _, N, rfl, (t3.congr fun n => by rw [kl, km]).same hS3, ?_, N0, by omega, .inl (.inl (by rw [hDa3, hP])), fun B3 eb3 => ?_⟩
    · intro n
      show (kp l (n + N) && !kp m (n + N)) = _
      rw [perl, perm]
    have r3 : Same H3 B3 := q3.trans (hS3.trans eb3)
    -- complement
    walk_at "w"
    refine w_call hc (by walk_at "mb") h1 hr (by decide) passL ?_
    refine wa_cons ?_
    refine w_call hc (by walk_at "mb") h5 hr (by decide) passL ?_
    walk_at "w"
    refine ⟨a, l', rfl, a3.same r3, by omega, ResK.opa (Nat.dvd_refl _) fun v4 A4 ea4 t4 => ?_⟩
    have q4 : Same H3 A4 := r3.trans ea4
    refine wa_cons ?_
    refine w_lc hc (own := bO__law_right_4) (by kernel_rfl) (fun i acc => acc = (lof (fun n => !kp l n) i).map fun b => V.str (sOf [b])) ?_
    refine wi_str ?_
    walk_at "w"
    have hlz : (sOf l).cps.size = l.length := sOf_len l
    refine ⟨_, _, wlk_str, (by rw [hlz]; omega), rfl, fun i acc H' hi hl hP hS => ?_, fun acc D4' H' hl hP hD4 hS4 hDa4 => ?_⟩
    · rw [hlz] at hi
      rw [signAt_sOf hi]
      intro X1 b1
      have c1 := nm_blk (L' := bL__law_right_4) (S' := bS__law_right_4) (G' := bG__law_right_4) (B' := bB__law_right_4) b1 hc (by kernel_rfl) (fun x hx => nomatch hx)
      simp only [wipe, List.map_cons, List.map_nil, List.set_cons_succ, List.set_cons_zero]
      walk_at "w"
      refine ⟨rfl, rfl, ?_⟩
      intro X2 b2
      refine wts_nil ?_
      refine ⟨Same.refl _, ite_t ?_⟩
      intro X3 b3
      have c3 := nm_blk (L' := bL__law_right_4) (S' := bS__law_right_4) (G' := bG__law_right_4) (B' := bB__law_right_4) b3 hc (by kernel_rfl) (fun x hx => nomatch hx)
      walk_at "w"
      rw [dec_minus]
      have e5 : l[i] = kp l i := (kp_lt hi).symm
      rw [e5]
      cases hk : kp l i with
      | true =>
        walk_at "w"
        refine ⟨Same.refl _, ?_⟩
        rw [hP, lof_step, hk, List.map_append, minus_sOf]; rfl
      | false =>
        walk_at "w"
        refine ⟨Same.refl _, ?_⟩
        rw [hP, lof_step, hk, List.map_append, plus_sOf]; rfl
    rw [hlz] at hP
    refine wa_nil ?_
    refine ⟨v4, D4', fun n => !kp l n, _, l.length, rfl, (t4.congr fun n => by rw [kl]).same hS4, fun n => by show (!kp l (n + l.length)) = _; rw [kp_per l], ol, l2, .inl (.inl (by rw [hDa4, hP])), fun B4 eb4 => ?_⟩
    exact q _ (s3.trans (q4.trans (hS4.trans eb4)))

/-- one kept number at the end of a pattern -/
def late (a : Nat) : List Bool := (List.replicate a [false]).flatten ++ [true]
theorem late_len (a : Nat) : (late a).length = a + 1 := by
  unfold late
  rw [List.length_append, rep_len]; simp
theorem late_kp (a n : Nat) : kp (late a) n = decide (n % (a + 1) = a) := by
  unfold kp
  rw [late_len]
  have hlt : n % (a + 1) < a + 1 := Nat.mod_lt n (Nat.succ_pos a)
  have hrl : ((List.replicate a [false]).flatten).length = a := by rw [rep_len]; simp
  unfold late
  rw [List.getD_eq_getElem?_getD]
  by_cases h : n % (a + 1) = a
  · rw [decide_eq_true h, h, List.getElem?_append_right (by omega), hrl]; simp
  · rw [decide_eq_false h, List.getElem?_append_left (by rw [hrl]; omega), ← List.getD_eq_getElem?_getD, rep_getD (by simp; omega)]
    have : n % (a + 1) % [false].length = 0 := Nat.mod_one _
    rw [this]; rfl
theorem late_pat {a : Nat} (h : a < 10000) : Pat (late a) := ⟨by rw [late_len]; omega, by rw [late_len]; omega, by unfold late; simp⟩
theorem ct_few {f : Nat → Bool} {N : Nat} {xs : List Nat} (h : ∀ n, n < N → f n = true → n ∈ xs) : ct f N ≤ xs.length := by
  rw [← sel_len]
  refine List.Nodup.length_le_of_subset (List.Nodup.sublist List.filter_sublist List.nodup_range) fun n hn => ?_
  obtain ⟨h1, h2⟩ := sel_mem.mp hn
  exact h n h1 h2
/-- the half one, with nothing behind -/
def half2 : List Bool := late 4999 ++ (List.replicate 5000 [false]).flatten
theorem half2_len : half2.length = 10000 := by
  unfold half2
  rw [List.length_append, late_len, rep_len]; simp
theorem half2_kp (n : Nat) : kp half2 n = decide (n % 10000 = 4999) := by
  unfold kp
  rw [half2_len]
  have hlt := Nat.mod_lt n (show 0 < 10000 by decide)
  unfold half2
  rw [List.getD_eq_getElem?_getD]
  by_cases h : n % 10000 < 5000
  · rw [List.getElem?_append_left (by rw [late_len]; omega), ← List.getD_eq_getElem?_getD]
    have h2 := late_kp 4999 (n % 10000)
    unfold kp at h2
    rw [late_len, Nat.mod_eq_of_lt h] at h2
    exact h2
  · rw [List.getElem?_append_right (by rw [late_len]; omega), late_len, ← List.getD_eq_getElem?_getD, rep_getD (by simp; omega), decide_eq_false (by omega)]
    have : (n % 10000 - (4999 + 1)) % [false].length = 0 := Nat.mod_one _
    rw [this]; rfl
theorem half2_pat : Pat half2 := ⟨by rw [half2_len]; decide, by rw [half2_len]; decide, by unfold half2 late; simp⟩
theorem minus_rep (k : Nat) : repS ("-" : Str) k = sOf ((List.replicate k [false]).flatten) := by rw [minus_sOf, rep_sOf]
def spLaw (K : PySem.W.Frag) : Sp := fun vs H Q _ => ∃ (a : Addr) (ns : List Int), vs = [.ref a] ∧ SqL K H a (ns.map V.int) ∧ ns.length ≤ 63 ∧ ∀ H', Q (.bl true) H'
theorem ok_law (F : FunD K "law" "law" (defArgs s_law) (defBody s_law) (defScope s_law) [] [] f fd) (hb : ∀ x ∈ BB, mg x = none) (SC : SvC K mg)
    (h1 : Fn P w K mg base "_law_pool" 2 (spPool K)) (h3 : Fn P w K mg base "_law_pattern" 3 spLPat) (h4 : Fn P w K mg base "_law_right" 8 (spRt15 K)) (h5 : Fn P w K mg base "union" 7 (spSet2 K fun x y => x || y)) (h6 : Mkr P w K mg base (cS K) 4 (spSvInit K)) (h7 : Fn P w K mg base "intersection" 7 (spSet2 K fun x y => x && y)) (h8 : Fn P w K mg base "difference" 7 (spSet2 K fun x y => x && !y)) (h11 : EqM P w K mg base (cS K) 4 (spSvEq K)) : FnOk P w K mg base (L2.CX P w) 10 f fd ["_law_script"] (spLaw K) := by
  refine fnr_ofD F sc_law (fun vs H Q E h => ?_) (fun x hx => hb x (by revert x; decide +kernel)) fun cd A outer s H vs Q E hr hc h => ?_
  · obtain ⟨a, ns, rfl, _⟩ := h; rfl
  obtain ⟨sc, ns, rfl, hsc, hns, q⟩ := h
  have hz : sizeLine = 16777216 := sizeLine_eq
  refine wl_start (σ' := [some (.ref sc), none, none, none, none, none, none, none, none, none, none]) rfl (wl_cons ?_)
  refine ws_for owns_cx hc ?_
  refine wi_range1 hc (by walk_at "mb") ?_
  walk_at "w"
  refine ⟨_, .inl ⟨_, hsc, rfl⟩, ?_⟩
  refine ⟨_, _, rfl, rfl, ?_⟩
  refine ⟨_, _, rfl, rfl, ?_⟩
  refine ⟨_, rfl, ?_⟩
  generalize hN : (if (if ((List.map V.int ns).length : Int) < 8 then ((List.map V.int ns).length : Int) else 8) > 1 then (if ((List.map V.int ns).length : Int) < 8 then ((List.map V.int ns).length : Int) else 8) else 1) = NN
  have hNN : 0 ≤ NN ∧ NN ≤ 8 := by
    rw [← hN]
    have : (0 : Int) ≤ ((List.map V.int ns).length : Int) := Int.natCast_nonneg _
    split <;> split <;> omega
  refine ⟨by omega, by omega, ?_⟩
  refine ⟨_, _, wlk_range, fun i σ' H' => Same H H' ∧ ∃ o1 o2 o3 o4 o5 o6 o7, σ' = [some (.ref sc), o1, o2, o3, o4, o5, none, none, o6, o7, none], ⟨Same.refl _, _, _, _, _, _, _, _, rfl⟩, fun i σ' H' h => h.1, fun i σ' H0 hi ⟨eH, o1, o2, o3, o4, o5, o6, o7, hσ⟩ => ?_, fun σ' H0 ⟨eH, o1, o2, o3, o4, o5, o6, o7, hσ⟩ => ?_⟩
  · subst hσ
    rw [show (0 : Int) + (i : Nat) = ((i : Nat) : Int) by omega]
    refine wg_name hc (by walk_at "put") (by walk_at "mb") ?_
    walk_at "go"
    walk_at "w"
    refine w_call hc (by walk_at "mb") h1 hr (by decide) passL ?_
    walk_at "w"
    refine ⟨sc, ns, i, rfl, Same.seq eH hsc, hns, by omega, fun p H1 hp e1 hp1 => ?_⟩
    refine ⟨_, by walk_at "put", ?_⟩
    walk_at "go"
    refine ws_par hc (by kernel_rfl) (by kernel_rfl) (by decide +kernel) ?_ (by with_unfolding_all rfl) (by with_unfolding_all rfl) (by with_unfolding_all rfl) (by with_unfolding_all rfl) ⟨8, 9, rfl, rfl⟩
    refine w_call hc (by walk_at "mb") h3 hr (by decide) passL ?_
    walk_at "w"
    refine ⟨p, 9, rfl, hp1, by decide, by decide, fun lf H2 e2 plf hlf => ?_⟩
    refine w_call hc (by walk_at "mb") h3 hr (by decide) passL ?_
    walk_at "w"
    refine ⟨p, 9, rfl, e2 _ _ hp1, by decide, by decide, fun ls H3 e3 pls hls => ?_⟩
    refine ⟨_, _, by walk_at "put", by walk_at "put", ?_⟩
    have s3 := e1.trans (e2.trans e3)
    have of := plf.one
    have os := pls.one
    walk_at "go"
    -- turned
    walk_at "w"
    refine w_join ?_
    walk_at "w"
    refine w_lc hc (own := bO_law_0) (by kernel_rfl) (fun i acc => acc = ((lf.take i).map fun b => !b).map fun b => V.str (sOf [b])) ?_
    refine wi_str ?_
    walk_at "w"
    have hlz : (sOf lf).cps.size = lf.length := sOf_len lf
    refine ⟨_, _, wlk_str, (by rw [hlz]; omega), rfl, fun j acc H' hj hl hP hS => ?_, fun acc D4 H4 hl hP hD4 hS4 hDa4 => ?_⟩
    · rw [hlz] at hj
      rw [signAt_sOf hj]
      intro X1 b1
      have c1 := nm_blk (L' := bL_law_0) (S' := bS_law_0) (G' := bG_law_0) (B' := bB_law_0) b1 hc (by kernel_rfl) (fun x hx => nomatch hx)
      simp only [wipe, List.map_cons, List.map_nil, List.set_cons_succ, List.set_cons_zero]
      walk_at "w"
      refine ⟨rfl, rfl, ?_⟩
      intro X2 b2
      refine wts_nil ?_
      refine ⟨Same.refl _, ite_t ?_⟩
      intro X3 b3
      have c3 := nm_blk (L' := bL_law_0) (S' := bS_law_0) (G' := bG_law_0) (B' := bB_law_0) b3 hc (by kernel_rfl) (fun x hx => nomatch hx)
      walk_at "w"
      rw [dec_minus]
      cases hk : lf[j] with
      | true =>
        walk_at "w"
        refine ⟨Same.refl _, ?_⟩
        rw [hP, List.take_succ_eq_append_getElem hj, hk, List.map_append, List.map_append, minus_sOf]; rfl
      | false =>
        walk_at "w"
        refine ⟨Same.refl _, ?_⟩
        rw [hP, List.take_succ_eq_append_getElem hj, hk, List.map_append, List.map_append, plus_sOf]; rfl
    rw [hlz, List.take_length] at hP
    generalize htl : (lf.map fun b => !b) = tl at hP
    have htlen : tl.length = lf.length := by rw [← htl, List.length_map]
    refine ⟨D4, tl.map fun b => sOf [b], rfl, .inl (.inl (.inl (by rw [hDa4, hP, List.map_map]; rfl))), ?_, ?_⟩
    · have hl1 : ∀ l : List Bool, ((l.map fun b => sOf [b]).map fun x => x.length).sum = l.length := fun l => by
        induction l with
        | nil => rfl
        | cons b r ih => simp only [List.map_cons, List.sum_cons, ih, sOf_len, List.length_cons, List.length_nil]; omega
      rw [hl1, List.length_map]
      have : ("" : Str).length = 0 := by decide +kernel
      rw [this]
      omega
    rw [join_sOf]
    refine ⟨_, by walk_at "put", ?_⟩
    have s4 := s3.trans hS4
    walk_at "go"
    -- others
    refine ws_set hc (by walk_at "mb") ?_
    refine w_bin ?_
    have hl2 : ((List.replicate 2 lf).flatten).length = lf.length * 2 := by rw [rep_len, Nat.mul_comm]
    have pl2 : Pat ((List.replicate 2 lf).flatten) := by
      refine ⟨by omega, by omega, ?_⟩
      rw [List.replicate_succ, List.flatten_cons]
      exact List.mem_append_left _ plf.plus
    have plm : Pat ([false] ++ lf) := ⟨by simp, by simp; omega, List.mem_append_right _ plf.plus⟩
    have hlm : ([false] ++ lf).length = lf.length + 1 := by simp
    walk_at "w"
    refine b_mulS (by decide) (by decide) (by rw [sOf_len]; show lf.length * 2 ≤ 16777216; omega) ?_
    rw [show (2 : Int).toNat = 2 from rfl, rep_sOf]
    walk_at "w"
    rw [minus_sOf]
    refine b_addS (by rw [sOf_len, sOf_len]; show 1 + lf.length ≤ sizeLine; omega) ?_
    rw [sOf_app]
    walk_at "w"
    refine ⟨(by show 5 ≤ sizeLine; omega), fun D5 H5 hD5 e5 hD5' => ?_⟩
    have hlist : [V.str (sOf ls), V.str (sOf lf), V.str (sOf (List.replicate 2 lf).flatten), V.str "+", V.str (sOf ([false] ++ lf))] = ([ls, lf, (List.replicate 2 lf).flatten, [true], [false] ++ lf] : List (List Bool)).map fun w => V.str (sOf w) := by
      rw [plus_sOf]; rfl
    rw [hlist] at hD5'
    refine WE.imp (Q := fun v H' => Same H5 H' ∧ ∃ (D6 : Addr) (ws : List (List Bool)), v = .ref D6 ∧ H' D6 = some (.lst (ws.map fun w => V.str (sOf w))) ∧ ws.length ≤ 1 ∧ ∀ w ∈ ws, Pat w ∧ w.length ≤ 60) ?_ (fun v H7 ⟨e7, D6, ws, ev, hD6, hws, hpw⟩ => ?_)
    · walk_at "w"
      refine ⟨(by show 1 ≤ sizeLine; omega), fun D7 H8 hD7 e8 hD7' => ?_⟩
      walk_at "w"
      refine b_inPlus ?_
      refine ⟨_, rfl, ?_⟩
      by_cases hmem : true ∈ tl
      · rw [decide_eq_true hmem]
        refine b_rep (k := 1) hD7' (by decide) (by decide) (by show 1 * 1 ≤ sizeLine; omega) fun D6 Ha hD6 ea hD6' => ?_
        refine ⟨e8.trans ea, D6, [tl], rfl, hD6', by simp, fun w hw => ?_⟩
        rw [List.mem_singleton] at hw
        subst hw
        exact ⟨⟨by omega, by omega, hmem⟩, by omega⟩
      · rw [decide_eq_false hmem]
        refine b_rep (k := 0) hD7' (by decide) (by decide) (by show 1 * 0 ≤ sizeLine; omega) fun D6 Ha hD6 ea hD6' => ?_
        exact ⟨e8.trans ea, D6, [], rfl, hD6', by simp, fun w hw => nomatch hw⟩
    subst ev
    refine b_cat (e7 _ _ hD5') hD6 (by rw [List.length_map, List.length_map]; show 5 + ws.length ≤ sizeLine; omega) fun D8 H9 hD8 e9 hD8' => ?_
    rw [← List.map_append] at hD8'
    have hall : ∀ w ∈ [ls, lf, (List.replicate 2 lf).flatten, [true], [false] ++ lf] ++ ws, Pat w ∧ w.length ≤ 60 := fun w hw => by
      rcases List.mem_append.mp hw with hw | hw
      · rcases List.mem_cons.mp hw with rfl | hw
        · exact ⟨pls, by omega⟩
        rcases List.mem_cons.mp hw with rfl | hw
        · exact ⟨plf, by omega⟩
        rcases List.mem_cons.mp hw with rfl | hw
        · exact ⟨pl2, by omega⟩
        rcases List.mem_cons.mp hw with rfl | hw
        · exact ⟨⟨by decide, by decide, by decide⟩, by decide⟩
        rcases List.mem_cons.mp hw with rfl | hw
        · exact ⟨plm, by omega⟩
        cases hw
      · exact hpw w hw
    generalize [ls, lf, (List.replicate 2 lf).flatten, [true], [false] ++ lf] ++ ws = wl at hD8' hall
    refine ⟨_, by walk_at "put", ?_⟩
    have s9 := s4.trans (e5.trans (e7.trans e9))
    walk_at "go"
    refine ws_for owns_cx hc ?_
    refine wi_list ?_
    walk_at "w"
    refine ⟨D8, _, rfl, .inl (.inl hD8'), _, _, wlk_list (.inl (.inl hD8')), fun j σ' H' => Same H9 H' ∧ ∃ o, σ' = [some (.ref sc), some (.int i), some (.ref p), some (.str (sOf tl)), some (.ref D8), o, none, none, some (.str (sOf lf)), some (.str (sOf ls)), none], ⟨Same.refl _, _, rfl⟩, fun j σ' H' h => h.1, fun j σ' Ha hj ⟨ea, o, hσ⟩ => ?_, fun σ' Ha ⟨ea, o, hσ⟩ => ?_⟩
    · subst hσ
      rw [List.length_map] at hj
      rw [show (wl.map fun w => V.str (sOf w)).getD j .non = V.str (sOf wl[j]) by rw [List.getD_eq_getElem?_getD, List.getElem?_map, List.getElem?_eq_getElem hj]; rfl]
      obtain ⟨pw, hw⟩ := hall _ (List.getElem_mem hj)
      have hm1 : lf.length * wl[j].length ≤ 30 * 60 := Nat.mul_le_mul (by omega) hw
      have hm2 : wl[j].length * lf.length ≤ 60 * 30 := Nat.mul_le_mul hw (by omega)
      refine wg_name hc (by walk_at "put") (by walk_at "mb") ?_
      walk_at "go"
      walk_at "w"
      refine w_call hc (by walk_at "mb") h4 hr (by decide) passL ?_
      walk_at "w"
      refine ⟨lf, _, rfl, plf, pw, by omega, by omega, fun Hb eb => ?_⟩
      walk_at "w"
      refine w_call hc (by walk_at "mb") h4 hr (by decide) passL ?_
      walk_at "w"
      refine ⟨_, lf, rfl, pw, plf, by omega, by omega, fun Hc ec => ?_⟩
      walk_at "w"
      exact ⟨ea.trans (eb.trans ec), _, rfl⟩
    · subst hσ
      walk_at "w"
      exact ⟨eH.trans (s9.trans ea), _, _, _, _, _, _, _, rfl⟩
  -- the late ones
  subst hσ
  walk_at "w"
  refine ws_par hc (by kernel_rfl) (by kernel_rfl) (by decide +kernel) ?_ (by with_unfolding_all rfl) (by with_unfolding_all rfl) (by with_unfolding_all rfl) (by with_unfolding_all rfl) ⟨6, 7, rfl, rfl⟩
  have rep_ok : ∀ k : Nat, k ≤ 10000 → (sOf ((List.replicate k [false]).flatten)).length = k := fun k hk => by rw [sOf_len, rep_len]; simp
  have m1 : ("-" : Str).length = 1 := by decide +kernel
  refine w_make hc (by walk_at "mb") SC.g h6 hr (by decide) passL ?_
  walk_at "w"
  refine b_mulS (by decide) (by decide) (by rw [m1]; decide) ?_
  rw [show (9999 : Int).toNat = 9999 from rfl, minus_rep]
  walk_at "w"
  rw [plus_sOf]
  refine b_addS (by rw [rep_ok 9999 (by omega), sOf_len]; show 9999 + 1 ≤ sizeLine; omega) ?_
  rw [sOf_app]
  walk_at "w"
  refine made_sv (l := late 9999) ⟨late_pat (by decide), fun a l H1 e1 gl kl dl ha => ?_⟩
  refine w_make hc (by walk_at "mb") SC.g h6 hr (by decide) passL ?_
  walk_at "w"
  refine b_mulS (by decide) (by decide) (by rw [m1]; decide) ?_
  rw [show (4999 : Int).toNat = 4999 from rfl, minus_rep]
  walk_at "w"
  try rw [plus_sOf]
  refine b_addS (by rw [rep_ok 4999 (by omega), sOf_len]; show 4999 + 1 ≤ sizeLine; omega) ?_
  rw [sOf_app]
  walk_at "w"
  refine made_sv (l := late 4999) ⟨late_pat (by decide), fun b m H2 e2 gm km dm hb2 => ?_⟩
  refine ⟨_, _, by walk_at "put", by walk_at "put", ?_⟩
  have ha2 := ha.same e2
  rw [late_len] at dl dm
  have dl : l.length ∣ 10000 := dl
  have dm : m.length ∣ 10000 := Nat.dvd_trans dm ⟨2, rfl⟩
  have kl : ∀ n, kp l n = decide (n % 10000 = 9999) := fun n => by rw [kl, late_kp]
  have km : ∀ n, kp m n = decide (n % 5000 = 4999) := fun n => by rw [km, late_kp]
  have hL : Nat.lcm l.length m.length ≤ 10000 := Nat.le_of_dvd (by decide) (Nat.lcm_dvd dl dm)
  have hL2 : Nat.lcm m.length l.length ≤ 10000 := Nat.le_of_dvd (by decide) (Nat.lcm_dvd dm dl)
  have few : ∀ (g : Nat → Bool) (L : Nat), L ≤ 10000 → (∀ n, g n = true → n % 5000 = 4999) → ct g L < 4090 := fun g L hL h => by
    have := ct_few (f := g) (N := L) (xs := [4999, 9999]) fun n hn hg => by
      have := h n hg
      have : n = 4999 ∨ n = 9999 := by omega
      rcases this with rfl | rfl <;> simp
    simp at this
    omega
  have hu : ∀ n, (kp l n || kp m n) = kp m n := fun n => by
    rw [kl, km]
    by_cases h : n % 10000 = 9999
    · rw [decide_eq_true h, decide_eq_true (show n % 5000 = 4999 by omega)]; rfl
    · rw [decide_eq_false h]; rfl
  have hi : ∀ n, (kp l n && kp m n) = kp l n := fun n => by
    rw [kl, km]
    by_cases h : n % 10000 = 9999
    · rw [decide_eq_true h, decide_eq_true (show n % 5000 = 4999 by omega)]; rfl
    · rw [decide_eq_false h]; rfl
  have hd0 : ∀ n, (kp l n && !kp m n) = false := fun n => by
    rw [kl, km]
    by_cases h : n % 10000 = 9999
    · rw [decide_eq_true h, decide_eq_true (show n % 5000 = 4999 by omega)]; rfl
    · rw [decide_eq_false h]; rfl
  have hd1 : ∀ n, (kp m n && !kp l n) = kp half2 n := fun n => by
    rw [kl, km, half2_kp]
    by_cases h : n % 10000 = 4999
    · rw [decide_eq_true h, decide_eq_true (show n % 5000 = 4999 by omega), decide_eq_false (show ¬ n % 10000 = 9999 by omega)]; rfl
    · rw [decide_eq_false h]
      by_cases h2 : n % 5000 = 4999
      · rw [decide_eq_true h2, decide_eq_true (show n % 10000 = 9999 by omega)]; rfl
      · rw [decide_eq_false h2]; rfl
  have kmt : ∀ n, kp m n = true → n % 5000 = 4999 := fun n h => by rw [km] at h; exact of_decide_eq_true h
  have klt : ∀ n, kp l n = true → n % 5000 = 4999 := fun n h => by rw [kl] at h; have := of_decide_eq_true h; omega
  walk_at "go"
  walk_at "w"
  refine w_call hc (by walk_at "mb") h5 hr (by decide) passL ?_
  walk_at "w"
  refine ⟨a, b, l, m, rfl, ha2, hb2, hL, few _ _ hL (fun n h => kmt n (by rw [← hu]; exact h)), ResK.opa (Nat.dvd_refl _) fun v3 H3 e3 t3 => ?_⟩
  walk_at "w"
  refine b_neOp h11 hr (by decide) (t3.congr hu) (OpA.of (hb2.same e3) (Nat.dvd_refl _)) ?_
  walk_at "w"
  refine w_call hc (by walk_at "mb") h7 hr (by decide) passL ?_
  walk_at "w"
  refine ⟨a, b, l, m, rfl, ha2.same e3, hb2.same e3, hL, few _ _ hL (fun n h => klt n (by rw [← hi]; exact h)), ResK.opa (Nat.dvd_refl _) fun v4 H4 e4 t4 => ?_⟩
  have s4 := e3.trans e4
  walk_at "w"
  refine b_neOp h11 hr (by decide) (t4.congr hi) (OpA.of (ha2.same s4) (Nat.dvd_refl _)) ?_
  walk_at "w"
  refine w_call hc (by walk_at "mb") h8 hr (by decide) passL ?_
  walk_at "w"
  refine ⟨a, b, l, m, rfl, ha2.same s4, hb2.same s4, hL, few _ _ hL (fun n h => by have z : (kp l n && !kp m n) = true := h; rw [hd0] at z; cases z), fun _ H5 e5 => ?_, fun ⟨n, hn⟩ => Bool.noConfusion ((hd0 n).symm.trans hn)⟩
  have s5 := s4.trans e5
  walk_at "w"
  refine w_call hc (by walk_at "mb") h8 hr (by decide) passL ?_
  walk_at "w"
  refine ⟨b, a, m, l, rfl, hb2.same s5, ha2.same s5, hL2, few _ _ hL2 (fun n h => by
    have z : (kp m n && !kp l n) = true := h
    rw [Bool.and_eq_true] at z
    exact kmt n z.1), ResK.opa (Nat.dvd_refl _) fun v6 H6 e6 t6 => ?_⟩
  walk_at "w"
  refine w_make hc (by walk_at "mb") SC.g h6 hr (by decide) passL ?_
  walk_at "w"
  refine b_mulS (by decide) (by decide) (by rw [m1]; decide) ?_
  rw [show (4999 : Int).toNat = 4999 from rfl, minus_rep]
  walk_at "w"
  try rw [plus_sOf]
  refine b_addS (by rw [rep_ok 4999 (by omega), sOf_len]; show 4999 + 1 ≤ sizeLine; omega) ?_
  rw [sOf_app]
  walk_at "w"
  refine b_mulS (by decide) (by decide) (by rw [m1]; decide) ?_
  rw [show (5000 : Int).toNat = 5000 from rfl, minus_rep]
  refine b_addS (by rw [rep_ok 5000 (by omega), sOf_len]; show (late 4999).length + 5000 ≤ sizeLine; rw [late_len]; omega) ?_
  rw [sOf_app]
  walk_at "w"
  refine made_sv (l := half2) ⟨half2_pat, fun c r H7 e7 gr kr dr hc7 => ?_⟩
  refine b_eqOp h11 hr (by decide) ((t6.congr hd1).same e7) ((OpA.of hc7 (Nat.dvd_refl _)).congr kr) ?_
  exact q _

end
open He in
theorem factsL {P : Program} {w : World} {K : PySem.W.Frag} {h : Heap} {mg : Str → Option Value} {f : Addr} (X : K.In h) (G : h.Ns mainGlobals mg) (hfa : mg ("law" : Str) = some (.ref f)) (c : SaysY fsL fnL K) :
    ∃ fd : FuncData, (∀ (s : Shared) (v : Value), BindsTo s fd ⟨[v], []⟩ [("_law_script", v)]) ∧ ∀ base : Heap, K.In base → base.Ns mainGlobals mg → FnOk P w K mg base (L2.CX P w) 10 f fd ["_law_script"] (spLaw K) := by
  have hb : ∀ x ∈ BB, mg x = none := fun x hx => free_ok X G (SaysY.mem (f := fun K => (Fa.free x).ok K) c (List.mem_append_right _ (List.mem_map.mpr ⟨x, hx, rfl⟩)))
  have eg := hfa.symm.trans (He.glo_ok X G (c.fact 24))
  cases eg
  obtain ⟨fd_is_integer, F_is_integer⟩ : ∃ fd, FunD K "is_integer" "is_integer" (defArgs s_is_integer) (defBody s_is_integer) (defScope s_is_integer) [.int 0] [] (He.ga K "is_integer") fd := c.def_ 0 rfl
  obtain ⟨fd_check_number, F_check_number⟩ : ∃ fd, FunD K "check_number" "check_number" (defArgs s_check_number) (defBody s_check_number) (defScope s_check_number) [] [] (He.ga K "check_number") fd := c.def_ 1 rfl
  obtain ⟨fd_least_pattern, F_least_pattern⟩ : ∃ fd, FunD K "least_pattern" "least_pattern" (defArgs s_least_pattern) (defBody s_least_pattern) (defScope s_least_pattern) [] [] (He.ga K "least_pattern") fd := c.def_ 2 rfl
  obtain ⟨fd_pattern_of, F_pattern_of⟩ : ∃ fd, FunD K "pattern_of" "pattern_of" (defArgs s_pattern_of) (defBody s_pattern_of) (defScope s_pattern_of) [] [] (He.ga K "pattern_of") fd := c.def_ 3 rfl
  obtain ⟨fd_Sieve_is_pattern, F_Sieve_is_pattern⟩ : ∃ fd, FunD K "is_pattern" "Sieve.is_pattern" (defArgs s_Sieve_is_pattern) (defBody s_Sieve_is_pattern) (defScope s_Sieve_is_pattern) [] [] (rcA "staticmethod" "Sieve" "is_pattern" K) fd := c.def_ 5 rfl
  obtain ⟨fd_Sieve___init__, F_Sieve___init__⟩ : ∃ fd, FunD K "__init__" "Sieve.__init__" (defArgs s_Sieve___init__) (defBody s_Sieve___init__) (defScope s_Sieve___init__) [] [] (He.ma K (He.ga K "Sieve") "__init__") fd := c.def_ 4 rfl
  obtain ⟨fd_Sieve_pattern, F_Sieve_pattern⟩ : ∃ fd, FunD K "pattern" "Sieve.pattern" (defArgs s_Sieve_pattern) (defBody s_Sieve_pattern) (defScope s_Sieve_pattern) [] [] (rcA "property" "Sieve" "pattern" K) fd := c.def_ 7 rfl
  obtain ⟨fd_Sieve_period, F_Sieve_period⟩ : ∃ fd, FunD K "period" "Sieve.period" (defArgs s_Sieve_period) (defBody s_Sieve_period) (defScope s_Sieve_period) [] [] (rcA "property" "Sieve" "period" K) fd := c.def_ 8 rfl
  obtain ⟨fd_Sieve_is_kept, F_Sieve_is_kept⟩ : ∃ fd, FunD K "is_kept" "Sieve.is_kept" (defArgs s_Sieve_is_kept) (defBody s_Sieve_is_kept) (defScope s_Sieve_is_kept) [] [] (He.ma K (He.ga K "Sieve") "is_kept") fd := c.def_ 9 rfl
  obtain ⟨fd_Sieve___eq__, F_Sieve___eq__⟩ : ∃ fd, FunD K "__eq__" "Sieve.__eq__" (defArgs s_Sieve___eq__) (defBody s_Sieve___eq__) (defScope s_Sieve___eq__) [] [] (He.ma K (He.ga K "Sieve") "__eq__") fd := c.def_ 10 rfl
  obtain ⟨fd_common_divisor, F_common_divisor⟩ : ∃ fd, FunD K "common_divisor" "common_divisor" (defArgs s_common_divisor) (defBody s_common_divisor) (defScope s_common_divisor) [] [] (He.ga K "common_divisor") fd := c.def_ 11 rfl
  obtain ⟨fd_common_multiple, F_common_multiple⟩ : ∃ fd, FunD K "common_multiple" "common_multiple" (defArgs s_common_multiple) (defBody s_common_multiple) (defScope s_common_multiple) [] [] (He.ga K "common_multiple") fd := c.def_ 12 rfl
  obtain ⟨fd_check_limit, F_check_limit⟩ : ∃ fd, FunD K "check_limit" "check_limit" (defArgs s_check_limit) (defBody s_check_limit) (defScope s_check_limit) [] [] (He.ga K "check_limit") fd := c.def_ 13 rfl
  obtain ⟨fd_sieve_from, F_sieve_from⟩ : ∃ fd, FunD K "sieve_from" "sieve_from" (defArgs s_sieve_from) (defBody s_sieve_from) (defScope s_sieve_from) [] [] (He.ga K "sieve_from") fd := c.def_ 15 rfl
  obtain ⟨fd__law_pool, F__law_pool⟩ : ∃ fd, FunD K "_law_pool" "_law_pool" (defArgs s__law_pool) (defBody s__law_pool) (defScope s__law_pool) [] [] (He.ga K "_law_pool") fd := c.def_ 20 rfl
  obtain ⟨fd__law_take, F__law_take⟩ : ∃ fd, FunD K "_law_take" "_law_take" (defArgs s__law_take) (defBody s__law_take) (defScope s__law_take) [] [] (He.ga K "_law_take") fd := c.def_ 21 rfl
  obtain ⟨fd__law_pattern, F__law_pattern⟩ : ∃ fd, FunD K "_law_pattern" "_law_pattern" (defArgs s__law_pattern) (defBody s__law_pattern) (defScope s__law_pattern) [] [] (He.ga K "_law_pattern") fd := c.def_ 22 rfl
  obtain ⟨fd_common_period, F_common_period⟩ : ∃ fd, FunD K "common_period" "common_period" (defArgs s_common_period) (defBody s_common_period) (defScope s_common_period) [] [] (He.ga K "common_period") fd := c.def_ 14 rfl
  obtain ⟨fd_union, F_union⟩ : ∃ fd, FunD K "union" "union" (defArgs s_union) (defBody s_union) (defScope s_union) [] [] (He.ga K "union") fd := c.def_ 16 rfl
  obtain ⟨fd_intersection, F_intersection⟩ : ∃ fd, FunD K "intersection" "intersection" (defArgs s_intersection) (defBody s_intersection) (defScope s_intersection) [] [] (He.ga K "intersection") fd := c.def_ 17 rfl
  obtain ⟨fd_difference, F_difference⟩ : ∃ fd, FunD K "difference" "difference" (defArgs s_difference) (defBody s_difference) (defScope s_difference) [] [] (He.ga K "difference") fd := c.def_ 18 rfl
  obtain ⟨fd_complement, F_complement⟩ : ∃ fd, FunD K "complement" "complement" (defArgs s_complement) (defBody s_complement) (defScope s_complement) [] [] (He.ga K "complement") fd := c.def_ 19 rfl
  obtain ⟨fd__law_same, F__law_same⟩ : ∃ fd, FunD K "_law_same" "_law_same" (defArgs s__law_same) (defBody s__law_same) (defScope s__law_same) [] [] (He.ga K "_law_same") fd := c.def_ 23 rfl
  obtain ⟨fd__law_right, F__law_right⟩ : ∃ fd, FunD K "_law_right" "_law_right" (defArgs s__law_right) (defBody s__law_right) (defScope s__law_right) [] [] (He.ga K "_law_right") fd := c.def_ 24 rfl
  obtain ⟨fd_law, F_law⟩ : ∃ fd, FunD K "law" "law" (defArgs s_law) (defBody s_law) (defScope s_law) [] [] (He.ga K "law") fd := c.def_ 25 rfl
  have bl := FunD.bindsA (ps := ["_law_script"]) F_law fun _ _ _ _ _ _ us hl => match us, hl with | [_], _ => rfl
  refine ⟨fd_law, fun s v => bl s [v] rfl, fun base KB GB => ?_⟩
  have SC : SvC K mg := ⟨cls_ok (c.fact 25), noat_ok (c.fact 29), noat_ok (c.fact 30), He.glo_ok X G (c.fact 5), creadB_ok (c.fact 27), cvalB_ok (c.fact 40), fun e => tyB_ok (c.fact 28) (cls_ok (c.fact 25)) e⟩
  have gm_Sieve : mg "Sieve" = some (.ref (He.ga K "Sieve")) := He.glo_ok X G (c.fact 5)
  have R_is_integer := ok_is_integer (P := P) (w := w) (base := base) F_is_integer (by assumption)
  have E_is_integer : Fn P w K mg base "is_integer" _ _ := ⟨⟨_, He.glo_ok X G (c.fact 1), F_is_integer.kp, R_is_integer⟩⟩
  have R_check_number := ok_check_number (P := P) (w := w) (base := base) F_check_number (by assumption) (by assumption)
  have E_check_number : Fn P w K mg base "check_number" _ _ := ⟨⟨_, He.glo_ok X G (c.fact 6), F_check_number.kp, R_check_number⟩⟩
  have R_least_pattern := ok_least_pattern (P := P) (w := w) (base := base) F_least_pattern (by assumption)
  have E_least_pattern : Fn P w K mg base "least_pattern" _ _ := ⟨⟨_, He.glo_ok X G (c.fact 3), F_least_pattern.kp, R_least_pattern⟩⟩
  have R_pattern_of := ok_pattern_of (P := P) (w := w) (base := base) F_pattern_of (by assumption)
  have E_pattern_of : Fn P w K mg base "pattern_of" _ _ := ⟨⟨_, He.glo_ok X G (c.fact 8), F_pattern_of.kp, R_pattern_of⟩⟩
  have R_Sieve_is_pattern := ok_Sieve_is_pattern (P := P) (w := w) (base := base) F_Sieve_is_pattern (by assumption) (by assumption)
  have E_Sieve_is_pattern : SMt P w K mg base (He.ga K "Sieve") "is_pattern" _ _ := ⟨⟨_, _, _, creadB_ok (c.fact 27), (getB_ok (c.fact 31)).1, (getB_ok (c.fact 31)).2.choose_spec, c.fact 32, R_Sieve_is_pattern⟩⟩
  have R_Sieve___init__ := ok_Sieve___init__ (P := P) (w := w) (base := base) F_Sieve___init__ (by assumption) (by assumption) (by assumption) (by assumption)
  have E_Sieve___init__ : Mkr P w K mg base (He.ga K "Sieve") _ _ := ⟨⟨_, mkr_ok (c.fact 26), R_Sieve___init__⟩⟩
  have R_Sieve_pattern := ok_Sieve_pattern (P := P) (w := w) (base := base) F_Sieve_pattern (by assumption) (by assumption)
  have E_Sieve_pattern : SvP P w K mg base "pattern" _ := ⟨⟨_, _, propB_ok (c.fact 36), R_Sieve_pattern⟩⟩
  have R_Sieve_period := ok_Sieve_period (P := P) (w := w) (base := base) F_Sieve_period (by assumption) (by assumption)
  have E_Sieve_period : SvP P w K mg base "period" _ := ⟨⟨_, _, propB_ok (c.fact 37), R_Sieve_period⟩⟩
  have R_Sieve_is_kept := ok_Sieve_is_kept (P := P) (w := w) (base := base) F_Sieve_is_kept (by assumption) (by assumption) (by assumption)
  have E_Sieve_is_kept : Mth P w K mg base (He.ga K "Sieve") "is_kept" _ _ := ⟨⟨_, cls_ok (c.fact 25), meth_ok (c.fact 38), R_Sieve_is_kept⟩⟩
  have R_Sieve___eq__ := ok_Sieve___eq__ (P := P) (w := w) (base := base) F_Sieve___eq__ (by assumption) (by assumption)
  have E_Sieve___eq__ : EqM P w K mg base (He.ga K "Sieve") _ _ := ⟨⟨_, eqcB_ok (c.fact 39), R_Sieve___eq__⟩⟩
  have R_common_divisor := ok_common_divisor (P := P) (w := w) (base := base) F_common_divisor (by assumption)
  have E_common_divisor : Fn P w K mg base "common_divisor" _ _ := ⟨⟨_, He.glo_ok X G (c.fact 9), F_common_divisor.kp, R_common_divisor⟩⟩
  have R_common_multiple := ok_common_multiple (P := P) (w := w) (base := base) F_common_multiple (by assumption) (by assumption)
  have E_common_multiple : Fn P w K mg base "common_multiple" _ _ := ⟨⟨_, He.glo_ok X G (c.fact 11), F_common_multiple.kp, R_common_multiple⟩⟩
  have R_check_limit := ok_check_limit (P := P) (w := w) (base := base) F_check_limit (by assumption) (by assumption)
  have E_check_limit : Fn P w K mg base "check_limit" _ _ := ⟨⟨_, He.glo_ok X G (c.fact 12), F_check_limit.kp, R_check_limit⟩⟩
  have R_sieve_from := ok_sieve_from (P := P) (w := w) (base := base) F_sieve_from (by assumption) (by assumption) (by assumption) (by assumption)
  have E_sieve_from : Fn P w K mg base "sieve_from" _ _ := ⟨⟨_, He.glo_ok X G (c.fact 14), F_sieve_from.kp, R_sieve_from⟩⟩
  have R__law_pool := ok__law_pool (P := P) (w := w) (base := base) F__law_pool (by assumption)
  have E__law_pool : Fn P w K mg base "_law_pool" _ _ := ⟨⟨_, He.glo_ok X G (c.fact 21), F__law_pool.kp, R__law_pool⟩⟩
  have R__law_take := ok__law_take (P := P) (w := w) (base := base) F__law_take (by assumption)
  have E__law_take : Fn P w K mg base "_law_take" _ _ := ⟨⟨_, He.glo_ok X G (c.fact 15), F__law_take.kp, R__law_take⟩⟩
  have R__law_pattern := ok__law_pattern (P := P) (w := w) (base := base) F__law_pattern (by assumption) (by assumption)
  have E__law_pattern : Fn P w K mg base "_law_pattern" _ _ := ⟨⟨_, He.glo_ok X G (c.fact 22), F__law_pattern.kp, R__law_pattern⟩⟩
  have R_common_period := ok_common_period (P := P) (w := w) (base := base) F_common_period (by assumption) (by assumption) (by assumption) (by assumption) (by assumption)
  have E_common_period : Fn P w K mg base "common_period" _ _ := ⟨⟨_, He.glo_ok X G (c.fact 13), F_common_period.kp, R_common_period⟩⟩
  have R_union := ok_union (P := P) (w := w) (base := base) F_union (by assumption) (by assumption) (by assumption) (by assumption)
  have E_union : Fn P w K mg base "union" _ _ := ⟨⟨_, He.glo_ok X G (c.fact 18), F_union.kp, R_union⟩⟩
  have R_intersection := ok_intersection (P := P) (w := w) (base := base) F_intersection (by assumption) (by assumption) (by assumption) (by assumption)
  have E_intersection : Fn P w K mg base "intersection" _ _ := ⟨⟨_, He.glo_ok X G (c.fact 19), F_intersection.kp, R_intersection⟩⟩
  have R_difference := ok_difference (P := P) (w := w) (base := base) F_difference (by assumption) (by assumption) (by assumption) (by assumption)
  have E_difference : Fn P w K mg base "difference" _ _ := ⟨⟨_, He.glo_ok X G (c.fact 20), F_difference.kp, R_difference⟩⟩
  have R_complement := ok_complement (P := P) (w := w) (base := base) F_complement (by assumption) (by assumption) (by assumption) (by assumption) (by assumption)
  have E_complement : Fn P w K mg base "complement" _ _ := ⟨⟨_, He.glo_ok X G (c.fact 17), F_complement.kp, R_complement⟩⟩
  have R__law_same := ok__law_same (P := P) (w := w) (base := base) F__law_same (by assumption) (by assumption) (by assumption) (by assumption)
  have E__law_same : Fn P w K mg base "_law_same" _ _ := ⟨⟨_, He.glo_ok X G (c.fact 16), F__law_same.kp, R__law_same⟩⟩
  have R__law_right := ok__law_right (P := P) (w := w) (base := base) F__law_right (by assumption) (by assumption) (by assumption) (by assumption) (by assumption) (by assumption) (by assumption) (by assumption)
  have E__law_right : Fn P w K mg base "_law_right" _ _ := ⟨⟨_, He.glo_ok X G (c.fact 23), F__law_right.kp, R__law_right⟩⟩
  exact ok_law F_law (by assumption) (by assumption) (by assumption) (by assumption) (by assumption) (by assumption) (by assumption) (by assumption) (by assumption) (by assumption)
theorem runL (w : World) : HandSHeadRun.RunEq RwL (PySem.W.view RwL.prog [29]) hkL obL 20000 ["_wall", "SieveError", "InvalidPattern", "InvalidNumber", "NothingKept", "LimitExceeded", "is_integer", "check_number", "least_pattern", "pattern_of", "Sieve", "common_divisor", "common_multiple", "check_limit", "common_period", "sieve_from", "union", "intersection", "difference", "complement", "_law_pool", "_law_take", "_law_pattern", "_law_same", "_law_right"] w := by
  intro os
  kernel_rfl
end Sv
open PySem PySem.W PySem.Calls PyProof.Rows
theorem PySem.Challenge.cw_sieverows_k15_sets_of_numbers_holds : PySem.Challenge.rw_sieverows_k15_sets_of_numbers.Holds := by
  w_on; o_law
  refine HandSHeadRun.head_any (r := OpenLaw.row PySem.Challenge.rw_sieverows_k15_sets_of_numbers) (q := view (OpenLaw.row PySem.Challenge.rw_sieverows_k15_sets_of_numbers).prog [29]) (H := Sv.hkL) (ob := Sv.obL) (M := 20000) (loose := ["_wall", "SieveError", "InvalidPattern", "InvalidNumber", "NothingKept", "LimitExceeded", "is_integer", "check_number", "least_pattern", "pattern_of", "Sieve", "common_divisor", "common_multiple", "check_limit", "common_period", "sieve_from", "union", "intersection", "difference", "complement", "_law_pool", "_law_take", "_law_pattern", "_law_same", "_law_right"]) (d := HandSHeadRun.topDef (OpenLaw.row PySem.Challenge.rw_sieverows_k15_sets_of_numbers).prog 29) (kwd := []) Sv.obL_eq
    (by kernel_rfl) (fun s => by kernel_rfl) Sv.runL (by kernel_rfl) (by kernel_rfl) (by kernel_rfl) (by rfl) (by first | assumption | decide +kernel) (by decide +kernel) ⟨rfl, rfl, rfl, rfl, rfl, by decide +kernel⟩ ?hw ?hc
  case hw => w_witness2
  case hc =>
    refine Sv.walk_ofW (L := PySem.Challenge.rw_sieverows_k15_sets_of_numbers) (m := 63) (j := 10) (par := "_law_script") rfl (by decide) (by kernel_rfl) ⟨rfl, by decide, by decide⟩ ?F
    intro w mg fa h Y G hmg0
    obtain ⟨K, KX, c⟩ := Y
    have hmg : mg ("law" : PySem.Str) = some (.ref fa) := by
      have e : (HandSHeadRun.topDef (OpenLaw.row PySem.Challenge.rw_sieverows_k15_sets_of_numbers).prog 29).name = ("law" : PySem.Str) := by kernel_rfl
      rw [← e]
      exact hmg0
    obtain ⟨fd, hb, hF⟩ := Sv.factsL (P := (PySem.Challenge.rw_sieverows_k15_sets_of_numbers).prog) (w := w) KX G hmg c
    exact ⟨K, fd, Sv.spLaw K, KX, hb, fun H a ns hl _ hS => ⟨a, ns, rfl, hS, hl, fun _ => rfl⟩, hF⟩
