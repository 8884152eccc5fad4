import PyProof.Rows.All
import Wide.All
import OpenK.AllK
import Wide.FinOn
import KE.KStateDown
import HandS.ForMost
import HandS.ForExc
import HandS.Star
import HandS.MethStar
import HandS.ClsMeth
import HandS.Property
import HandS.IsInst
import HandS.TupMul
import HandS.TupAny
import HandS.Flow
import HandS.Style
import HandS.Defaults
import HandS.Wide
import HandS.Head0
import HandS.Head1
import HandS.Head2
import HandS.HeadEnd
import HandS.HeadHook1
import HandS.HeadHook2
import HandS.HeadNt
import HandS.SlotsOwn
import HandS.Small
import PyProof.RulesMatchSeq
import PyProof.Rows.MatchSeqLen
import KE.KUnpackStar
import KE.GoesMore
import KE.GoesEnum
import HandS.Comp
import PyProof.MeetsIn
import PyProof.Conv_bool
import HandS.Set
import HandS.SetFor
import HandS.Strs
import PyProof.MinMaxWalk
import HandS.List
import HandS.Dict
import HandS.Iter
import HandS.DictComp
import HandS.TupSets
import HandS.Lambda
import HandS.Nested
import HandS.ExcIs
import HandS.ExcField
import HandS.HeadHook4
import HandS.HeadWalk
import HandS.Deep
import HandS.ExcInit
import HandS.FStr
import KE.KExcIs
import PyProof.Rows.RegStrFacts
import HandS.Text
import HandS.ToBytes
import PyProof.FString3
import PyProof.Rows.StrIntSpec
import PySem.Challenge.RW_oilwalk_k59_whole_logs_and_stored_ways
set_option Elab.async false
set_option linter.all false
set_option maxRecDepth 100000
set_option maxHeartbeats 2000000
namespace Oil
open PySem PySem.Spec PyProof.Rows L2

/-! ### judgements at a point: the syntax, the slots, the heap, what is wanted behind -/
abbrev Pins := List (Addr × Obj)
def EV (X : Cx) (e : Expr) (σ : L2.St) (H : Hp) (Q : VK) : Prop := ∀ (pins : Pins) (s : Shared), Inv X pins σ H s → wpAny (model X.prog X.w) X.A (eval e X.env) (EP X pins σ Q) X.xe s
def BV (X : Cx) (c : Expr) (σ : L2.St) (H : Hp) (Q : Bool → Hp → Prop) : Prop := ∀ (pins : Pins) (s : Shared), Inv X pins σ H s → wpAny (model X.prog X.w) X.A (isTrue c X.env (eval c X.env)) (TP X pins σ Q) X.xe s
def br (Qt Qf : Hp → Prop) : Bool → Hp → Prop := fun b H => match b with
  | true => Qt H
  | false => Qf H
def TV (X : Cx) (c : Expr) (σ : L2.St) (H : Hp) (Qt Qf : Hp → Prop) : Prop := BV X c σ H (br Qt Qf)
def WV (X : Cx) (c : Expr) (σ : L2.St) (H : Hp) (Qt Qf : Hp → Prop) : Prop := ∀ (whole : Sem Value) (pins : Pins) (s : Shared), Inv X pins σ H s → wpAny (model X.prog X.w) X.A (isTrue c X.env whole) (TP X pins σ (br Qt Qf)) X.xe s
def AV (X : Cx) (es : List Expr) (σ : L2.St) (H : Hp) (Q : List V → Hp → Prop) : Prop := ∀ (pos : Pos) (pins : Pins) (s : Shared), Inv X pins σ H s → wpAny (model X.prog X.w) X.A (spliced (backTo pos (starEach es X.env))) (AP X pins σ Q) X.xe s
def SV (X : Cx) (st : Stmt) (σ : L2.St) (H : Hp) (D : Ends) : Prop := ∀ (pins : Pins) (s : Shared), Inv X pins σ H s → wpAny (model X.prog X.w) X.A (exec st X.env) (SP X pins D) X.xe s
def LV (X : Cx) (sts : List Stmt) (σ : L2.St) (H : Hp) (D : Ends) : Prop := ∀ (pins : Pins) (s : Shared), Inv X pins σ H s → wpAny (model X.prog X.w) X.A (execs sts X.env) (SP X pins D) X.xe s
def GV (X : Cx) (tg : Expr) (v : V) (σ : L2.St) (H : Hp) (Q : L2.St → Hp → Prop) : Prop := ∀ (pins : Pins) (s : Shared) (u : Value), Inv X pins σ H s → RelV v u →
  wpAny (model X.prog X.w) X.A (assign tg X.env u) (fun _ s' => ∃ σ' H', Inv X pins σ' H' s' ∧ Q σ' H') X.xe s
def GsV (X : Cx) (ts : List Expr) (vs : List V) (σ : L2.St) (H : Hp) (Q : L2.St → Hp → Prop) : Prop := ∀ (pins : Pins) (s : Shared) (us : List Value), Inv X pins σ H s → Vals vs us →
  wpAny (model X.prog X.w) X.A (assignInOrder ((assignEach ts X.env).map (·.2)) us) (fun _ s' => ∃ σ' H', Inv X pins σ' H' s' ∧ Q σ' H') X.xe s
def IfV (X : Cx) (ifs : List Expr) (σ : L2.St) (H : Hp) (Qt Qf : Hp → Prop) : Prop := ∀ (pins : Pins) (s : Shared), Inv X pins σ H s →
  wpAny (model X.prog X.w) X.A (forIn ifs true fun c r => if r = true then do let ok ← isTrue c X.env (eval c X.env); pure (ForInStep.yield ok) else pure (ForInStep.yield r)) (TP X pins σ (br Qt Qf)) X.xe s

section
variable {X : Cx} {e : Expr} {σ : L2.St} {H : Hp} {Q Q' : VK} {Qt Qf : Hp → Prop} {D : Ends}
theorem pe_ev : PE X e (EV X e) := ⟨fun pins s _ _ _ I h => h pins s I⟩
theorem pt_bv {c : Expr} : PT X c (BV X c) := ⟨fun pins s _ _ _ I h => h pins s I⟩
theorem pa_av {es : List Expr} : PA X es (AV X es) := ⟨fun pos pins s _ _ _ I h => h pos pins s I⟩
theorem ps_sv {st : Stmt} : PS X st (fun D σ H => SV X st σ H D) := ⟨fun pins s _ _ _ I h => h pins s I⟩
theorem pss_lv {sts : List Stmt} : PSs X sts (fun D σ H => LV X sts σ H D) := ⟨fun pins s _ _ _ I h => h pins s I⟩
theorem pg_gv {tg : Expr} : PG X tg (GV X tg) := ⟨fun pins s _ _ _ u _ I r h => h pins s u I r⟩
theorem pgs_gv {ts : List Expr} : PGs X ts (GsV X ts) := ⟨fun pins s _ _ _ us _ I r h => h pins s us I r⟩
theorem EV.of {t : TE} (h : PE X e t) (q : t σ H Q) : EV X e σ H Q := fun pins s I => h.run pins s σ H Q I q
theorem BV.of {c : Expr} {t : TT} {Q : Bool → Hp → Prop} (h : PT X c t) (q : t σ H Q) : BV X c σ H Q := fun pins s I => h.run pins s σ H Q I q
theorem AV.of {es : List Expr} {t : TA} {Q : List V → Hp → Prop} (h : PA X es t) (q : t σ H Q) : AV X es σ H Q := fun pos pins s I => h.run pos pins s σ H Q I q
theorem SV.of {st : Stmt} {t : TS} (h : PS X st t) (q : t D σ H) : SV X st σ H D := fun pins s I => h.run pins s σ H D I q
theorem LV.of {sts : List Stmt} {t : TS} (h : PSs X sts t) (q : t D σ H) : LV X sts σ H D := fun pins s I => h.run pins s σ H D I q
theorem GV.of {tg : Expr} {v : V} {t : TG} {Q : L2.St → Hp → Prop} (h : PG X tg t) (q : t v σ H Q) : GV X tg v σ H Q := fun pins s u I r => h.run pins s σ H v u Q I r q
theorem GsV.of {ts : List Expr} {vs : List V} {t : TGs} {Q : L2.St → Hp → Prop} (h : PGs X ts t) (q : t vs σ H Q) : GsV X ts vs σ H Q := fun pins s us I r => h.run pins s σ H vs us Q I r q
theorem EV.mono (h : EV X e σ H Q) (k : ∀ v H', Q v H' → Q' v H') : EV X e σ H Q' := fun pins s I => thn (h pins s I) fun _ _ ⟨v, H', J, r, q⟩ => ⟨v, H', J, r, k v H' q⟩
theorem BV.mono {c : Expr} {Q Q' : Bool → Hp → Prop} (h : BV X c σ H Q) (k : ∀ b H', Q b H' → Q' b H') : BV X c σ H Q' := fun pins s I => thn (h pins s I) fun _ _ ⟨H', J, q⟩ => ⟨H', J, k _ H' q⟩
theorem AV.mono {es : List Expr} {Q Q' : List V → Hp → Prop} (h : AV X es σ H Q) (k : ∀ v H', Q v H' → Q' v H') : AV X es σ H Q' := fun pos pins s I => thn (h pos pins s I) fun _ _ ⟨v, H', J, r, q⟩ => ⟨v, H', J, r, k v H' q⟩
theorem GV.mono {tg : Expr} {v : V} {Q Q' : L2.St → Hp → Prop} (h : GV X tg v σ H Q) (k : ∀ σ' H', Q σ' H' → Q' σ' H') : GV X tg v σ H Q' := fun pins s u I r => thn (h pins s u I r) fun _ _ ⟨σ', H', J, q⟩ => ⟨σ', H', J, k _ _ q⟩
theorem br_ite {P Q : Prop} {b : Bool} {Qt Qf : Hp → Prop} (h : br Qt Qf b H) : if b = true then Qt H else Qf H := by
  cases b with
  | true => exact iteT h
  | false => exact iteF h

/-! ### names, constants -/
variable {x : Str} {pos : Pos} {v : V}
theorem ev_var (i : Nat) (hs : σ[i]? = some (some v)) (q : Q v H) (hN : X.N[i]? = some x := by rfl)
    (hv : Vis X.env.scope x := by first | exact Or.inl rfl | exact Or.inr (Or.inl rfl) | exact Or.inr (Or.inr rfl))
    (hd : (x == ("__debug__" : Str)) = false := by decide) (hcd : (x == ("__classdict__" : Str)) = false := by decide) : EV X (.Name x pos) σ H Q := EV.of (pe_var hN hv hd hcd) ⟨v, hs, q⟩
theorem ev_int {i j} (q : Q (.int i) H) : EV X (.Constant (.int i) j pos) σ H Q := EV.of pe_int q
theorem ev_bl {i j} (q : Q (.bl i) H) : EV X (.Constant (.bool i) j pos) σ H Q := EV.of pe_bl q
theorem ev_non {j} (q : Q .non H) : EV X (.Constant .none j pos) σ H Q := EV.of pe_non q
theorem ev_str {z j} (q : Q (.str z) H) : EV X (.Constant (.str z) j pos) σ H Q := EV.of pe_str q
theorem ev_glob {u : Value} (hm : X.mg x = some u) (r : RelV v u) (q : Q v H) (hg : Gl X x := by rfl) (hd : (x == ("__debug__" : Str)) = false := by decide) : EV X (.Name x pos) σ H Q := EV.of (pe_glob hg hm r hd) q
theorem ev_gint {i : Int} (hm : ∃ t, X.mg x = some (.int i t)) (q : Q (.int i) H) (hg : Gl X x := by rfl) (hd : (x == ("__debug__" : Str)) = false := by decide) : EV X (.Name x pos) σ H Q := by
  obtain ⟨t, hm⟩ := hm
  exact EV.of (pe_glob (v := .int i) hg hm ⟨t, rfl⟩ hd) q
theorem ev_gstr {z : Str} (hm : ∃ t, X.mg x = some (.str z t)) (q : Q (.str z) H) (hg : Gl X x := by rfl) (hd : (x == ("__debug__" : Str)) = false := by decide) : EV X (.Name x pos) σ H Q := by
  obtain ⟨t, hm⟩ := hm
  exact EV.of (pe_glob (v := .str z) hg hm ⟨t, rfl⟩ hd) q
theorem ev_gref {a : Addr} (hm : X.mg x = some (.ref a)) (q : Q (.ref a) H) (hg : Gl X x := by rfl) (hd : (x == ("__debug__" : Str)) = false := by decide) : EV X (.Name x pos) σ H Q := EV.of (pe_glob (v := .ref a) hg hm rfl hd) q
theorem ev_gty {n : String} (hm : X.mg x = none) (hv : bootBuiltins x = some (.type n)) (q : Q (.ty n) H) (hg : Gl X x := by rfl) (hn : x ≠ "__name__" := by decide) (hd : (x == ("__debug__" : Str)) = false := by decide) :
    EV X (.Name x pos) σ H Q := EV.of (pe_bltn (v := .ty n) hg hm hv rfl hn hd) q

/-! ### operators -/
variable {a b c : Expr}
theorem ev_bin {op : Operator} {r : R2} (ho : OpR X (binaryOp op) r) (q : EV X a σ H fun x H1 => EV X b σ H1 fun y H2 => r x y H2 Q) : EV X (.BinOp a op b pos) σ H Q := EV.of (pe_op ho pe_ev pe_ev) q
theorem ev_un {op : UnaryOp} {r : V → Hp → VK → Prop} (ho : UnR X (unaryOp op) r) (q : EV X a σ H fun x H1 => r x H1 Q) : EV X (.UnaryOp op a pos) σ H Q := EV.of (pe_un ho pe_ev) q
theorem i2 {g : Int → Int → V} {i j : Int} (q : Q (g i j) H) : rI0 g (.int i) (.int j) H Q := ⟨i, j, rfl, rfl, q⟩
theorem i2c {C : Int → Int → Prop} {g : Int → Int → V} {i j : Int} (h : C i j) (q : Q (g i j) H) : rI C g (.int i) (.int j) H Q := ⟨i, j, rfl, rfl, h, q⟩
theorem i1 {g : Int → V} {i : Int} (q : Q (g i) H) : rU g (.int i) H Q := ⟨i, rfl, q⟩
theorem ev_cmp {op : CmpOp} {r : R2} (ho : OpR X (compareOp op) r) (q : EV X a σ H fun x H1 => EV X b σ H1 fun y H2 => r x y H2 Q) (hm : behindInMarks op b = false := by first | exact nobehind _ (by decide) (by decide) | rfl) :
    EV X (.Compare a [op] [b] pos) σ H Q := EV.of (pe_cmpR ho pe_ev pe_ev hm) q
theorem ev_if (q : TV X c σ H (fun H1 => EV X a σ H1 Q) (fun H1 => EV X b σ H1 Q)) : EV X (.IfExp c a b pos) σ H Q := EV.of (pe_ifExp pt_bv pe_ev pe_ev) (BV.mono q fun b H' h => by
  cases b with
  | true => exact iteT h
  | false => exact iteF h)
theorem ev_andV {rest : List Expr} (q : EV X a σ H fun x H1 => ∃ k, x = .bl k ∧ br (fun H1 => EV X (.BoolOp .And (b :: rest) pos) σ H1 Q) (fun H1 => Q (.bl false) H1) k H1) : EV X (.BoolOp .And (a :: b :: rest) pos) σ H Q :=
  EV.of (pe_and pe_ev pe_ev) (EV.mono q fun v H' ⟨k, e, h⟩ => ⟨k, e, by
    cases k with
    | true => exact iteT h
    | false => exact iteF h⟩)
theorem ev_orV {rest : List Expr} (q : EV X a σ H fun x H1 => ∃ k, x = .bl k ∧ br (fun H1 => Q (.bl true) H1) (fun H1 => EV X (.BoolOp .Or (b :: rest) pos) σ H1 Q) k H1) : EV X (.BoolOp .Or (a :: b :: rest) pos) σ H Q :=
  EV.of (pe_or pe_ev pe_ev) (EV.mono q fun v H' ⟨k, e, h⟩ => ⟨k, e, by
    cases k with
    | true => exact iteT h
    | false => exact iteF h⟩)
theorem ev_one {op} (q : EV X a σ H Q) : EV X (.BoolOp op [a] pos) σ H Q := EV.of (pe_one pe_ev) q
theorem ev_notV (q : EV X a σ H fun x H1 => ∃ k, x = .bl k ∧ Q (.bl (!k)) H1) : EV X (.UnaryOp .Not a pos) σ H Q := EV.of (pe_not pe_ev) q
theorem ev_chain {op op' : CmpOp} {r r' : R2} (ho : OpR X (compareOp op) r) (ho' : OpR X (compareOp op') r') (q : EV X a σ H fun x H1 => EV X b σ H1 fun y H2 => r x y H2 fun z H3 => ∃ k, z = .bl k ∧ (if k = true then EV X c σ H3 (fun w' H4 => r' y w' H4 Q) else Q (.bl false) H3))
    (hm : lastMarks [op, op'] [b, c] = false := by with_unfolding_all rfl) : EV X (.Compare a [op, op'] [b, c] pos) σ H Q := EV.of (pe_chain ho ho' pe_ev pe_ev pe_ev hm) q
/-- the first link of a chain of ints -/
theorem ic2 {p : Int → Int → Prop} [∀ i j, Decidable (p i j)] {A B : Hp → Prop} {i j : Int} (ht : p i j → A H) (hf : ¬ p i j → B H) : rI0 (fun i j => .bl (decide (p i j))) (.int i) (.int j) H (fun z H3 => ∃ k, z = .bl k ∧ (if k = true then A H3 else B H3)) := by
  refine ⟨i, j, rfl, rfl, _, rfl, ?_⟩
  by_cases h : p i j
  · rw [decide_eq_true h]
    exact iteT (ht h)
  · rw [decide_eq_false h]
    exact iteF (hf h)

/-! ### tests -/
theorem tv_val (q : EV X e σ H fun x H1 => ∃ k, x = .bl k ∧ br Qt Qf k H1) (he : ∀ whole, isTrue e X.env whole = (do let v ← whole; standAt e.pos; holding [v] (truthy v)) := by intro _; rfl) : TV X e σ H Qt Qf := BV.of (pt_val pe_ev he) q
theorem tv_truth (q : EV X e σ H fun x H1 => ∃ k, TruV X.K x H1 k ∧ br Qt Qf k H1) (he : ∀ whole, isTrue e X.env whole = (do let v ← whole; standAt e.pos; holding [v] (truthy v)) := by intro _; rfl) : TV X e σ H Qt Qf := BV.of (pt_truth pe_ev he) q
theorem tv_cmp {op : CmpOp} {r : R2} (ho : OpR X (compareOp op) r) (q : EV X a σ H fun x H1 => EV X b σ H1 fun y H2 => r x y H2 fun z H3 => ∃ k, z = .bl k ∧ br Qt Qf k H3) (hm : behindInMarks op b = false := by first | exact nobehind _ (by decide) (by decide) | rfl) :
    TV X (.Compare a [op] [b] pos) σ H Qt Qf := BV.of (pt_cmpR ho pe_ev pe_ev hm) q
theorem tv_chain {op op' : CmpOp} {r r' : R2} (ho : OpR X (compareOp op) r) (ho' : OpR X (compareOp op') r')
    (q : EV X a σ H fun x H1 => EV X b σ H1 fun y H2 => r x y H2 fun z H3 => ∃ k, z = .bl k ∧ (if k = true then EV X c σ H3 (fun w' H4 => r' y w' H4 fun z' H5 => ∃ k', z' = .bl k' ∧ br Qt Qf k' H5) else (∃ k', V.bl false = .bl k' ∧ br Qt Qf k' H3)))
    (hm : lastMarks [op, op'] [b, c] = false := by with_unfolding_all rfl) : TV X (.Compare a [op, op'] [b, c] pos) σ H Qt Qf := BV.of (pt_chain ho ho' pe_ev pe_ev pe_ev hm) q
theorem brf (h : Qf H) : ∃ k', V.bl false = .bl k' ∧ br Qt Qf k' H := ⟨false, rfl, h⟩
theorem br_dec {p : Prop} [Decidable p] (ht : p → Qt H) (hf : ¬ p → Qf H) : br Qt Qf (decide p) H := by
  by_cases h : p
  · rw [decide_eq_true h]
    exact ht h
  · rw [decide_eq_false h]
    exact hf h
theorem br_ndec {p : Prop} [Decidable p] (ht : ¬ p → Qt H) (hf : p → Qf H) : br Qt Qf (!decide p) H := by
  by_cases h : p
  · rw [decide_eq_true h]
    exact hf h
  · rw [decide_eq_false h]
    exact ht h
theorem br_b {k : Bool} (ht : k = true → Qt H) (hf : k = false → Qf H) : br Qt Qf k H := by
  cases k with
  | true => exact ht rfl
  | false => exact hf rfl
/-- two ints compared, as a test -/
theorem ti2 {p : Int → Int → Prop} [∀ i j, Decidable (p i j)] {i j : Int} (ht : p i j → Qt H) (hf : ¬ p i j → Qf H) : rI0 (fun i j => .bl (decide (p i j))) (.int i) (.int j) H (fun z H3 => ∃ k, z = .bl k ∧ br Qt Qf k H3) :=
  ⟨i, j, rfl, rfl, _, rfl, br_dec ht hf⟩
theorem teq {x y : V} (h : scal x y = true) (ht : x = y → Qt H) (hf : x ≠ y → Qf H) : rEq x y H (fun z H3 => ∃ k, z = .bl k ∧ br Qt Qf k H3) := ⟨h, _, rfl, br_dec ht hf⟩
theorem tne {x y : V} (h : scal x y = true) (ht : x ≠ y → Qt H) (hf : x = y → Qf H) : rNe x y H (fun z H3 => ∃ k, z = .bl k ∧ br Qt Qf k H3) := ⟨h, _, rfl, br_ndec ht hf⟩
theorem teqi {i j : Int} (ht : i = j → Qt H) (hf : i ≠ j → Qf H) : rEq (.int i) (.int j) H (fun z H3 => ∃ k, z = .bl k ∧ br Qt Qf k H3) :=
  teq (by rfl) (fun h => ht (by injection h)) (fun h => hf (fun q => h (by rw [q])))
theorem tnei {i j : Int} (ht : i ≠ j → Qt H) (hf : i = j → Qf H) : rNe (.int i) (.int j) H (fun z H3 => ∃ k, z = .bl k ∧ br Qt Qf k H3) :=
  tne (by rfl) (fun h => ht (fun q => h (by rw [q]))) (fun h => hf (by injection h))
theorem br_kt {k : Bool} (e : k = true) (h : Qt H) : br Qt Qf k H := by
  rw [e]
  exact h
theorem br_kf {k : Bool} (e : k = false) (h : Qf H) : br Qt Qf k H := by
  rw [e]
  exact h
theorem bN1 (h : Qt H) : br Qt Qf (decide (V.non = V.non)) H := h
theorem bN0 {i : Int} (h : Qf H) : br Qt Qf (decide (V.int i = V.non)) H := h
theorem bN2 {i : Addr} (h : Qf H) : br Qt Qf (decide (V.ref i = V.non)) H := h
theorem bO0 (h : Qf H) : br Qt Qf (!decide (V.non = V.non)) H := h
theorem bO1 {i : Int} (h : Qt H) : br Qt Qf (!decide (V.int i = V.non)) H := h
theorem bO2 {i : Addr} (h : Qt H) : br Qt Qf (!decide (V.ref i = V.non)) H := h
theorem bT (h : Qt H) : br Qt Qf true H := h
theorem bF (h : Qf H) : br Qt Qf false H := h
theorem tv_isN (q : EV X a σ H fun x H1 => br Qt Qf (decide (x = V.non)) H1) {j pos'} : TV X (.Compare a [.Is] [.Constant .none j pos'] pos) σ H Qt Qf :=
  BV.of (pt_cmp (pc_isN pe_ev)) (EV.mono q fun x H1 h => ⟨_, rfl, h⟩)
theorem tv_notN (q : EV X a σ H fun x H1 => br Qt Qf (!decide (x = V.non)) H1) {j pos'} : TV X (.Compare a [.IsNot] [.Constant .none j pos'] pos) σ H Qt Qf :=
  BV.of (pt_cmp (pc_notN pe_ev)) (EV.mono q fun x H1 h => ⟨_, rfl, h⟩)
theorem ev_isN (q : EV X a σ H fun x H1 => Q (.bl (decide (x = V.non))) H1) {j pos'} : EV X (.Compare a [.Is] [.Constant .none j pos'] pos) σ H Q := EV.of (pe_cmp (pc_isN pe_ev)) q
theorem ev_notN (q : EV X a σ H fun x H1 => Q (.bl (!decide (x = V.non))) H1) {j pos'} : EV X (.Compare a [.IsNot] [.Constant .none j pos'] pos) σ H Q := EV.of (pe_cmp (pc_notN pe_ev)) q
theorem tv_w (q : WV X e σ H Qt Qf) : TV X e σ H Qt Qf := fun pins s I => q _ pins s I
theorem wv_and {rest : List Expr} (q : TV X a σ H (fun H1 => WV X (.BoolOp .And (b :: rest) pos) σ H1 Qt Qf) Qf) : WV X (.BoolOp .And (a :: b :: rest) pos) σ H Qt Qf := fun wh pins s I => by
  refine isTrue_and (thn (q pins s I) fun k s1 ⟨H1, I1, q1⟩ => ?_)
  cases k with
  | true => exact q1 wh pins s1 I1
  | false => exact ⟨H1, I1, q1⟩
theorem wv_or {rest : List Expr} (q : TV X a σ H Qt (fun H1 => WV X (.BoolOp .Or (b :: rest) pos) σ H1 Qt Qf)) : WV X (.BoolOp .Or (a :: b :: rest) pos) σ H Qt Qf := fun wh pins s I => by
  refine isTrue_or (thn (q pins s I) fun k s1 ⟨H1, I1, q1⟩ => ?_)
  cases k with
  | true => exact ⟨H1, I1, q1⟩
  | false => exact q1 wh pins s1 I1
theorem wv_and1 (q : TV X a σ H Qt Qf) : WV X (.BoolOp .And [a] pos) σ H Qt Qf := fun wh pins s I => (pw_and1 (pos := pos) pt_bv).run wh pins s σ H _ I q
theorem wv_or1 (q : TV X a σ H Qt Qf) : WV X (.BoolOp .Or [a] pos) σ H Qt Qf := fun wh pins s I => (pw_or1 (pos := pos) pt_bv).run wh pins s σ H _ I q
theorem tv_not (q : TV X a σ H Qf Qt) : TV X (.UnaryOp .Not a pos) σ H Qt Qf := BV.of (pt_not pt_bv) (BV.mono q fun k H' h => by
  cases k with
  | true => exact h
  | false => exact h)

/-! ### argument lists -/
theorem av_nil {Q : List V → Hp → Prop} (q : Q [] H) : AV X [] σ H Q := AV.of pa_nil q
theorem av_cons {es : List Expr} {Q : List V → Hp → Prop} (q : EV X e σ H fun x H1 => AV X es σ H1 fun xs H2 => Q (x :: xs) H2) (hs : starEach (e :: es) X.env = (false, eval e X.env) :: starEach es X.env := by rfl) : AV X (e :: es) σ H Q := AV.of (pa_cons pe_ev pa_av hs) q
theorem av_star {es : List Expr} {p : Pos} {Q : List V → Hp → Prop} (q : EV X e σ H fun x H1 => ∃ p xs, x = V.ref p ∧ (SqT X.K H1 p xs ∨ SqL X.K H1 p xs) ∧ AV X es σ H1 fun ys H2 => Q (xs ++ ys) H2)
    (hs : starEach (.Starred e p :: es) X.env = (true, eval e X.env) :: starEach es X.env := by rfl) : AV X (.Starred e p :: es) σ H Q := AV.of (StX.pa_star pe_ev pa_av hs) q

/-! ### displays: what stood before stands -/
theorem same_upd {p : Addr} {o : HO} (h : H p = none) : Same H (upd H p o) := fun c u e => by
  rw [upd_ne (ne_of_none e h)]
  exact e
theorem ev_tup {es : List Expr} {x1} (q : AV X es σ H fun xs H1 => xs.length ≤ sizeLine ∧ ∀ H' p, Same H1 H' → H' p = some (.tup xs) → H1 p = none → Q (.ref p) H') : EV X (.Tuple es x1 pos) σ H Q :=
  EV.of (pe_tup pa_av) (AV.mono q fun xs H1 ⟨h, k⟩ => ⟨h, fun p hp => k _ p (same_upd hp) upd_same hp⟩)
theorem ev_lst {es : List Expr} (q : AV X es σ H fun xs H1 => xs.length ≤ sizeLine ∧ ∀ H' p, Same H1 H' → H' p = some (.lst xs) → H1 p = none → Q (.ref p) H') : EV X (.List es pos) σ H Q :=
  EV.of (pe_lst pa_av) (AV.mono q fun xs H1 ⟨h, k⟩ => ⟨h, fun p hp => k _ p (same_upd hp) upd_same hp⟩)

/-! ### statements -/
variable {st : Stmt} {rest : List Stmt}
theorem lv_nil (q : D.nx σ H) : LV X [] σ H D := LV.of pss_nil q
theorem lv_cons (q : SV X st σ H { D with nx := fun σ' H' => LV X rest σ' H' D }) : LV X (st :: rest) σ H D := LV.of (pss_cons ps_sv pss_lv) q
theorem lv_cut (Mid : L2.St → Hp → Prop) (q : SV X st σ H { D with nx := Mid }) (k : ∀ σ' H', Mid σ' H' → LV X rest σ' H' D) : LV X (st :: rest) σ H D := fun pins s I => by
  refine wpAny_execs_cons (thn (q pins s I) fun f s1 q => ?_)
  cases f with
  | next =>
    obtain ⟨σ', H', I', q⟩ := q
    exact k _ _ q pins s1 I'
  | ret v => exact q
  | brk => exact q
  | cont => exact q
theorem lv_one (q : SV X st σ H D) : LV X [st] σ H D := LV.of (pss_one ps_sv) q
theorem sv_pass (q : D.nx σ H) : SV X (.Pass pos) σ H D := SV.of ps_pass q
theorem sv_break (q : D.bk σ H) : SV X (.Break pos) σ H D := SV.of ps_break q
theorem sv_continue (q : D.ct σ H) : SV X (.Continue pos) σ H D := SV.of ps_continue q
theorem sv_expr (q : EV X e σ H fun _ H1 => D.nx σ H1) (hs : swapsWith e none pos.line X.env = pure false := by rfl) : SV X (.Expr e pos) σ H D := SV.of (ps_expr pe_ev hs) q
theorem sv_ret (q : EV X e σ H D.rt) : SV X (.Return (some e) pos) σ H D := SV.of (ps_ret pe_ev) q
theorem sv_retN (q : D.rt .non H) : SV X (.Return none pos) σ H D := SV.of ps_retN q
theorem sv_if {A B : List Stmt} (q : TV X c σ H (fun H1 => LV X A σ H1 D) (fun H1 => LV X B σ H1 D)) : SV X (.If c A B pos) σ H D := SV.of (ps_if pt_bv pss_lv pss_lv) (BV.mono q fun b H' h => by
  cases b with
  | true => exact iteT h
  | false => exact iteF h)
theorem sv_set {pos' : Pos} (i : Nat) (q : EV X e σ H fun v H1 => D.nx (σ.set i (some v)) H1) (hN : X.N.Nodup) (hi : X.N[i]? = some x := by rfl) (hx : Loc X.env.scope x := by first | exact Or.inl rfl | exact Or.inr rfl)
    (hs : swapsWith e (some (.Name x pos')) pos.line X.env = pure false := by rfl) (hf : X.fn x = true ∨ X.env.scope.names.lookup x = some .local := by first | exact .inl rfl | exact .inr rfl) : SV X (.Assign [.Name x pos'] e pos) σ H D := SV.of (ps_set hN hi hx pe_ev hs hf) q
theorem sv_asg {tg : Expr} (q : EV X e σ H fun v H1 => GV X tg v σ H1 D.nx) (hs : swapsWithSole [tg] e pos.line X.env = pure false := by rfl) (hw : swappedStores [tg] e X.env = pure none := by rfl)
    (h1 : (assignEach [tg] X.env).map (·.2) = [assign tg X.env] := by rfl) : SV X (.Assign [tg] e pos) σ H D := SV.of (ps_asg pe_ev pg_gv hs hw h1) q
/-! ### targets -/
theorem gv_name {Q : L2.St → Hp → Prop} (i : Nat) (q : Q (σ.set i (some v)) H) (hN : X.N.Nodup) (hi : X.N[i]? = some x := by rfl) (hx : Loc X.env.scope x := by first | exact Or.inl rfl | exact Or.inr rfl)
    (hf : X.fn x = true ∨ X.env.scope.names.lookup x = some .local := by first | exact .inl rfl | exact .inr rfl) : GV X (.Name x pos) v σ H Q := GV.of (pg_name hN hi hx hf) q
theorem gsv_nil {Q : L2.St → Hp → Prop} (q : Q σ H) : GsV X [] [] σ H Q := GsV.of pgs_nil ⟨rfl, q⟩
theorem gsv_cons {tg : Expr} {ts : List Expr} {vs : List V} {Q : L2.St → Hp → Prop} (q : GV X tg v σ H fun σ' H' => GsV X ts vs σ' H' Q)
    (hs : (assignEach (tg :: ts) X.env).map (·.2) = assign tg X.env :: (assignEach ts X.env).map (·.2) := by rfl) : GsV X (tg :: ts) (v :: vs) σ H Q := GsV.of (pgs_cons pg_gv pgs_gv hs) ⟨v, vs, rfl, q⟩
theorem gv_tup {es : List Expr} {k : Nat} {p : Addr} {xs : List V} {Q : L2.St → Hp → Prop} (hc : X.calm = true) (ht : SqT X.K H p xs) (hl : xs.length = (assignEach es X.env).length) (q : GsV X es xs σ H Q)
    (hst : (assignEach es X.env).findIdx? (·.1) = none := by rfl) : GV X (.Tuple es k pos) (.ref p) σ H Q := GV.of (pg_tup hc pgs_gv rfl hst) ⟨p, xs, rfl, ht, hl, q⟩

end
end Oil
set_option Elab.async false
set_option linter.all false
set_option maxRecDepth 100000
set_option maxHeartbeats 2000000
namespace Oil
open PySem PySem.Spec PyProof.Rows L2

/-! ### the Hook: facts of the written part as Bools, defs as data -/
abbrev Fact : Type := PySem.W.Frag → Bool
def obsM (fa : List Fact) (fn : List He5.DefA) (K : PySem.W.Frag) : He.AlD := ((fa.all fun f => f K) && fn.all fun d => d.ok K, fn.map fun d => He5.fnA K (d.at_ K))
def valM (fn : List He5.DefA) : He.AlD := (true, fn.map He5.DefA.val)
def SaysM (fa : List Fact) (fn : List He5.DefA) (K : PySem.W.Frag) : Prop := obsM fa fn K = valM fn
def obsMG (n : Nat) (fa : List Fact) (fn : List He5.DefA) (g : Addr → Option Obj) : He.AlD := obsM fa fn (He.frG g (He5.asA g n))
def hookM (n : Nat) (fa : List Fact) (fn : List He5.DefA) : PySem.W.Hook where
  α := He.AlD
  obs := fun s => obsMG n fa fn s.heap.get?
  val := fun _ => valM fn
  says := fun _ h => ∃ K : PySem.W.Frag, K.In h ∧ SaysM fa fn K
  of := fun _ _ e => ⟨_, He.frG_in, e⟩
  keeps := fun _ _ _ ⟨K, hK, c⟩ k => ⟨K, PySem.W.Frag.In.keeps hK k, c⟩
theorem obsMG_eq {n : Nat} {fa : List Fact} {fn : List He5.DefA} {g : Addr → Option Obj} {s : Shared} (h : ∀ a, g a = s.heap.get? a) : obsMG n fa fn g = (hookM n fa fn).obs s := by
  have e : g = s.heap.get? := funext h
  rw [e] <;> rfl
section
variable {fa : List Fact} {fn : List He5.DefA} {K : PySem.W.Frag}
theorem SaysM.facts (c : SaysM fa fn K) : ∀ f ∈ fa, f K = true := by
  have c1 := (He.ba (show ((fa.all fun f => f K) && fn.all fun d => d.ok K) = true from congrArg (fun z : He.AlD => z.1) c)).1
  exact List.all_eq_true.mp c1
theorem SaysM.fact (c : SaysM fa fn K) (i : Nat) {f : Fact} (h : fa[i]? = some f := by rfl) : f K = true := c.facts f (List.mem_of_getElem? h)
theorem SaysM.def_ (c : SaysM fa fn K) (i : Nat) {d : He5.DefA} (h : fn[i]? = some d := by rfl) : ∃ fd, L2.FunD K d.name d.qual d.params d.body d.scope (d.dvs K) (d.kws K) (d.at_ K) fd := by
  have c2 := (He.ba (show ((fa.all fun f => f K) && fn.all fun d => d.ok K) = true from congrArg (fun z : He.AlD => z.1) c)).2
  have e : fn.map (fun d => He5.fnA K (d.at_ K)) = fn.map He5.DefA.val := congrArg (fun z : He.AlD => z.2) c
  have e2 : (fn.map fun d => He5.fnA K (d.at_ K))[i]? = (fn.map He5.DefA.val)[i]? := by rw [e]
  rw [List.getElem?_map, List.getElem?_map, h] at e2
  exact He5.DefA.funD (Option.some.inj e2) (List.all_eq_true.mp c2 d (List.mem_of_getElem? h))
end

/-! ### facts -/
def gloF (x : Str) : Fact := fun K => (He.Fa.glo x).ok K
def freeF (x : Str) : Fact := fun K => (He.Fa.free x).ok K
def intF (x : Str) (i : Int) : Fact := fun K => (He.Fa.int x i).ok K
def strF (x z : Str) : Fact := fun K => (He.Fa.str x z).ok K
def clsF (x : Str) : Fact := fun K => (He.Fa.cls x).ok K
def noatF (x f : Str) : Fact := fun K => (He.Fa.noat x f).ok K
def methF (x m : Str) : Fact := fun K => (He.Fa.meth x m).ok K
def mkrF (x : Str) : Fact := fun K => (He.Fa.mkr x).ok K
def sfF (x : Str) : Fact := fun K => PySem.W.selfFirst K (He.ga K x)
def gt (K : PySem.W.Frag) (C f : Str) : Addr := match PySem.W.recIn K (He.ma K (He.ga K C) f) "property" with
  | some (.ref g :: _) => g
  | _ => 0
def propF (C f : Str) : Fact := fun K => He.eqO (PySem.W.findIn K (.ref (He.ga K C)) f) (some (some (.ref (He.ma K (He.ga K C) f)))) && (He.eqO (PySem.W.specialIn K (.ref (He.ma K (He.ga K C) f)) "__get__") (some (some (.builtin "property.__get__"))) &&
  (decide (PySem.W.takesIn K (.ref (He.ma K (He.ga K C) f)) = some true) && (match PySem.W.recIn K (He.ma K (He.ga K C) f) "property" with
    | some (.ref _ :: _) => true
    | _ => false)))
theorem prop_ok {K : PySem.W.Frag} {C f : Str} (h : propF C f K = true) : PropOf K (He.ga K C) f (He.ma K (He.ga K C) f) (gt K C f) := by
  obtain ⟨h1, h⟩ := He.ba h
  obtain ⟨h2, h⟩ := He.ba h
  obtain ⟨h3, h4⟩ := He.ba h
  refine ⟨He.eqO_ok h1, He.eqO_ok h2, of_decide_eq_true h3, ?_⟩
  unfold gt
  split at h4
  · rename_i g r e
    exact ⟨r, by rw [e]⟩
  · cases h4
def cm (K : PySem.W.Frag) (C m : Str) : Addr := He5.wf K (He.ga K C) "classmethod" m
def cmF (C m : Str) : Fact := fun K => He5.wrapB K (He.ga K C) "classmethod" "classmethod.__get__" m && (PySem.W.fnIn K (cm K C m) && PySem.W.readsIn K (He.ga K C) (.type "type"))
theorem cm_ok {K : PySem.W.Frag} {C m : Str} (h : cmF C m K = true) : ClX.CMet K (He.ga K C) (.type "type") m (He.ma K (He.ga K C) m) (cm K C m) ∧ ClX.CRead K (He.ga K C) (.type "type") := by
  obtain ⟨h1, h⟩ := He.ba h
  obtain ⟨h2, h3⟩ := He.ba h
  refine ⟨He5.cmet_of h1 h2, h3, ?_⟩
  unfold PySem.W.readsIn at h3
  obtain ⟨h, _⟩ := He.ba h3
  obtain ⟨h, _⟩ := He.ba h
  obtain ⟨h, h3⟩ := He.ba h
  obtain ⟨_, h2⟩ := He.ba h
  unfold PySem.W.specialIn
  rw [beq_iff_eq.mp h2, Option.bind_some]
  exact beq_iff_eq.mp h3

/-- own exceptions without __init__ -/
structure ExcF (K : PySem.W.Frag) (mg : Str → Option Value) (x : Str) : Prop where
  g : mg x = some (.ref (He.ga K x))
  e : PySem.W.excIn K (He.ga K x) He.veBase "ValueError.__new__" = true
  k : PySem.W.keepIn K (.ref (He.ga K x)) = true
  b : PySem.W.subIn K (.ref (He.ga K x)) (.type "BaseException") = some true
  t : PySem.W.typeIn K (.ref (He.ga K x)) = some (.type "type")
def excF (x : Str) : Fact := fun K => (He.Fa.glo x).ok K && (He.Fa.exc x).ok K
theorem exc_ok {K : PySem.W.Frag} {h : Heap} {mg : Str → Option Value} (X : K.In h) (G : h.Ns mainGlobals mg) {x : Str} (c : excF x K = true) : ExcF K mg x := by
  obtain ⟨c1, c2⟩ := He.ba c
  obtain ⟨a1, a2, a3, a4⟩ := He.exc_ok c2
  exact ⟨He.glo_ok X G c1, a1, a2, a3, a4⟩
/-- what isinstance asks of a class -/
structure IsiF (K : PySem.W.Frag) (C : Addr) : Prop where
  ca : PySem.W.findIn K (.ref C) "__class__" = some (some (.builtin "object.__class__"))
  cn : PySem.W.specialIn K (.builtin "object.__class__") "__get__" = some (some (.builtin "getset_descriptor.__get__"))
  ct : PySem.W.takesIn K (.builtin "object.__class__") = some true
  cm : PySem.W.mroIn K C (.type "object") = some true
  kc : ((PySem.W.clsIn K C).isSome && PySem.W.typeIn K (.ref C) == some (.type "type")) = true
def isiF (x : Str) : Fact := fun K => He.eqO (PySem.W.findIn K (.ref (He.ga K x)) "__class__") (some (some (.builtin "object.__class__"))) && (He.eqO (PySem.W.specialIn K (.builtin "object.__class__") "__get__") (some (some (.builtin "getset_descriptor.__get__"))) &&
  (decide (PySem.W.takesIn K (.builtin "object.__class__") = some true) && (decide (PySem.W.mroIn K (He.ga K x) (.type "object") = some true) && ((PySem.W.clsIn K (He.ga K x)).isSome && PySem.W.typeIn K (.ref (He.ga K x)) == some (.type "type")))))
theorem isi_ok {K : PySem.W.Frag} {x : Str} (h : isiF x K = true) : IsiF K (He.ga K x) := by
  obtain ⟨h1, h⟩ := He.ba h
  obtain ⟨h2, h⟩ := He.ba h
  obtain ⟨h3, h⟩ := He.ba h
  obtain ⟨h4, h5⟩ := He.ba h
  exact ⟨He.eqO_ok h1, He.eqO_ok h2, of_decide_eq_true h3, of_decide_eq_true h4, h5⟩
theorem IsiF.ty {K : PySem.W.Frag} {C a dx : Addr} {H : Hp} {fs : List (Str × V)} (i : IsiF K C) (c : Cls K C) (h : H a = some (.ins C dx fs)) : TyX K H (.ref a) (.ref C) := .base (.ins h c i.ca i.cn i.ct i.cm)
theorem kit_self {K : PySem.W.Frag} {C : Addr} : PySem.W.kitOne K (.ref C) (.ref C) = some true := by
  unfold PySem.W.kitOne
  rw [if_pos (beq_self_eq_true _)]
theorem IsiF.not {K : PySem.W.Frag} {C : Addr} (i : IsiF K C) {n : String} (h : PySem.W.subIn K (.type n) (.ref C) = some false) : PySem.W.kitOne K (.type n) (.ref C) = some false := by
  unfold PySem.W.kitOne
  rw [if_neg (by simp)]
  unfold PySem.W.kitCls
  show (if ((PySem.W.clsIn K C).isSome && PySem.W.typeIn K (.ref C) == some (.type "type")) = true then PySem.W.subIn K (.type n) (.ref C) else none) = some false
  rw [if_pos i.kc]
  exact h

/-! ### the law's end -/
theorem FnOk.cx0 {P : Program} {w : World} {K : PySem.W.Frag} {mg : Str → Option Value} {base : Heap} {k : Nat} {f : Addr} {fd : FuncData} {ps : List Str} {sp : Sp} (F : FnOk P w K mg base (L2.CX P w) k f fd ps sp) :
    FnOk P w K mg base CX0 k f fd ps (fun vs H Q _ => sp vs H Q E0) := by
  refine ⟨fun vs H Q E h => F.len vs H Q _ h, fun A outer s H args us vs Q E hr e0 hb r h => ?_⟩
  refine codeAny_mono (F.run A outer s H args us vs Q E0 hr e0 hb r h) fun r s' hq => ?_
  cases r with
  | error e =>
    obtain ⟨_, _, _, _, _, _, _, _, _, _, _, _, hE⟩ := hq
    exact hE
  | ok fl =>
    cases fl with
    | ret u => exact hq
    | next => exact hq
    | brk => exact hq
    | cont => exact hq
/-- a law's promise -/
def spLaw (K : PySem.W.Frag) : Sp := fun vs H Q _ => ∃ (a : Addr) (ns : List Int), vs = [.ref a] ∧ SqL K H a (ns.map V.int) ∧ ns.length ≤ 63 ∧ ∀ H', Q (.bl true) H'
end Oil
set_option Elab.async false
set_option linter.all false
set_option maxRecDepth 100000
set_option maxHeartbeats 2000000
namespace Oil
open PySem PySem.Spec PyProof.Rows L2

/-! ### heaps: what never changes -/
/-- objects that this program never changes once they are made: tuples, stretches, ways -/
def Imm (K : PySem.W.Frag) : HO → Prop
  | .tup _ => True
  | .frz _ _ => True
  | .ext _ => True
  | .ins C _ _ => C = He.ga K "Stretch" ∨ C = He.ga K "Way"
  | _ => False
def Kp (K : PySem.W.Frag) (H H' : Hp) : Prop := ∀ b o, Imm K o → H b = some o → H' b = some o
/-- all but what stands at d -/
def But (d : Addr) (H H' : Hp) : Prop := ∀ b o, b ≠ d → H b = some o → H' b = some o
section
variable {K : PySem.W.Frag} {H H1 H2 H' : Hp} {d : Addr}
theorem Kp.refl : Kp K H H := fun _ _ _ h => h
theorem Kp.tr (b : Kp K H1 H2) (a : Kp K H H1) : Kp K H H2 := fun c o i h => b c o i (a c o i h)
theorem Same.tr (b : Same H1 H2) (a : Same H H1) : Same H H2 := Same.trans a b
theorem Same.kp (a : Same H H') : Kp K H H' := fun c o _ h => a c o h
theorem But.refl : But d H H := fun _ _ _ h => h
theorem But.tr (b : But d H1 H2) (a : But d H H1) : But d H H2 := fun c o i h => b c o i (a c o i h)
theorem Same.but (a : Same H H') : But d H H' := fun c o _ h => a c o h
theorem But.kp {xs : List V} (a : But d H H') (hd : H d = some (.lst xs)) : Kp K H H' := fun c o i h => a c o (fun e => by
  subst e
  rw [hd] at h
  cases h
  exact i) h
theorem Kp.tup (a : Kp K H H') {p : Addr} {xs : List V} (h : H p = some (.tup xs)) : H' p = some (.tup xs) := a _ _ trivial h
theorem But.at (a : But d H H') {p : Addr} {o : HO} (h : H p = some o) (n : p ≠ d) : H' p = some o := a _ _ n h
end

/-! ### stretches -/
structure St3 where
  need : Option Int
  gain : Int
  top : Int
  deriving DecidableEq
def St3.ok (s : St3) : Prop := match s.need with
  | none => s.gain = 0 ∧ s.top = 0
  | some n => 0 ≤ n ∧ 0 ≤ n + s.gain ∧ 0 ≤ s.top
def vN : Option Int → V
  | none => .non
  | some n => .int n
def stF (s : St3) : List (Str × V) := [(("least" : Str), vN s.need), (("more" : Str), V.int s.gain), (("most" : Str), V.int s.top)]
def bar : St3 := ⟨none, 0, 0⟩
def St3.call (s : St3) (o : Int) : Option Int := match s.need with
  | none => none
  | some n => if o < n then none else some (min s.top (o + s.gain))
def St3.join (a b : St3) : St3 := match a.need, b.need with
  | some n, some m => if a.top < m then bar else ⟨some (max n (m - a.gain)), a.gain + b.gain, min (a.top + b.gain) b.top⟩
  | _, _ => bar
theorem bar_ok : bar.ok := ⟨rfl, rfl⟩
theorem join_ok {a b : St3} (ha : a.ok) (hb : b.ok) : (a.join b).ok := by
  obtain ⟨na, ga, ta⟩ := a
  obtain ⟨nb, gb, tb⟩ := b
  cases na with
  | none => exact bar_ok
  | some n =>
    cases nb with
    | none => exact bar_ok
    | some m =>
      simp only [St3.join]
      split
      · exact bar_ok
      · simp only [St3.ok] at ha hb ⊢
        omega
theorem join_none (a : St3) (g t : Int) : a.join ⟨none, g, t⟩ = bar := by
  obtain ⟨n, ga, ta⟩ := a
  cases n <;> rfl
theorem join_assoc (a b c : St3) : (a.join b).join c = a.join (b.join c) := by
  obtain ⟨na, ga, ta⟩ := a
  obtain ⟨nb, gb, tb⟩ := b
  obtain ⟨nc, gc, tc⟩ := c
  cases na with
  | none => rfl
  | some n =>
    cases nb with
    | none => rfl
    | some m =>
      cases nc with
      | none =>
        rw [join_none]
        rfl
      | some l =>
        by_cases h1 : ta < m
        · have e1 : St3.join ⟨some n, ga, ta⟩ ⟨some m, gb, tb⟩ = bar := if_pos h1
          rw [e1]
          by_cases h2 : tb < l
          · have e2 : St3.join ⟨some m, gb, tb⟩ ⟨some l, gc, tc⟩ = bar := if_pos h2
            rw [e2]
            rfl
          · have e2 : St3.join ⟨some m, gb, tb⟩ ⟨some l, gc, tc⟩ = ⟨some (max m (l - gb)), gb + gc, min (tb + gc) tc⟩ := if_neg h2
            rw [e2]
            have e3 : St3.join ⟨some n, ga, ta⟩ ⟨some (max m (l - gb)), gb + gc, min (tb + gc) tc⟩ = bar := if_pos (show ta < max m (l - gb) by omega)
            rw [e3]
            rfl
        · have e1 : St3.join ⟨some n, ga, ta⟩ ⟨some m, gb, tb⟩ = ⟨some (max n (m - ga)), ga + gb, min (ta + gb) tb⟩ := if_neg h1
          rw [e1]
          by_cases h2 : tb < l
          · have e2 : St3.join ⟨some m, gb, tb⟩ ⟨some l, gc, tc⟩ = bar := if_pos h2
            have e3 : St3.join ⟨some (max n (m - ga)), ga + gb, min (ta + gb) tb⟩ ⟨some l, gc, tc⟩ = bar := if_pos (show min (ta + gb) tb < l by omega)
            rw [e2, e3]
            rfl
          · have e2 : St3.join ⟨some m, gb, tb⟩ ⟨some l, gc, tc⟩ = ⟨some (max m (l - gb)), gb + gc, min (tb + gc) tc⟩ := if_neg h2
            rw [e2]
            by_cases h3 : min (ta + gb) tb < l
            · have e3 : St3.join ⟨some (max n (m - ga)), ga + gb, min (ta + gb) tb⟩ ⟨some l, gc, tc⟩ = bar := if_pos h3
              have e4 : St3.join ⟨some n, ga, ta⟩ ⟨some (max m (l - gb)), gb + gc, min (tb + gc) tc⟩ = bar := if_pos (show ta < max m (l - gb) by omega)
              rw [e3, e4]
            · have e3 : St3.join ⟨some (max n (m - ga)), ga + gb, min (ta + gb) tb⟩ ⟨some l, gc, tc⟩ = ⟨some (max (max n (m - ga)) (l - (ga + gb))), ga + gb + gc, min (min (ta + gb) tb + gc) tc⟩ := if_neg h3
              have e4 : St3.join ⟨some n, ga, ta⟩ ⟨some (max m (l - gb)), gb + gc, min (tb + gc) tc⟩ = ⟨some (max n (max m (l - gb) - ga)), ga + (gb + gc), min (ta + (gb + gc)) (min (tb + gc) tc)⟩ := if_neg (show ¬ ta < max m (l - gb) by omega)
              rw [e3, e4]
              have f1 : max (max n (m - ga)) (l - (ga + gb)) = max n (max m (l - gb) - ga) := by omega
              have f2 : ga + gb + gc = ga + (gb + gc) := by omega
              have f3 : min (min (ta + gb) tb + gc) tc = min (ta + (gb + gc)) (min (tb + gc) tc) := by omega
              rw [f1, f2, f3]
/-- so many times, one more than told -/
def St3.rep (s : St3) : Nat → St3
  | 0 => s
  | n + 1 => (s.rep n).join s
theorem rep_add (s : St3) (a : Nat) : ∀ b : Nat, (s.rep a).join (s.rep b) = s.rep (a + b + 1)
  | 0 => rfl
  | b + 1 => by
    show (s.rep a).join ((s.rep b).join s) = (s.rep (a + b + 1)).join s
    rw [← join_assoc, rep_add s a b]
theorem rep_ok {s : St3} (h : s.ok) : ∀ n : Nat, (s.rep n).ok
  | 0 => h
  | n + 1 => join_ok (rep_ok h n) h
/-- so many times, from one on -/
def St3.pw (s : St3) (n : Nat) : St3 := s.rep (n - 1)
theorem pw_add (s : St3) {a b : Nat} (ha : 1 ≤ a) (hb : 1 ≤ b) : (s.pw a).join (s.pw b) = s.pw (a + b) := by
  unfold St3.pw
  rw [rep_add]
  congr 1
  omega
/-- v is the stretch s -/
def IsSt (K : PySem.W.Frag) (H : Hp) (v : V) (s : St3) : Prop := s.ok ∧ ∃ a dx, v = .ref a ∧ H a = some (.ins (He.ga K "Stretch") dx (stF s))
section
variable {K : PySem.W.Frag} {H H' : Hp} {v : V} {s : St3}
theorem IsSt.up (h : IsSt K H v s) (k : Kp K H H') : IsSt K H' v s := by
  obtain ⟨o, a, dx, e, ha⟩ := h
  exact ⟨o, a, dx, e, k _ _ (.inl rfl) ha⟩
end

/-! ### ways -/
structure Wy where
  cap : Int
  posts : List (Int × Int)
  deriving DecidableEq
def okP (p : Int × Int) : Prop := 0 ≤ p.1 ∧ p.1 ≤ 1000000000 ∧ 1 ≤ p.2 ∧ p.2 ≤ 1000000000
structure Wy.ok (w : Wy) : Prop where
  c1 : 1 ≤ w.cap
  c2 : w.cap ≤ 1000000000
  n1 : 1 ≤ w.posts.length
  n2 : w.posts.length ≤ 12
  ps : ∀ p ∈ w.posts, okP p
/-- v is the pair p, a tuple -/
def IsPr (H : Hp) (v : V) (p : Int × Int) : Prop := ∃ a, v = .ref a ∧ H a = some (.tup [.int p.1, .int p.2])
abbrev AreP (H : Hp) : List V → List (Int × Int) → Prop := Paired (IsPr H)
def IsPs (H : Hp) (t : Addr) (ps : List (Int × Int)) : Prop := ∃ vs, H t = some (.tup vs) ∧ AreP H vs ps
def wyF (c : Int) (t : Addr) : List (Str × V) := [(("holds" : Str), V.int c), (("rows" : Str), V.ref t)]
def IsWy (K : PySem.W.Frag) (H : Hp) (v : V) (w : Wy) : Prop := w.ok ∧ ∃ a dx t, v = .ref a ∧ H a = some (.ins (He.ga K "Way") dx (wyF w.cap t)) ∧ IsPs H t w.posts
section
variable {K : PySem.W.Frag} {H H' : Hp} {v : V} {p : Int × Int} {ps : List (Int × Int)} {vs : List V} {t : Addr} {w : Wy}
theorem IsPr.up (h : IsPr H v p) (k : Kp K H H') : IsPr H' v p := by
  obtain ⟨a, e, ha⟩ := h
  exact ⟨a, e, k.tup ha⟩
theorem AreP.up (h : AreP H vs ps) (k : Kp K H H') : AreP H' vs ps := Paired.mapP h fun _ _ q => q.up k
theorem IsPs.up (h : IsPs H t ps) (k : Kp K H H') : IsPs H' t ps := by
  obtain ⟨vs, e, ha⟩ := h
  exact ⟨vs, k.tup e, AreP.up ha k⟩
theorem IsWy.up (h : IsWy K H v w) (k : Kp K H H') : IsWy K H' v w := by
  obtain ⟨o, a, dx, t, e, ha, hp⟩ := h
  exact ⟨o, a, dx, t, e, k _ _ (.inr rfl) ha, hp.up k⟩
theorem AreP.len (h : AreP H vs ps) : vs.length = ps.length := Paired.length h
theorem AreP.get : ∀ {vs : List V} {ps : List (Int × Int)} {i : Nat} {p : Int × Int}, AreP H vs ps → ps[i]? = some p → ∃ v, vs[i]? = some v ∧ IsPr H v p
  | _, _, _, _, .nil, e => by simp at e
  | _, _, 0, _, .cons r _, e => by simp at e; subst e; exact ⟨_, rfl, r⟩
  | _, _, i + 1, p, .cons _ t, e => by
    obtain ⟨u, h1, h2⟩ := AreP.get (i := i) (p := p) t (by simpa using e)
    exact ⟨u, by simpa using h1, h2⟩
end

/-! ### a def of the text -/
/-- a def's promise from its body -/
theorem fnr {P : Program} {w : World} {K : PySem.W.Frag} {mg : Str → Option Value} {base : Heap} {x qual : Str} {st : Stmt} {f : Addr} {N ps : List Str} {k : Nat} {sp : Sp}
    (F : ∃ fd, FunD K x qual (defArgs st) (defBody st) (defScope st) [] [] f fd) (S : FnScope N ps (defScope st))
    (hb : ∀ (kV doc pm : Value) (an : Option Addr) (cdv ct : Value) (us : List Value), us.length = ps.length → bindArgs (PySem.W.fnOf x qual (defArgs st) (defBody st) (defScope st) .none kV doc pm an cdv ct) ⟨us, []⟩ = pure (ps.zip us))
    (len : ∀ vs H Q E, sp vs H Q E → vs.length = ps.length)
    (hbody : ∀ (cdv : Value) (A : Around) (outer : List Env) (s : Shared) (H : Hp) (vs : List V) (Q : VK) (E : XK), Room k (A.deeper (envOfC qual (defScope st) s.heap.objs.size f cdv)) → sp vs H Q E →
      LV (cxOf (L2.CX P w) P w K mg base N qual (defScope st) f cdv A outer s H E) (defBody st) (start N vs) H { nx := fun _ H' => Q .non H', rt := Q }) :
    FnR P w K mg base (L2.CX P w) (k + 1) f sp := by
  obtain ⟨fd, FD⟩ := F
  have FF := He5.fun_of FD
  obtain ⟨oc, od, kV, doc, pm, an, cdv, ct, osl, e, lk, hcd⟩ := FF.ex
  subst e
  have G : FnOk P w K mg base (L2.CX P w) (k + 1) f (PySem.W.fnOf x qual (defArgs st) (defBody st) (defScope st) .none kV doc pm an cdv ct) ps sp :=
    fn_of lk hcd S len fun A outer s H vs Q E hr hsp => ⟨_, pss_lv, hbody cdv A outer s H vs Q E hr hsp⟩
  have B : Binds K (PySem.W.fnOf x qual (defArgs st) (defBody st) (defScope st) .none kV doc pm an cdv ct) ps [] := .all (hb kV doc pm an cdv ct)
  refine (G.raw B .nil).imp fun vs H Q E h => ?_
  rw [List.append_nil]
  exact h

theorem fn_in {K : PySem.W.Frag} {x qual : Str} {params : Arguments} {body : List Stmt} {scope : Scope} {f : Addr} (F : ∃ fd, FunD K x qual params body scope [] [] f fd) : PySem.W.fnIn K f = true := by
  obtain ⟨_, F⟩ := F
  obtain ⟨_, _, _, _, _, _, _, _, _, _, rfl, lk, _⟩ := F.ex
  unfold PySem.W.fnIn
  rw [lk]
/-- what a place in the text has for calls: room, what becomes of exceptions -/
structure Cal (X : Cx) (k : Nat) (E : XK) : Prop where
  hr : Room k X.A
  hx : Passes (L2.CX X.prog X.w) X E
  calm : X.calm = true
  tk : Takes X (fun cls d _ H => E cls d H)
  po : PassesOwn (model X.prog X.w) X.A X.env X.xe
theorem Cal.body {P : Program} {w : World} {K : PySem.W.Frag} {mg : Str → Option Value} {base : Heap} {N : List Str} {qual : Str} {scope : Scope} {f : Addr} {cd : Value} {A : Around} {outer : List Env} {s : Shared} {H : Hp} {E : XK} {k : Nat}
    (hr : Room k (A.deeper (envOfC qual scope s.heap.objs.size f cd))) : Cal (cxOf (L2.CX P w) P w K mg base N qual scope f cd A outer s H E) k E :=
  ⟨hr, passes_call (takes_of rfl rfl rfl rfl) fun _ _ _ _ h => h, rfl, takes_of rfl rfl rfl rfl, passes_of rfl⟩
theorem takes_none {X : Cx} : Takes X (fun _ _ _ _ => False) := fun _ _ x => by
  obtain ⟨_, _, _, _, _, _, _, _, _, _, _, _, _, _, _, _, h⟩ := x
  exact h.elim
theorem passes_blk {X : Cx} {s : Shared} {H : Hp} {sc : Scope} {ce : Env} {fp : List Addr} : Passes (L2.CX X.prog X.w) (X.blk s H sc ce fp) E0 := fun _ _ _ _ _ _ _ h => by
  obtain ⟨_, _, _, _, _, _, _, _, _, _, _, _, hE⟩ := h
  exact hE
theorem Cal.blk {X : Cx} {k : Nat} {E : XK} (C : Cal X k E) {s : Shared} {H : Hp} {sc : Scope} {ce : Env} {fp : List Addr} : Cal (X.blk s H sc ce fp) k E0 := ⟨C.hr, passes_blk, C.calm, takes_none, PassesOwn.never⟩

section
variable {X : Cx} {e : Expr} {es : List Expr} {σ : L2.St} {H : Hp} {Q : VK} {D : Ends} {k j : Nat} {E : XK} {x : Str} {p pos apos : Pos} {sp : Sp} {f : Addr}
/-- f(e, ..) -/
theorem ev_call (C : Cal X k E) (F : FnR X.prog X.w X.K X.mg X.base (L2.CX X.prog X.w) j f sp) (hj : j ≤ k) (hm : X.mg x = some (.ref f)) (hk : PySem.W.keepIn X.K (.ref f) = true) (q : AV X (e :: es) σ H fun vs H1 => sp vs H1 Q E)
    (hg : Gl X x := by rfl) (hd : (x == ("__debug__" : Str)) = false := by decide)
    (he : starEach (e :: es) X.env = (false, eval e X.env) :: starEach es X.env := by rfl) (hpl : (backTo pos (starEach es X.env)).any (·.1) = false := by rfl) : EV X (.Call (.Name x p) (e :: es) [] pos) σ H Q := by
  intro pins s I
  refine wpAny_Call_Name_kw (ld_glob I hg hm ?_ hd)
  refine PySem.W.callWith_K (h₀ := X.base) I.ok.mod.kin hk (thn (q pos pins s I) fun us s1 ⟨vs, H1, I1, r, q⟩ => ⟨I1.kIn, ?_⟩) he hpl
  exact wpAny_call (run_fnR F (C.hr.mono hj) C.hx I1 r q)
/-- f(e, .., *y) -/
theorem ev_callS (C : Cal X k E) (F : FnR X.prog X.w X.K X.mg X.base (L2.CX X.prog X.w) j f sp) (hj : j ≤ k) (hm : X.mg x = some (.ref f)) (hk : PySem.W.keepIn X.K (.ref f) = true) (q : AV X (e :: es) σ H fun vs H1 => sp vs H1 Q E)
    (hg : Gl X x := by rfl) (hd : (x == ("__debug__" : Str)) = false := by decide)
    (he : starEach (e :: es) X.env = (false, eval e X.env) :: starEach es X.env := by rfl) (hpl : (backTo pos (starEach es X.env)).any (·.1) = true := by rfl) : EV X (.Call (.Name x p) (e :: es) [] pos) σ H Q :=
  EV.of (StX.pe_callS2 F (C.hr.mono hj) hk hg hm C.hx pa_av hd he hpl) q
/-- a class, made: C(e, ..), star arguments among them or none -/
theorem run_mk (C : Cal X k E) {CC : Addr} (M : Mk X.K CC f) (F : FnR X.prog X.w X.K X.mg X.base (L2.CX X.prog X.w) j f sp) (hj : j + 1 ≤ k) {pins : Pins} {s : Shared} {us : List Value} {vs : List V} (I : Inv X pins σ H s) (r : Vals vs us)
    (h : ∀ x dx, H x = Option.none → H dx = Option.none → dx ≠ x → sp (V.ref x :: vs) (upd (upd H dx (.own x)) x (.ins CC dx [])) (fun v H2 => v = .non ∧ Q (.ref x) H2) E) :
    wpAny (model X.prog X.w) X.A (call (.ref CC) us) (EP X pins σ Q) X.xe s := StX.run_makeR M F (C.hr.mono hj) C.hx I r h
/-- the callee a name of the module -/
theorem ev_mk (C : Cal X k E) {CC : Addr} (M : Mk X.K CC f) (F : FnR X.prog X.w X.K X.mg X.base (L2.CX X.prog X.w) j f sp) (hj : j + 1 ≤ k) (hm : X.mg x = some (.ref CC))
    (q : AV X (e :: es) σ H fun vs H1 => ∀ x dx, H1 x = Option.none → H1 dx = Option.none → dx ≠ x → sp (V.ref x :: vs) (upd (upd H1 dx (.own x)) x (.ins CC dx [])) (fun v H2 => v = .non ∧ Q (.ref x) H2) E)
    (hg : Gl X x := by rfl) (hd : (x == ("__debug__" : Str)) = false := by decide)
    (he : starEach (e :: es) X.env = (false, eval e X.env) :: starEach es X.env := by rfl) (hpl : (backTo pos (starEach es X.env)).any (·.1) = false := by rfl) : EV X (.Call (.Name x p) (e :: es) [] pos) σ H Q := by
  intro pins s I
  refine wpAny_Call_Name_kw (ld_glob I hg hm ?_ hd)
  refine PySem.W.callWith_K (h₀ := X.base) I.ok.mod.kin M.kp (thn (q pos pins s I) fun us s1 ⟨vs, H1, I1, r, q⟩ => ⟨I1.kIn, ?_⟩) he hpl
  exact run_mk C M F hj I1 r q
theorem ev_mkS (C : Cal X k E) {CC : Addr} (M : Mk X.K CC f) (F : FnR X.prog X.w X.K X.mg X.base (L2.CX X.prog X.w) j f sp) (hj : j + 1 ≤ k) (hm : X.mg x = some (.ref CC))
    (q : AV X (e :: es) σ H fun vs H1 => ∀ x dx, H1 x = Option.none → H1 dx = Option.none → dx ≠ x → sp (V.ref x :: vs) (upd (upd H1 dx (.own x)) x (.ins CC dx [])) (fun v H2 => v = .non ∧ Q (.ref x) H2) E)
    (hg : Gl X x := by rfl) (hd : (x == ("__debug__" : Str)) = false := by decide)
    (he : starEach (e :: es) X.env = (false, eval e X.env) :: starEach es X.env := by rfl) (hpl : (backTo pos (starEach es X.env)).any (·.1) = true := by rfl) : EV X (.Call (.Name x p) (e :: es) [] pos) σ H Q := by
  intro pins s I
  refine wpAny_Call_Name_kw (ld_glob I hg hm ?_ hd)
  refine PySem.W.callWith_S2 (h₀ := X.base) I.ok.mod.kin M.kp (thn (q pos pins s I) fun us s1 ⟨vs, H1, I1, r, q⟩ => ⟨I1.kIn, ?_⟩) he hpl
  exact run_mk C M F hj I1 r q
/-- .. a local name that holds the class -/
theorem ev_mkL (i : Nat) (C : Cal X k E) {CC : Addr} (M : Mk X.K CC f) (F : FnR X.prog X.w X.K X.mg X.base (L2.CX X.prog X.w) j f sp) (hj : j + 1 ≤ k) (hs : σ[i]? = some (some (.ref CC)))
    (q : AV X (e :: es) σ H fun vs H1 => ∀ x dx, H1 x = Option.none → H1 dx = Option.none → dx ≠ x → sp (V.ref x :: vs) (upd (upd H1 dx (.own x)) x (.ins CC dx [])) (fun v H2 => v = .non ∧ Q (.ref x) H2) E)
    (hN : X.N[i]? = some x := by rfl) (hv : Vis X.env.scope x := by first | exact Or.inl rfl | exact Or.inr (Or.inl rfl) | exact Or.inr (Or.inr rfl)) (hd : (x == ("__debug__" : Str)) = false := by decide) (hcd : (x == ("__classdict__" : Str)) = false := by decide)
    (he : starEach (e :: es) X.env = (false, eval e X.env) :: starEach es X.env := by rfl) (hpl : (backTo pos (starEach es X.env)).any (·.1) = false := by rfl) : EV X (.Call (.Name x p) (e :: es) [] pos) σ H Q := by
  intro pins s I
  refine wpAny_Call_Name_kw (thn ((pe_var (pos := p) hN hv hd hcd).run pins s σ H (fun v H1 => v = .ref CC ∧ H1 = H) I ⟨.ref CC, hs, rfl, rfl⟩) fun u s1 ⟨v, H1, I1, r1, q1⟩ => ?_)
  obtain ⟨rfl, rfl⟩ := q1
  cases r1
  refine PySem.W.callWith_K (h₀ := X.base) I.ok.mod.kin M.kp (thn (q pos pins s1 I1) fun us s1 ⟨vs, H1, I1, r, q⟩ => ⟨I1.kIn, ?_⟩) he hpl
  exact run_mk C M F hj I1 r q
theorem ev_mkLS (i : Nat) (C : Cal X k E) {CC : Addr} (M : Mk X.K CC f) (F : FnR X.prog X.w X.K X.mg X.base (L2.CX X.prog X.w) j f sp) (hj : j + 1 ≤ k) (hs : σ[i]? = some (some (.ref CC)))
    (q : AV X (e :: es) σ H fun vs H1 => ∀ x dx, H1 x = Option.none → H1 dx = Option.none → dx ≠ x → sp (V.ref x :: vs) (upd (upd H1 dx (.own x)) x (.ins CC dx [])) (fun v H2 => v = .non ∧ Q (.ref x) H2) E)
    (hN : X.N[i]? = some x := by rfl) (hv : Vis X.env.scope x := by first | exact Or.inl rfl | exact Or.inr (Or.inl rfl) | exact Or.inr (Or.inr rfl)) (hd : (x == ("__debug__" : Str)) = false := by decide) (hcd : (x == ("__classdict__" : Str)) = false := by decide)
    (he : starEach (e :: es) X.env = (false, eval e X.env) :: starEach es X.env := by rfl) (hpl : (backTo pos (starEach es X.env)).any (·.1) = true := by rfl) : EV X (.Call (.Name x p) (e :: es) [] pos) σ H Q := by
  intro pins s I
  refine wpAny_Call_Name_kw (thn ((pe_var (pos := p) hN hv hd hcd).run pins s σ H (fun v H1 => v = .ref CC ∧ H1 = H) I ⟨.ref CC, hs, rfl, rfl⟩) fun u s1 ⟨v, H1, I1, r1, q1⟩ => ?_)
  obtain ⟨rfl, rfl⟩ := q1
  cases r1
  refine PySem.W.callWith_S2 (h₀ := X.base) I.ok.mod.kin M.kp (thn (q pos pins s1 I1) fun us s1 ⟨vs, H1, I1, r, q⟩ => ⟨I1.kIn, ?_⟩) he hpl
  exact run_mk C M F hj I1 r q
/-- f(e, ..), f a built-in function; T(e, ..), T a built-in type -/
theorem ev_callB {id : String} {r : List V → Hp → VK → Prop} (hcal : X.calm = true) (hc : CallR X (.builtin id) r) (hm : X.mg x = none) (q : AV X (e :: es) σ H fun vs H1 => r vs H1 Q) (hv : bootBuiltins x = some (.builtin id) := by decide +kernel) (hg : Gl X x := by rfl)
    (hn : x ≠ "__name__" := by decide) (hdb : (x == ("__debug__" : Str)) = false := by decide)
    (he : starEach (e :: es) X.env = (false, eval e X.env) :: starEach es X.env := by rfl) (hpl : (backTo pos (starEach es X.env)).any (·.1) = false := by rfl) : EV X (.Call (.Name x p) (e :: es) [] pos) σ H Q := EV.of (pe_callB hc hg hm hv pa_av hn hdb he hpl) q
theorem ev_callT {T : String} {r : List V → Hp → VK → Prop} (hc : CallR X (.type T) r) (hm : X.mg x = none) (q : AV X (e :: es) σ H fun vs H1 => r vs H1 Q) (hv : bootBuiltins x = some (.type T) := by decide +kernel) (hg : Gl X x := by rfl)
    (hn : x ≠ "__name__" := by decide) (hdb : (x == ("__debug__" : Str)) = false := by decide)
    (he : starEach (e :: es) X.env = (false, eval e X.env) :: starEach es X.env := by rfl) (hpl : (backTo pos (starEach es X.env)).any (·.1) = false := by rfl) : EV X (.Call (.Name x p) (e :: es) [] pos) σ H Q := EV.of (pe_callTy hc hg hm hv pa_av hn hdb he hpl) q
/-- o.m(e, ..) -/
theorem ev_meth {o : Expr} {CC : Addr} {m : Str} {pl : Sem Bool} (C : Cal X k E) (c : Cls X.K CC) (hm : Meth X.K CC m f) (F : FnR X.prog X.w X.K X.mg X.base (L2.CX X.prog X.w) j f sp) (hj : j ≤ k)
    (q : EV X o σ H fun x H1 => ∃ a dx fs, x = .ref a ∧ H1 a = some (.ins CC dx fs) ∧ fs.lookup m = none ∧ AV X (e :: es) σ H1 fun vs H2 => sp (x :: vs) H2 Q E)
    (hst : starEach (e :: es) X.env = (false, eval e X.env) :: starEach es X.env := by rfl) (hpl : (backTo pos (starEach es X.env)).any (·.1) = false := by rfl)
    (ht : eval (.Call (.Attribute o m apos) (e :: es) [] pos) X.env = (do
      let ov ← eval o X.env
      standAt apos.atName
      let (f, first) ← holding [ov] (getMethod ov m pl)
      callWith pos f first (backTo pos (starEach (e :: es) X.env)) (backToKw pos (keywordEach [] X.env))) := by rfl) : EV X (.Call (.Attribute o m apos) (e :: es) [] pos) σ H Q :=
  EV.of (pe_methR pe_ev c hm F (C.hr.mono hj) C.hx pa_av hst hpl ht) q
/-- o.m() -/
theorem ev_meth0 {o : Expr} {CC : Addr} {m : Str} {pl : Sem Bool} (C : Cal X k E) (c : Cls X.K CC) (hm : Meth X.K CC m f) (F : FnR X.prog X.w X.K X.mg X.base (L2.CX X.prog X.w) j f sp) (hj : j ≤ k)
    (q : EV X o σ H fun x H1 => ∃ a dx fs, x = .ref a ∧ H1 a = some (.ins CC dx fs) ∧ fs.lookup m = none ∧ sp [x] H1 Q E)
    (ht : eval (.Call (.Attribute o m apos) [] [] pos) X.env = (do
      let ov ← eval o X.env
      standAt apos.atName
      let (f, first) ← holding [ov] (getMethod ov m pl)
      callWith pos f first (backTo pos (starEach [] X.env)) (backToKw pos (keywordEach [] X.env))) := by rfl) : EV X (.Call (.Attribute o m apos) [] [] pos) σ H Q := by
  intro pins s I
  refine PySem.W.methodCall_KW (pl := pl) (thn (q pins s I) fun u s1 ⟨x, H1, I1, rx, a, dx, fs, ex, ea, l, q⟩ => ?_) ht
  subst ex
  obtain rfl : u = Value.ref a := rx
  refine getmeth_ok I1 ea c hm l ?_
  exact PySem.W.callWith_K0 (first := [.ref a]) I1.kIn hm.kp (wpAny_call (run_fnR (us := [.ref a]) (vs := [.ref a]) F (C.hr.mono hj) C.hx I1 (.cons rfl .nil) q))
/-- o.f, a field -/
theorem ev_fld {g : Str} (q : EV X e σ H fun x H1 => ∃ a CC dx fs v, x = .ref a ∧ H1 a = some (.ins CC dx fs) ∧ Cls X.K CC ∧ NoAttr X.K CC g ∧ fs.lookup g = some v ∧ Q v H1) (hb : attributeBase e g X.env (eval e X.env) = eval e X.env := by rfl) :
    EV X (.Attribute e g pos) σ H Q := EV.of (pe_fld pe_ev hb) q
/-- o.f = e -/
theorem sv_fld {g : Str} {o : Expr} {pos' : Pos} (q : EV X e σ H fun y H1 => EV X o σ H1 fun x H2 => ∃ a CC dx fs, x = .ref a ∧ H2 a = some (.ins CC dx fs) ∧ Cls X.K CC ∧ NoAttr X.K CC g ∧ fs.length < 1000 ∧ D.nx σ (upd H2 a (.ins CC dx (putF g y fs))))
    (hs : swapsWith e (some (.Attribute o g pos')) pos.line X.env = pure false := by rfl) : SV X (.Assign [.Attribute o g pos'] e pos) σ H D := SV.of (ps_fld pe_ev pe_ev hs) q
end

/-! ### raise X('..'), X an own class without __init__ -/
section
variable {X : Cx} {σ : L2.St} {H : Hp} {Q : VK} {D : Ends} {k j : Nat} {E : XK} {x m : Str} {p p2 pos pos2 : Pos}
theorem sv_raise {jj : Nat} (C : Cal X k E) (F : ExcF X.K X.mg x) (q : E (.ref (He.ga X.K x)) none H) (hg : Gl X x := by rfl) (hdb : (x == ("__debug__" : Str)) = false := by decide) :
    SV X (.Raise (some (.Call (.Name x p) [.Constant (.str m) jj p2] [] pos)) none pos2) σ H D :=
  SV.of (ps_raise C.calm C.tk (pmk_own PySem.F.excBase_ValueError F.e F.g F.k (raises_own F.b F.t) hg hdb)) q
theorem sv_never {st : Stmt} (h : False) : SV X st σ H D := h.elim
end

/-! ### operators of an own class -/
section
variable {X : Cx} {σ : L2.St} {H : Hp} {Q : VK} {k j : Nat} {E : XK} {CC f : Addr} {sp : Sp} {pins : Pins} {s : Shared} {a dx : Addr} {fs : List (Str × V)}
theorem inst_of (I : Inv X pins σ H s) (h : H a = some (.ins CC dx fs)) : ∃ od, PySem.W.InstAt s.heap a (PySem.W.instObj CC dx) CC (some od) := by
  obtain ⟨mA, O, _⟩ := ins_get I.hok h
  obtain ⟨od, J, _⟩ := O.look
  exact ⟨od, J⟩
/-- x op y, both of the class at CC -/
theorem op_ownB (C : Cal X k E) {op : Operator} (sf : PySem.W.selfFirst X.K CC = true) (hm : Meth X.K CC (PySem.dunder op.info.2) f) (F : FnR X.prog X.w X.K X.mg X.base (L2.CX X.prog X.w) j f sp) (hj : j ≤ k) :
    OpR X (binaryOp op) (fun x y H Q => ∃ a dx fs b dy gs, x = .ref a ∧ y = .ref b ∧ H a = some (.ins CC dx fs) ∧ H b = some (.ins CC dy gs) ∧ sp [x, y] H Q E) := by
  intro pins s σ H x y v u Q I rx ry h
  obtain ⟨a, dx, fs, b, dy, gs, rfl, rfl, ha, hb, q⟩ := h
  cases (show v = Value.ref a from rx)
  cases (show u = Value.ref b from ry)
  obtain ⟨od, J⟩ := inst_of I ha
  obtain ⟨od', J'⟩ := inst_of I hb
  obtain ⟨m, hF⟩ := I.fr
  refine PySem.W.binop_K hF I.ok.mod.kin J J'.type sf hm.at_ hm.fn ?_
  refine wpAny_mono (wpAny_call (run_fnR (us := [.ref a, .ref b]) (vs := [.ref a, .ref b]) F (C.hr.mono hj) C.hx I (.cons rfl (.cons rfl .nil)) q)) (fun w s' z => ?_) fun _ _ x => x
  obtain ⟨z', H', I', rz, qz⟩ := z
  exact SlX.cmpback rz ⟨z', H', I', rz, qz⟩
/-- x op i, x of the class at CC, i an int -/
theorem op_ownI (C : Cal X k E) {op : Operator} {fo ro rc : Option Value} (sf : PySem.W.selfFirst X.K CC = true) (hm : Meth X.K CC (PySem.dunder op.info.2) f) (F : FnR X.prog X.w X.K X.mg X.base (L2.CX X.prog X.w) j f sp) (hj : j ≤ k)
    (hr : PySem.W.findIn X.K (.ref CC) (dunderR op.info.2) = some rc) (hp : rc = none ∨ ∃ g : Addr, rc = some (.ref g)) (h1 : PySem.W.findIn X.K (.type "int") (PySem.dunder op.info.2) = some fo) (h2 : PySem.W.findIn X.K (.type "int") (dunderR op.info.2) = some ro)
    (hsub : PySem.W.subIn X.K (.type "int") (.ref CC) = some false) :
    OpR X (binaryOp op) (fun x y H Q => ∃ a dx fs i, x = .ref a ∧ y = .int i ∧ H a = some (.ins CC dx fs) ∧ sp [x, y] H Q E) := by
  intro pins s σ H x y v u Q I rx ry h
  obtain ⟨a, dx, fs, i, rfl, rfl, ha, q⟩ := h
  cases (show v = Value.ref a from rx)
  have ry2 := ry
  obtain ⟨t, rfl⟩ := ry
  obtain ⟨od, J⟩ := inst_of I ha
  obtain ⟨m, hF⟩ := I.fr
  refine PySem.W.ksp_binT (T := "int") hF I.ok.mod.kin J rfl sf hm.at_ hm.fn hr hp h1 h2 hsub ?_
  refine wpAny_mono (wpAny_call (run_fnR (us := [.ref a, .int i t]) (vs := [.ref a, .int i]) F (C.hr.mono hj) C.hx I (.cons rfl (.cons ry2 .nil)) q)) (fun w s' z => ?_) fun _ _ x => x
  obtain ⟨z', H', I', rz, qz⟩ := z
  exact SlX.cmpback rz ⟨z', H', I', rz, qz⟩
/-- x op y compared, x of the class at CC; y anything whose type is known and not below CC -/
theorem op_ownC (C : Cal X k E) {op : CmpOp} (hop : ∀ a b, compareOp op a b = richCompare op a b) (hm : Meth X.K CC (cmpInfo op).2.1 f) (F : FnR X.prog X.w X.K X.mg X.base (L2.CX X.prog X.w) j f sp) (hj : j ≤ k) :
    OpR X (compareOp op) (fun x y H Q => ∃ a dx fs t, x = .ref a ∧ H a = some (.ins CC dx fs) ∧ TyX X.K H y t ∧ PySem.W.notFirst X.K CC t = true ∧ sp [x, y] H Q E) := by
  intro pins s σ H x y v u Q I rx ry h
  obtain ⟨a, dx, fs, t, rfl, ha, ty, hn, q⟩ := h
  cases (show v = Value.ref a from rx)
  obtain ⟨od, J⟩ := inst_of I ha
  obtain ⟨m, hF⟩ := I.fr
  rw [hop]
  have hb : PySem.W.Looks (model X.prog X.w) s.heap (typeOf u) t := by
    obtain ⟨P, Z, p, _⟩ := kit_of I ry ty
    exact Z.ty _ _ I.kIn p
  refine PySem.W.cmp_K (op := op) (tb := t) C.hr.units0 hF I.ok.mod.kin J hb hn hm.at_ hm.fn ?_
  refine wpAny_mono (wpAny_call (run_fnR (us := [.ref a, u]) (vs := [.ref a, y]) F (C.hr.mono hj) C.hx I (.cons rfl (.cons ry .nil)) q)) (fun w s' z => ?_) fun _ _ x => x
  obtain ⟨z', H', I', rz, qz⟩ := z
  exact SlX.cmpback rz ⟨z', H', I', rz, qz⟩
end

/-! ### numbers: is_whole, is_integer, check_number -/
inductive Typd (H : Hp) : V → Prop where
  | non : Typd H .non
  | bl (b : Bool) : Typd H (.bl b)
  | int (i : Int) : Typd H (.int i)
  | str (x : Str) : Typd H (.str x)
  | lst {a : Addr} {xs : List V} (e : H a = some (.lst xs)) : Typd H (.ref a)
  | tup {a : Addr} {xs : List V} (e : H a = some (.tup xs)) : Typd H (.ref a)
def wh : V → Bool
  | .int _ => true
  | _ => false
def inRg (lo hi : Int) : V → Bool
  | .int i => decide (lo ≤ i) && decide (i ≤ hi)
  | _ => false
def isI : V → Bool
  | .int _ => true
  | .bl _ => true
  | _ => false
def isB : V → Bool
  | .bl _ => true
  | _ => false
theorem wh_eq (v : V) : wh v = (isI v && !isB v) := by cases v <;> rfl
theorem Typd.ty {K : PySem.W.Frag} {H : Hp} {v : V} (h : Typd H v) : ∃ n, TyX K H v (.type n) ∧ kitB n "int" = some (isI v) ∧ kitB n "bool" = some (isB v) := by
  cases h with
  | non => exact ⟨_, .base .non, (by decide +kernel : kitB "NoneType" "int" = some false), (by decide +kernel : kitB "NoneType" "bool" = some false)⟩
  | bl b => exact ⟨_, .base (.bl b), (by decide +kernel : kitB "bool" "int" = some true), (by decide +kernel : kitB "bool" "bool" = some true)⟩
  | int i => exact ⟨_, .base (.int i), (by decide +kernel : kitB "int" "int" = some true), (by decide +kernel : kitB "int" "bool" = some false)⟩
  | str x => exact ⟨_, .base (.str x), (by decide +kernel : kitB "str" "int" = some false), (by decide +kernel : kitB "str" "bool" = some false)⟩
  | lst e => exact ⟨_, .base (.lst e), (by decide +kernel : kitB "list" "int" = some false), (by decide +kernel : kitB "list" "bool" = some false)⟩
  | tup e => exact ⟨_, .base (.tup e), (by decide +kernel : kitB "tuple" "int" = some false), (by decide +kernel : kitB "tuple" "bool" = some false)⟩
def spWhole : Sp := fun vs H Q _ => ∃ v, vs = [v] ∧ Typd H v ∧ Q (.bl (wh v)) H
def spInteger : Sp := fun vs H Q _ => ∃ v lo hi, vs = [v, .int lo, .int hi] ∧ Typd H v ∧ Q (.bl (inRg lo hi v)) H
def spCheck (K : PySem.W.Frag) : Sp := fun vs H Q E => ∃ v lo hi, vs = [v, .int lo, .int hi] ∧ Typd H v ∧ (inRg lo hi v = true → Q .non H) ∧ (inRg lo hi v = false → E (.ref (He.ga K "InvalidNumber")) none H)
section
variable {X : Cx} {a b : Expr} {σ : L2.St} {H : Hp} {Q : VK} {pos p : Pos}
/-- isinstance(a, b) -/
theorem ev_isi (hm : X.mg "isinstance" = none) (q : EV X a σ H fun x H1 => EV X b σ H1 fun c H2 => ∃ t u, TyX X.K H2 x t ∧ ClsV c u ∧ ∃ k, PySem.W.kitOne X.K t u = some k ∧ Q (.bl k) H2) (hg : Gl X "isinstance" := by rfl)
    (he : starEach [a, b] X.env = (false, eval a X.env) :: starEach [b] X.env := by rfl) (he2 : starEach [b] X.env = (false, eval b X.env) :: starEach [] X.env := by rfl) (hpl : (backTo pos (starEach [b] X.env)).any (·.1) = false := by rfl) :
    EV X (.Call (.Name "isinstance" p) [a, b] [] pos) σ H Q := by
  refine EV.of (pe_callB call_isi hg hm (by decide +kernel) (pa_cons pe_ev (pa_cons pe_ev pa_nil he2) he) (by decide) (by decide) he hpl) ?_
  refine EV.mono q fun x H1 q1 => EV.mono q1 fun c H2 ⟨t, u, ty, k, b, e, q⟩ => ⟨x, c, t, u, b, rfl, k, ty, e, q⟩
end

/-! ### fields of stretches and ways -/
section
variable {X : Cx} {e : Expr} {σ : L2.St} {H : Hp} {Q : VK} {pos : Pos}
theorem ev_least (c : Cls X.K (He.ga X.K "Stretch")) (n : NoAttr X.K (He.ga X.K "Stretch") "least") (q : EV X e σ H fun x H1 => ∃ s, IsSt X.K H1 x s ∧ Q (vN s.need) H1) (hb : attributeBase e "least" X.env (eval e X.env) = eval e X.env := by rfl) :
    EV X (.Attribute e "least" pos) σ H Q := ev_fld (EV.mono q fun v H' ⟨s, ⟨o, a, dx, ev, ea⟩, h⟩ => ⟨a, _, dx, _, _, ev, ea, c, n, rfl, h⟩) hb
theorem ev_more (c : Cls X.K (He.ga X.K "Stretch")) (n : NoAttr X.K (He.ga X.K "Stretch") "more") (q : EV X e σ H fun x H1 => ∃ s, IsSt X.K H1 x s ∧ Q (.int s.gain) H1) (hb : attributeBase e "more" X.env (eval e X.env) = eval e X.env := by rfl) :
    EV X (.Attribute e "more" pos) σ H Q := ev_fld (EV.mono q fun v H' ⟨s, ⟨o, a, dx, ev, ea⟩, h⟩ => ⟨a, _, dx, _, _, ev, ea, c, n, rfl, h⟩) hb
theorem ev_most (c : Cls X.K (He.ga X.K "Stretch")) (n : NoAttr X.K (He.ga X.K "Stretch") "most") (q : EV X e σ H fun x H1 => ∃ s, IsSt X.K H1 x s ∧ Q (.int s.top) H1) (hb : attributeBase e "most" X.env (eval e X.env) = eval e X.env := by rfl) :
    EV X (.Attribute e "most" pos) σ H Q := ev_fld (EV.mono q fun v H' ⟨s, ⟨o, a, dx, ev, ea⟩, h⟩ => ⟨a, _, dx, _, _, ev, ea, c, n, rfl, h⟩) hb
theorem ev_holds (c : Cls X.K (He.ga X.K "Way")) (n : NoAttr X.K (He.ga X.K "Way") "holds") (q : EV X e σ H fun x H1 => ∃ w, IsWy X.K H1 x w ∧ Q (.int w.cap) H1) (hb : attributeBase e "holds" X.env (eval e X.env) = eval e X.env := by rfl) :
    EV X (.Attribute e "holds" pos) σ H Q := ev_fld (EV.mono q fun v H' ⟨w, ⟨o, a, dx, t, ev, ea, _⟩, h⟩ => ⟨a, _, dx, _, _, ev, ea, c, n, rfl, h⟩) hb
theorem ev_rows (c : Cls X.K (He.ga X.K "Way")) (n : NoAttr X.K (He.ga X.K "Way") "rows") (q : EV X e σ H fun x H1 => ∃ w, IsWy X.K H1 x w ∧ ∀ t, IsPs H1 t w.posts → Q (.ref t) H1) (hb : attributeBase e "rows" X.env (eval e X.env) = eval e X.env := by rfl) :
    EV X (.Attribute e "rows" pos) σ H Q := ev_fld (EV.mono q fun v H' ⟨w, ⟨o, a, dx, t, ev, ea, hp⟩, h⟩ => ⟨a, _, dx, _, _, ev, ea, c, n, rfl, h t hp⟩) hb
end
end Oil
namespace Oil
open PySem PySem.Spec PyProof.Rows L2
theorem put1 {f : Str} {v : V} : (putF f v []).length < 1000 := Nat.lt_of_le_of_lt (length_putF f v []) (by decide)
theorem put2 {f g : Str} {v u : V} : (putF f v (putF g u [])).length < 1000 := Nat.lt_of_le_of_lt (Nat.le_trans (length_putF f v _) (Nat.succ_le_succ (length_putF g u []))) (by decide)
theorem put0 : ([] : List (Str × V)).length < 1000 := by decide
/-! ### stretches: the promises -/
/-- Stretch(n, g, t) is accepted -/
def argOk (n : Option Int) (g t : Int) : Prop := 0 ≤ t ∧ match n with
  | none => True
  | some n => 0 ≤ n ∧ 0 ≤ n + g
def mkS (n : Option Int) (g t : Int) : St3 := match n with
  | none => bar
  | some n => ⟨some n, g, t⟩
theorem mkS_ok {n : Option Int} {g t : Int} (h : argOk n g t) : (mkS n g t).ok := by
  cases n with
  | none => exact bar_ok
  | some n => exact ⟨h.2.1, h.2.2, h.1⟩
def spStInit (K : PySem.W.Frag) : Sp := fun vs H Q _ => ∃ x dx n g t, vs = [.ref x, vN n, .int g, .int t] ∧ H x = some (.ins (He.ga K "Stretch") dx []) ∧ argOk n g t ∧ Q .non (upd H x (.ins (He.ga K "Stretch") dx (stF (mkS n g t))))
def spStCall (K : PySem.W.Frag) : Sp := fun vs H Q E => ∃ v s o, vs = [v, o] ∧ IsSt K H v s ∧ Typd H o ∧ (∀ i, o = .int i → 0 ≤ i → Q (vN (s.call i)) H) ∧ ((∀ i, o = .int i → i < 0) → E (.ref (He.ga K "InvalidNumber")) none H)
def spStEq (K : PySem.W.Frag) : Sp := fun vs H Q _ => ∃ v s o, vs = [v, o] ∧ IsSt K H v s ∧
  ((∃ s', IsSt K H o s' ∧ ∀ H', Same H H' → Q (.bl (decide (s = s'))) H') ∨ (Typd H o ∧ ∀ H', Same H H' → Q (.bl false) H'))
def spStBool (K : PySem.W.Frag) : Sp := fun vs H Q _ => ∃ v s, vs = [v] ∧ IsSt K H v s ∧ Q (.bl s.need.isSome) H
def spJoin (K : PySem.W.Frag) : Sp := fun vs H Q _ => ∃ v1 v2 a b, vs = [v1, v2] ∧ IsSt K H v1 a ∧ IsSt K H v2 b ∧ ∀ H' v, Same H H' → IsSt K H' v (a.join b) → Q v H'
/-- times is at least 1 -/
def spRep (K : PySem.W.Frag) : Sp := fun vs H Q E => ∃ v a o, vs = [v, o] ∧ IsSt K H v a ∧ Typd H o ∧
  (∀ i, o = .int i → 1 ≤ i → i ≤ 10 ^ 18 → ∀ H' v, Same H H' → IsSt K H' v (a.pw i.toNat) → Q v H') ∧ (inRg 1 (10 ^ 18) o = false → E (.ref (He.ga K "InvalidNumber")) none H)
def spPartsOf (K : PySem.W.Frag) : Sp := fun vs H Q _ => ∃ v s, vs = [v] ∧ IsSt K H v s ∧ ∀ H' p, Same H H' → H' p = some (.tup [vN s.need, .int s.gain, .int s.top]) → Q (.ref p) H'
def spStNeed (K : PySem.W.Frag) : Sp := fun vs H Q _ => ∃ v s, vs = [v] ∧ IsSt K H v s ∧ Q (vN s.need) H
def spStGain (K : PySem.W.Frag) : Sp := fun vs H Q _ => ∃ v s, vs = [v] ∧ IsSt K H v s ∧ Q (.int s.gain) H
def spStTop (K : PySem.W.Frag) : Sp := fun vs H Q _ => ∃ v s, vs = [v] ∧ IsSt K H v s ∧ Q (.int s.top) H
def spBarred (K : PySem.W.Frag) : Sp := fun vs H Q _ => vs = [.ref (He.ga K "Stretch")] ∧ ∀ H' v, Same H H' → IsSt K H' v bar → Q v H'
theorem IsSt.ty {K : PySem.W.Frag} {H : Hp} {v : V} {s : St3} (i : IsiF K (He.ga K "Stretch")) (c : Cls K (He.ga K "Stretch")) (h : IsSt K H v s) : TyX K H v (.ref (He.ga K "Stretch")) := by
  obtain ⟨_, a, dx, rfl, ha⟩ := h
  exact i.ty c ha
theorem sub_int {K : PySem.W.Frag} {C : Addr} : PySem.W.subIn K (.type "int") (.ref C) = some false := by rfl
theorem Typd.tyn {K : PySem.W.Frag} {H : Hp} {v : V} (h : Typd H v) (C : Addr) : ∃ n, TyX K H v (.type n) ∧ PySem.W.subIn K (.type n) (.ref C) = some false := by
  cases h with
  | non => exact ⟨"NoneType", .base .non, rfl⟩
  | bl b => exact ⟨"bool", .base (.bl b), rfl⟩
  | int i => exact ⟨"int", .base (.int i), rfl⟩
  | str x => exact ⟨"str", .base (.str x), rfl⟩
  | lst e => exact ⟨"list", .base (.lst e), rfl⟩
  | tup e => exact ⟨"tuple", .base (.tup e), rfl⟩
/-- the three numbers, as data -/
def dN : Option Int → PyData
  | none => .none
  | some i => .int i
def dSt (s : St3) : PyData := .tuple [dN s.need, .int s.gain, .int s.top]
theorem dp_vN {K : PySem.W.Frag} {H : Hp} (n : Option Int) : Dp K H (vN n) (dN n) := by
  cases n with
  | none => exact .non
  | some i => exact .int i
theorem dp_st {K : PySem.W.Frag} {H : Hp} {p : Addr} {s : St3} (h : H p = some (.tup [vN s.need, .int s.gain, .int s.top])) : Dp K H (.ref p) (dSt s) := .tup (SqT.of h) (.cons (dp_vN _) (.cons (.int _) (.cons (.int _) .nil)))
theorem shaped_st (s : St3) : SeqAt.shaped (dSt s) = true := by
  obtain ⟨n, g, t⟩ := s
  cases n <;> rfl
theorem eqv_st (a b : St3) : PyData.eqv (dSt a) (dSt b) = decide (a = b) := by
  obtain ⟨n, g, t⟩ := a
  obtain ⟨m, g', t'⟩ := b
  cases n <;> cases m <;> simp [dSt, dN, PyData.eqv, PyData.eqvAll, Bool.decide_and, Bool.beq_eq_decide_eq]
end Oil
set_option Elab.async false
set_option linter.all false
set_option maxRecDepth 100000
set_option maxHeartbeats 2000000
namespace Oil
open PySem PySem.Spec PyProof.Rows L2

/-! ### len, truth, [], ~, in of an own class; several stores -/
section
variable {X : Cx} {e a b c : Expr} {σ : L2.St} {H : Hp} {Q : VK} {Qt Qf : Hp → Prop} {D : Ends} {k j : Nat} {E : XK} {CC f : Addr} {sp : Sp} {pos : Pos}
/-- the callee runs one call below -/
theorem run_in1 {pins : Pins} {s : Shared} {us : List Value} {vs : List V} (C : Cal X k E) (F : FnR X.prog X.w X.K X.mg X.base (L2.CX X.prog X.w) j f sp) (hj : j + 1 ≤ k) (I : Inv X pins σ H s) (r : Vals vs us) (h : sp vs H Q E) :
    wpAny (model X.prog X.w) X.A.in1 (call (.ref f) us) (EP X pins σ Q) X.xe s := by
  refine wpAny_call (codeAny_mono (F X.A.in1 X.stack s H us vs Q E (C.hr.mono hj).in1 I.env0.in1 r h) fun r s' hq => ?_)
  cases r with
  | error e => exact C.hx pins σ H s e s' I hq
  | ok fl =>
    cases fl with
    | ret u => exact I.after hq
    | next => exact False.elim hq
    | brk => exact False.elim hq
    | cont => exact False.elim hq
/-- len(o) -/
theorem call_lenO (C : Cal X k E) (hm : Meth X.K CC "__len__" f) (F : FnR X.prog X.w X.K X.mg X.base (L2.CX X.prog X.w) j f sp) (hj : j + 1 ≤ k) :
    CallR X (.builtin "len") (fun xs H Q => ∃ a dx fs, xs = [V.ref a] ∧ H a = some (.ins CC dx fs) ∧ sp [.ref a] H (fun z H' => ∃ n, z = .int n ∧ 0 ≤ n ∧ n < 2 ^ 63 ∧ Q (.int n) H') E) := by
  intro pins s σ H xs us Q I r h
  obtain ⟨a, dx, fs, rfl, ha, q⟩ := h
  obtain ⟨u, rfl, ru⟩ := vals1 r
  cases (show u = Value.ref a from ru)
  obtain ⟨od, J⟩ := inst_of I ha
  obtain ⟨m, hF⟩ := I.fr
  refine PySem.W.len_K hF I.ok.mod.kin J hm.at_ hm.fn (thn (run_in1 (vs := [.ref a]) (us := [.ref a]) C F hj I (.cons rfl .nil) q) fun u s' ⟨v, H', I', r', n, ev, h0, h1, q'⟩ => ?_)
  subst ev
  obtain ⟨t, rfl⟩ := r'
  exact ⟨⟨h0, h1⟩, .int n, H', I'.tok _, ⟨_, rfl⟩, q'⟩
/-- an instance as a test -/
theorem tv_own (C : Cal X k E) (hm : Meth X.K CC "__bool__" f) (F : FnR X.prog X.w X.K X.mg X.base (L2.CX X.prog X.w) j f sp) (hj : j ≤ k)
    (q : EV X e σ H fun x H1 => ∃ a dx fs, x = .ref a ∧ H1 a = some (.ins CC dx fs) ∧ sp [.ref a] H1 (fun z H2 => ∃ k, z = .bl k ∧ br Qt Qf k H2) E)
    (he : ∀ whole, isTrue e X.env whole = (do let v ← whole; standAt e.pos; holding [v] (truthy v)) := by intro _; rfl) : TV X e σ H Qt Qf := by
  intro pins s I
  refine isTrue_plain (thn (q pins s I) fun v s1 ⟨x, H1, I1, r1, a, dx, fs, ex, ha, q1⟩ => ?_) (he _)
  subst ex
  cases (show v = Value.ref a from r1)
  obtain ⟨od, J⟩ := inst_of I1 ha
  obtain ⟨m, hF⟩ := I1.fr
  refine PySem.W.truthy_K hF I1.ok.mod.kin J hm.at_ hm.fn (thn (wpAny_call (run_fnR (vs := [.ref a]) (us := [.ref a]) F (C.hr.mono hj) C.hx I1 (.cons rfl .nil) q1)) fun u s' ⟨v, H', I', r', k, ev, q'⟩ => ?_)
  subst ev
  cases (show u = Value.bool k from r')
  exact ⟨H', I', q'⟩
/-- o[i] by an own __getitem__ -/
theorem ev_subO {i : Expr} (C : Cal X k E) (hm : Meth X.K CC "__getitem__" f) (hf : PySem.W.fnIn X.K f = true) (F : FnR X.prog X.w X.K X.mg X.base (L2.CX X.prog X.w) j f sp) (hj : j + 1 ≤ k)
    (q : EV X a σ H fun x H1 => EV X i σ H1 fun y H2 => ∃ p dx fs, x = .ref p ∧ H2 p = some (.ins CC dx fs) ∧ sp [.ref p, y] H2 Q E)
    (hsl : ∀ x y, subscripted i true (.ref x) y = runValue (.builtin "lifetime.subscript" ⟨[.ref x, y], []⟩) := by intros; with_unfolding_all rfl) : EV X (.Subscript a i pos) σ H Q := by
  intro pins s I
  refine Subscript_ (binT (R := fun x y H2 => ∃ p dx fs, x = .ref p ∧ H2 p = some (.ins CC dx fs) ∧ sp [.ref p, y] H2 Q E) pe_ev pe_ev I q fun v u s2 x y H2 I2 rx ry ⟨p, dx, fs, ex, hp, q2⟩ => ?_)
  subst ex
  cases (show v = Value.ref p from rx)
  obtain ⟨od, J⟩ := inst_of I2 hp
  obtain ⟨m, hF⟩ := I2.fr
  exact PySem.W.sub_K hF I2.ok.mod.kin J hm.at_ hf hm.fn (run_in1 (vs := [.ref p, y]) (us := [.ref p, u]) C F hj I2 (.cons rfl (.cons ry .nil)) q2) (hsl _ _)
/-- ~o -/
theorem un_invO (C : Cal X k E) (hm : Meth X.K CC "__invert__" f) (F : FnR X.prog X.w X.K X.mg X.base (L2.CX X.prog X.w) j f sp) (hj : j ≤ k) :
    UnR X (unaryOp .Invert) (fun x H Q => ∃ a dx fs, x = .ref a ∧ H a = some (.ins CC dx fs) ∧ sp [.ref a] H Q E) := by
  intro pins s σ H x v Q I rx h
  obtain ⟨a, dx, fs, rfl, ha, q⟩ := h
  cases (show v = Value.ref a from rx)
  obtain ⟨od, J⟩ := inst_of I ha
  obtain ⟨m, hF⟩ := I.fr
  exact PySem.W.ksp_inv hF I.ok.mod.kin J hm.at_ hm.fn (wpAny_call (run_fnR (vs := [.ref a]) (us := [.ref a]) F (C.hr.mono hj) C.hx I (.cons rfl .nil) q))
/-- o.f, a property -/
theorem ev_prop {g p : Addr} {m : Str} (C : Cal X k E) (c : Cls X.K CC) (hp : PropOf X.K CC m p g) (F : FnR X.prog X.w X.K X.mg X.base (L2.CX X.prog X.w) j g sp) (hj : j + 1 ≤ k)
    (q : EV X e σ H fun x H1 => ∃ a dx fs, x = .ref a ∧ H1 a = some (.ins CC dx fs) ∧ sp [.ref a] H1 Q E0) (hab : attributeBase e m X.env (eval e X.env) = eval e X.env := by rfl) : EV X (.Attribute e m pos) σ H Q := by
  intro pins s I
  refine attr_of hab (thn (q pins s I) fun u s1 ⟨x, H1, I1, rx, a, dx, fs, ex, ea, q⟩ => ?_)
  subst ex
  obtain rfl : u = Value.ref a := rx
  obtain ⟨od, J⟩ := inst_of I1 ea
  obtain ⟨rest, hrec⟩ := hp.rec_
  have I2 := I1.tok (s1.toks + 1)
  have hc : (PySem.W.clsIn X.K CC).isSome = true := by
    obtain ⟨cd, hc, _⟩ := PySem.W.any_some c.hd
    rw [hc]
    rfl
  refine PySem.W.get_bind I1.kIn J (PySem.W.plainGet_of (c.get m)).1 (PySem.W.findObj_data hc hp.at_ hp.get hp.tak) (PySem.W.plainGet_of (c.get m)).2 (wpAny_call (PySem.W.prop_get (s := { s1 with toks := s1.toks + 1 }) I1.kIn hrec ?_))
  refine codeAny_mono (F X.A.in1 X.stack { s1 with toks := s1.toks + 1 } H1 [.ref a] [.ref a] Q E0 (C.hr.mono hj).in1 I2.env0.in1 (.cons rfl .nil) q) fun r s' hq => ?_
  cases r with
  | error er =>
    obtain ⟨_, _, _, _, _, _, _, _, _, _, _, _, hE⟩ := hq
    exact hE.elim
  | ok fl =>
    cases fl with
    | ret u =>
      obtain ⟨v, H', I3, rv, q3⟩ := I2.after hq
      show wpAny _ _ (handedOut u) _ _ _
      rw [PySem.W.handedOut_of (handed_of rv)]
      exact wpAny_pure ⟨v, H', I3, rv, q3⟩
    | next => exact False.elim hq
    | brk => exact False.elim hq
    | cont => exact False.elim hq
/-! ### a, b = x, y -/
theorem sv_par2 (i j : Nat) {x y : Str} {px py pt : Pos} {kt k2 pt2} (hc : X.calm = true) (hN : X.N.Nodup) (q : AV X [a, b] σ H fun vs H1 => ∃ v w, vs = [v, w] ∧ D.nx ((σ.set i (some v)).set j (some w)) H1)
    (hi : X.N[i]? = some x := by rfl) (hj : X.N[j]? = some y := by rfl) (hij : i ≠ j := by decide) (hx : X.env.scope.names.lookup x = some .local := by rfl) (hy : X.env.scope.names.lookup y = some .local := by rfl)
    (hw : swappedStores [.Tuple [.Name x px, .Name y py] kt pt] (.Tuple [a, b] k2 pt2) X.env = pure (some [x, y]) := by rfl)
    (hs : swapsWithSole [.Tuple [.Name x px, .Name y py] kt pt] (.Tuple [a, b] k2 pt2) pos.line X.env = pure false := by rfl) : SV X (.Assign [.Tuple [.Name x px, .Name y py] kt pt] (.Tuple [a, b] k2 pt2) pos) σ H D :=
  SV.of (ps_par hc hN hi hj hij hx hy pa_av hw hs) q
theorem sv_par3 (i j l : Nat) {x y z : Str} {px py pz pt : Pos} {kt k2 pt2} (hc : X.calm = true) (hN : X.N.Nodup) (q : AV X [a, b, c] σ H fun vs H1 => ∃ u v w, vs = [u, v, w] ∧ D.nx (((σ.set i (some u)).set j (some v)).set l (some w)) H1)
    (hi : X.N[i]? = some x := by rfl) (hj : X.N[j]? = some y := by rfl) (hl : X.N[l]? = some z := by rfl) (hij : i ≠ j := by decide) (hil : i ≠ l := by decide) (hjl : j ≠ l := by decide)
    (hx : X.env.scope.names.lookup x = some .local := by rfl) (hy : X.env.scope.names.lookup y = some .local := by rfl) (hz : X.env.scope.names.lookup z = some .local := by rfl)
    (hw : swappedStores [.Tuple [.Name x px, .Name y py, .Name z pz] kt pt] (.Tuple [a, b, c] k2 pt2) X.env = pure (some [x, y, z]) := by rfl)
    (hs : swapsWithSole [.Tuple [.Name x px, .Name y py, .Name z pz] kt pt] (.Tuple [a, b, c] k2 pt2) pos.line X.env = pure false := by rfl) :
    SV X (.Assign [.Tuple [.Name x px, .Name y py, .Name z pz] kt pt] (.Tuple [a, b, c] k2 pt2) pos) σ H D := SV.of (ps_par3 hc hN hi hj hl hij hil hjl hx hy hz pa_av hw hs) q
/-- an Option Int in a slot, tested -/
theorem brO {o : Option Int} (h1 : o = none → Qt H) (h2 : ∀ n, o = some n → Qf H) : br Qt Qf (decide (vN o = V.non)) H := by
  cases o with
  | none => exact h1 rfl
  | some n => exact h2 n rfl
theorem brO' {o : Option Int} (h1 : o = none → Qf H) (h2 : ∀ n, o = some n → Qt H) : br Qt Qf (!decide (vN o = V.non)) H := by
  cases o with
  | none => exact h1 rfl
  | some n => exact h2 n rfl

/-! ### loops -/
theorem sv_while {body : List Stmt} (Pv : L2.St → Hp → Prop) (μ : L2.St → Hp → Nat) (h0 : Pv σ H) (hp : PassesOwn (model X.prog X.w) X.A X.env X.xe)
    (hs : ∀ σ' H', Pv σ' H' → TV X c σ' H' (fun H1 => LV X body σ' H1 { D with nx := fun σ2 H2 => Pv σ2 H2 ∧ μ σ2 H2 < μ σ' H', ct := fun σ2 H2 => Pv σ2 H2 ∧ μ σ2 H2 < μ σ' H', bk := D.nx }) (fun H1 => D.nx σ' H1)) : SV X (.While c body [] pos) σ H D := by
  refine SV.of (ps_while hp pt_bv pss_lv) (while_by Pv μ h0 (fun σ' H' h => ?_) fun σ H Q Q' k h => BV.mono h k)
  refine BV.mono (hs σ' H' h) fun b H1 q => ?_
  cases b with
  | true => exact iteT q
  | false => exact iteF q
/-- for x in l, l a list that the body leaves -/
theorem sv_forL {tg iter : Expr} {body : List Stmt} (hc : X.calm = true) (hp : PassesOwn (model X.prog X.w) X.A X.env X.xe)
    (q : EV X iter σ H fun x H1 => ∃ a xs, x = .ref a ∧ SqL X.K H1 a xs ∧ ∃ Pv : Nat → L2.St → Hp → Prop, Pv 0 σ H1 ∧ (∀ i σ' H', i ≤ xs.length → Pv i σ' H' → SqL X.K H' a xs) ∧
      (∀ i x σ' H', xs[i]? = some x → Pv i σ' H' → GV X tg x σ' H' fun σ2 H2 => LV X body σ2 H2 { D with nx := Pv (i + 1), ct := Pv (i + 1), bk := D.nx }) ∧ ∀ σ' H', Pv xs.length σ' H' → D.nx σ' H')
    (hs : ∀ x, foldedSetIterable iter X.env x = pure x := by intro _; rfl) : SV X (.For tg iter body [] pos) σ H D := by
  refine SV.of (ps_for hp hc (pi_list pe_ev) pg_gv pss_lv hs) (EV.mono q fun x H1 ⟨a, xs, ex, hl, Pv, h0, hk, ht, hd⟩ => ?_)
  exact ⟨a, ex, ⟨xs, hl⟩, for_list (K := X.K) (a := a) (xs := xs) (g := GV X tg) (tb := fun D σ H => LV X body σ H D) (D := D) Pv h0 hk ht hd⟩
theorem sv_forT {tg iter : Expr} {body : List Stmt} (hc : X.calm = true) (hp : PassesOwn (model X.prog X.w) X.A X.env X.xe)
    (q : EV X iter σ H fun x H1 => ∃ a xs, x = .ref a ∧ SqT X.K H1 a xs ∧ ∃ Pv : Nat → L2.St → Hp → Prop, Pv 0 σ H1 ∧ (∀ i σ' H', i ≤ xs.length → Pv i σ' H' → SqT X.K H' a xs) ∧
      (∀ i x σ' H', xs[i]? = some x → Pv i σ' H' → GV X tg x σ' H' fun σ2 H2 => LV X body σ2 H2 { D with nx := Pv (i + 1), ct := Pv (i + 1), bk := D.nx }) ∧ ∀ σ' H', Pv xs.length σ' H' → D.nx σ' H')
    (hs : ∀ x, foldedSetIterable iter X.env x = pure x := by intro _; rfl) : SV X (.For tg iter body [] pos) σ H D := by
  refine SV.of (ps_for hp hc (pi_tup pe_ev) pg_gv pss_lv hs) (EV.mono q fun x H1 ⟨a, xs, ex, hl, Pv, h0, hk, ht, hd⟩ => ?_)
  exact ⟨a, ex, ⟨xs, hl⟩, for_tup (K := X.K) (a := a) (xs := xs) (g := GV X tg) (tb := fun D σ H => LV X body σ H D) (D := D) Pv h0 hk ht hd⟩
/-- for x in range(n) -/
theorem sv_forR1 {tg n : Expr} {body : List Stmt} {p p2 : Pos} (hc : X.calm = true) (hp : PassesOwn (model X.prog X.w) X.A X.env X.xe) (hm : X.mg "range" = none)
    (q : EV X n σ H fun x H1 => ∃ m : Int, x = .int m ∧ -(2 ^ 62) ≤ m ∧ m < 2 ^ 62 ∧ ∃ Pv : Nat → L2.St → Hp → Prop, Pv 0 σ H1 ∧
      (∀ (i : Nat) σ' H', i < m.toNat → Pv i σ' H' → GV X tg (.int i) σ' H' fun σ2 H2 => LV X body σ2 H2 { D with nx := Pv (i + 1), ct := Pv (i + 1), bk := D.nx }) ∧ ∀ σ' H', Pv m.toNat σ' H' → D.nx σ' H')
    (hg : Gl X "range" := by rfl) (h1 : starEach [n] X.env = (false, eval n X.env) :: starEach [] X.env := by rfl) (hst : starEach [n] X.env = [(false, eval n X.env)] := by rfl)
    (hs : ∀ x, foldedSetIterable (.Call (.Name "range" p) [n] [] p2) X.env x = pure x := by intro _; rfl) : SV X (.For tg (.Call (.Name "range" p) [n] [] p2) body [] pos) σ H D := by
  refine SV.of (ps_for hp hc (pi_range1 hg hm (pa_cons pe_ev pa_nil h1) hst) pg_gv pss_lv hs) ?_
  refine EV.mono q fun x H1 ⟨m, ex, h1, h2, Pv, h0, ht, hd⟩ => ⟨m, by rw [ex], h1, h2, for_range (lo := 0) (n := m.toNat) (g := GV X tg) (tb := fun D σ H => LV X body σ H D) (D := D) Pv h0 (fun i σ' H' hi hv => ?_) hd⟩
  rw [Int.zero_add]
  exact ht i σ' H' hi hv
theorem sv_forR2 {tg n1 n2 : Expr} {body : List Stmt} {p p2 : Pos} (hc : X.calm = true) (hp : PassesOwn (model X.prog X.w) X.A X.env X.xe) (hm : X.mg "range" = none)
    (q : EV X n1 σ H fun x H1 => EV X n2 σ H1 fun y H2 => ∃ l m : Int, x = .int l ∧ y = .int m ∧ (-(2 ^ 62) ≤ l ∧ l < 2 ^ 62 ∧ -(2 ^ 62) ≤ m ∧ m < 2 ^ 62) ∧ ∃ Pv : Nat → L2.St → Hp → Prop, Pv 0 σ H2 ∧
      (∀ (i : Nat) σ' H', i < (m - l).toNat → Pv i σ' H' → GV X tg (.int (l + i)) σ' H' fun σ2 H2 => LV X body σ2 H2 { D with nx := Pv (i + 1), ct := Pv (i + 1), bk := D.nx }) ∧ ∀ σ' H', Pv (m - l).toNat σ' H' → D.nx σ' H')
    (hg : Gl X "range" := by rfl) (hst : starEach [n1, n2] X.env = [(false, eval n1 X.env), (false, eval n2 X.env)] := by rfl) (hst2 : starEach [n2] X.env = [(false, eval n2 X.env)] := by rfl)
    (h1 : starEach [n1, n2] X.env = (false, eval n1 X.env) :: starEach [n2] X.env := by rfl) (h2 : starEach [n2] X.env = (false, eval n2 X.env) :: starEach [] X.env := by rfl)
    (hs : ∀ x, foldedSetIterable (.Call (.Name "range" p) [n1, n2] [] p2) X.env x = pure x := by intro _; rfl) : SV X (.For tg (.Call (.Name "range" p) [n1, n2] [] p2) body [] pos) σ H D := by
  refine SV.of (ps_for hp hc (pi_range2 hg hm (pa_cons pe_ev (pa_cons pe_ev pa_nil h2) h1) hst hst2) pg_gv pss_lv hs) ?_
  refine EV.mono q fun x H1 q1 => EV.mono q1 fun y H2 ⟨l, m, ex, ey, hb, Pv, h0, ht, hd⟩ => ⟨l, m, by rw [ex, ey], hb, for_range (lo := l) (n := (m - l).toNat) (g := GV X tg) (tb := fun D σ H => LV X body σ H D) (D := D) Pv h0 (fun i σ' H' hi hv => ht i σ' H' hi hv) hd⟩
end
end Oil
set_option Elab.async false
set_option linter.all false
set_option maxRecDepth 100000
set_option maxHeartbeats 2000000
namespace Oil
open PySem PySem.Spec PyProof.Rows L2
section
variable {X : Cx} {e g : Expr} {σ : L2.St} {H : Hp} {D : Ends} {x y : Str} {pa pb ps pw pos : Pos} {b1 b2 : List Stmt} {v : V}
/-- the last case: _ -/
theorem match_rest {u : Value} {pins : Pins} {s : Shared} {fl : Bool} (I : Inv X pins σ H s) (q : LV X b2 σ H D) :
    wpAny (model X.prog X.w) X.A (matchCases [⟨.MatchAs none none pw, none, b2⟩] X.env u fl) (SP X pins D) X.xe s :=
  wpAny_matchCases_cons (wpAny_matchPattern_Capture (wpAny_assignInOrder_none (q pins s I)))
/-- what stands in a value that is matched with [x, y] -/
inductive Seq2 (K : PySem.W.Frag) (H : Hp) : V → Option (V × V) → Prop where
  | tup {p : Addr} {a b : V} (h : SqT K H p [a, b]) : Seq2 K H (.ref p) (some (a, b))
  | ntup {p : Addr} {xs : List V} (h : SqT K H p xs) (n : xs.length ≠ 2) : Seq2 K H (.ref p) none
  | nlst {p : Addr} {xs : List V} (h : SqL K H p xs) (n : xs.length ≠ 2) : Seq2 K H (.ref p) none
  | non : Seq2 K H .non none
  | bl (b : Bool) : Seq2 K H (.bl b) none
  | int (i : Int) : Seq2 K H (.int i) none
  | str (z : Str) : Seq2 K H (.str z) none
theorem sv_match2 (i j : Nat) (hc : X.calm = true) (hN : X.N.Nodup)
    (q : EV X e σ H fun u H1 => ∃ o, Seq2 X.K H1 u o ∧ match o with
      | some (a, b) => TV X g ((σ.set i (some a)).set j (some b)) H1 (fun H2 => LV X b1 ((σ.set i (some a)).set j (some b)) H2 D) (fun H2 => LV X b2 ((σ.set i (some a)).set j (some b)) H2 D)
      | none => LV X b2 σ H1 D)
    (hi : X.N[i]? = some x := by rfl) (hj : X.N[j]? = some y := by rfl) (hx : X.env.scope.names.lookup x = some .local := by rfl) (hy : X.env.scope.names.lookup y = some .local := by rfl) :
    SV X (.Match e [⟨.MatchSequence [.MatchAs none (some x) pa, .MatchAs none (some y) pb] ps, some g, b1⟩, ⟨.MatchAs none none pw, none, b2⟩] pos) σ H D := by
  intro pins s I
  refine wpAny_Match (thn (q pins s I) fun u s1 ⟨v, H1, I1, rv, o, sq, h⟩ => ?_)
  -- the two are stored, the guard is asked
  have two : ∀ {a b : V} {ua ub : Value} {s2 : Shared}, Inv X pins σ H1 s2 → RelV a ua → RelV b ub →
      TV X g ((σ.set i (some a)).set j (some b)) H1 (fun H2 => LV X b1 ((σ.set i (some a)).set j (some b)) H2 D) (fun H2 => LV X b2 ((σ.set i (some a)).set j (some b)) H2 D) →
      wpAny (model X.prog X.w) X.A (assignInOrder [fun v => bindName X.env x v, fun v => bindName X.env y v] [ua, ub]) (fun _ s₂ => wpAny (model X.prog X.w) X.A (isTrue g X.env (eval g X.env))
        (fun ok s₃ => if ok = true then wpAny (model X.prog X.w) X.A (execs b1 X.env) (SP X pins D) X.xe s₃ else wpAny (model X.prog X.w) X.A (matchCases [⟨.MatchAs none none pw, none, b2⟩] X.env u false) (SP X pins D) X.xe s₃) X.xe s₂) X.xe s2 := fun {a b ua ub s2} I2 ra rb ht => by
    refine assignInOrder_cons (wpAny_bindName (store_ok I2 hN hi (.inl hx) ra (fun s3 I3 => ?_) (.inr hx)))
    refine assignInOrder_cons (wpAny_bindName (store_ok I3 hN hj (.inl hy) rb (fun s4 I4 => assignInOrder_nil ?_) (.inr hy)))
    refine thn (ht pins s4 I4) fun ok s5 ⟨H5, I5, q5⟩ => ?_
    cases ok with
    | true =>
      rw [if_pos rfl]
      exact q5 pins s5 I5
    | false =>
      rw [if_neg Bool.false_ne_true]
      exact match_rest I5 q5
  have each : ∀ {ua ub : Value} {s2 : Shared} {Q : Option (List (Str × Value)) → Shared → Prop}, Q (some [(x, ua), (y, ub)]) s2 → wpAny (model X.prog X.w) X.A (matchEach [.MatchAs none (some x) pa, .MatchAs none (some y) pb] X.env [ua, ub]) Q X.xe s2 := fun {ua ub s2 Q} hq =>
    wpAny_matchEach_cons (wpAny_matchPattern_Capture (wpAny_matchEach_cons (wpAny_matchPattern_Capture (wpAny_matchEach_nil hq))))
  have sz : ∀ {p : Addr} {xs : List V}, SqT X.K H1 p xs → ∃ its : List Value, Vals xs its ∧ IsTup s1.heap p its.toArray ∧ (its.toArray.size : Int) < 2 ^ 63 ∧ its.toArray.size = xs.length := fun {p xs} ht => by
    obtain ⟨its, r, pl, hz⟩ := I1.tuple ht
    have l := r.length
    have n := line63
    refine ⟨its, r, pl, ?_, ?_⟩ <;> rw [List.size_toArray] <;> omega
  have flat : ∀ {T : String}, typeOf u = pure (.type T) → flagOfType true (.type T) = pure false → LV X b2 σ H1 D →
      wpAny (model X.prog X.w) X.A (matchCases [⟨.MatchSequence [.MatchAs none (some x) pa, .MatchAs none (some y) pb] ps, some g, b1⟩, ⟨.MatchAs none none pw, none, b2⟩] X.env u true) (SP X pins D) X.xe s1 := fun {T} hT hf hq => by
    refine wpAny_matchCases_cons (wpAny_matchPattern_Sequence ?_)
    rw [collectionFlag_split, hT]
    refine wpAny_bind (wpAny_pure ?_)
    rw [hf]
    refine wpAny_pure ?_
    rw [if_neg Bool.false_ne_true]
    exact match_rest I1 hq
  cases sq with
  | @tup p a b ht =>
    cases (show u = Value.ref p from rv)
    obtain ⟨its, r, pl, hfit, hn⟩ := sz ht
    refine wpAny_matchCases_cons (matchSeq_tuple_hit pl hfit (by rw [hn]; rfl) ?_)
    have e2 : ([Pattern.MatchAs none (some x) pa, Pattern.MatchAs none (some y) pb] : List Pattern).length = its.toArray.size := by rw [hn]; rfl
    rw [e2]
    refine unpackItems_tuple (s := { s1 with toks := s1.toks + 1 + 1 }) (I1.ok.hd hc) pl fun h' hx' => ?_
    have I2 : Inv X pins σ H1 { s1 with heap := h', toks := s1.toks + 1 + 1 } := I1.kept fun b o e => hx' b o (Nat.ne_of_lt (Heap.lt_size e)) e
    cases r with
    | cons ra r =>
      cases r with
      | cons rb r =>
        cases r
        exact each (two I2 ra rb h)
  | @ntup p xs ht hn =>
    cases (show u = Value.ref p from rv)
    obtain ⟨its, r, pl, hfit, hz⟩ := sz ht
    exact wpAny_matchCases_cons (matchSeq_tuple_miss pl hfit (by rw [hz]; exact hn) (match_rest (I1.tok _) h))
  | @nlst p xs ht hn =>
    cases (show u = Value.ref p from rv)
    obtain ⟨its, r, pl, hz⟩ := I1.list ht
    have l := r.length
    have n := line63
    refine wpAny_matchCases_cons (matchSeq_list_miss pl.isList (by rw [List.size_toArray]; omega) (by rw [List.size_toArray, ← l]; exact hn) (match_rest (I1.tok _) h))
  | non =>
    cases (show u = Value.none from rv)
    exact flat rfl flag_seq_None h
  | bl b =>
    cases (show u = Value.bool b from rv)
    exact flat rfl flag_seq_bool h
  | int i =>
    obtain ⟨t, rfl⟩ := rv
    exact flat rfl flag_seq_int h
  | str z =>
    obtain ⟨t, rfl⟩ := rv
    exact flat rfl flag_seq_str h
end
end Oil
set_option Elab.async false
set_option linter.all false
set_option maxRecDepth 100000
set_option maxHeartbeats 2000000
namespace Oil
open PySem PySem.Spec PyProof.Rows L2
open AutoSeq1 (wpAny_loadPart')
set_option maxHeartbeats 4000000 in
theorem meets_enumB1 {v : Value} {o : Obj} {H : Heap → Prop} (B : Begins v o H) :
    Meets (Builtin.«enumerate.__new__» ⟨[.type "enumerate", v], []⟩) (fun _ R s => H s.heap ∧
      R (.ok (.ret (.ref (s.heap.push o).objs.size))) { s with heap := (s.heap.push o).push { cls := .type "enumerate", data := .fields #[.none, .bool false, .ref s.heap.objs.size, rawInt 0, .none, .none] } }) :=
  .of_wp fun prog w A R s h => by
    obtain ⟨hp, g, d, tk, os⟩ := s; obtain ⟨h1, h⟩ := h
    have hsub := sub_enumerate
    have q1 : ∀ {A' : Around} {E : Value → Shared → Prop} {Q : Value → Shared → Prop}, Q (.ref hp.objs.size) ⟨hp.push o, g, d, tk, os⟩ → wpAny (model prog w) A' (pyIter v) Q E ⟨hp, g, d, tk, os⟩ :=
      fun q => B.iter prog w _ _ ⟨hp, g, d, tk, os⟩ _ h1 q
    wp_walk using q1
    refine wpAny_stack_any fun st => wpAny_pure ?_
    split
    · rename_i c _ _ _ _ _
      cases (c == Value.type "enumerate")
      · wp_walk using q1
        exact ⟨_, rfl, h⟩
      · wp_walk using q1
        exact ⟨_, rfl, h⟩
    · wp_walk using q1
      exact ⟨_, rfl, h⟩
theorem call_enumerate_tuple {prog : Program} {w : World} {A : Around} {E : Value → Shared → Prop} {s : Shared} {t : Addr} {items : Array Value} {Q : Value → Shared → Prop} (hT : s.heap.IsTuple t items)
    (h : ∀ h', IsEnum h' (s.heap.objs.size + 1) s.heap.objs.size 0 .none → h'.IsTupleIter s.heap.objs.size t 0 → h'.objs.size = s.heap.objs.size + 2 →
      (∀ b o, s.heap.get? b = some o → h'.get? b = some o) → Q (.ref (s.heap.objs.size + 1)) { s with heap := h' }) :
    wpAny (model prog w) A (call (.type "enumerate") [.ref t]) Q E s := by
  refine callType_new F.called_enumerate (by decide) (F.typeCall_enumerate_1 _) (F.newCall_enumerate_1 _) (fun obj => F.args_object_init_2 obj _) F.entry_enumerate_new
    (meets_enumB1 (begins_tuple t items)) ⟨hT, ?_⟩
  have hz : (s.heap.push { cls := .type "tuple_iterator", data := .fields #[.ref t, .int 0 0] }).objs.size = s.heap.objs.size + 1 := Heap.size_push ..
  show _ ∧ _
  rw [hz]
  have he : IsEnum ((s.heap.push { cls := .type "tuple_iterator", data := .fields #[.ref t, .int 0 0] }).push
      { cls := .type "enumerate", data := .fields #[.none, .bool false, .ref s.heap.objs.size, rawInt 0, .none, .none] }) (s.heap.objs.size + 1) s.heap.objs.size 0 .none := by
    have := Heap.get?_push_size (s.heap.push { cls := .type "tuple_iterator", data := .fields #[.ref t, .int 0 0] })
      (o := { cls := .type "enumerate", data := .fields #[.none, .bool false, .ref s.heap.objs.size, rawInt 0, .none, .none] }) rfl
    rw [hz] at this; exact this
  refine ⟨⟨_, he, rfl⟩, h _ he ⟨_, Heap.get?_push_of_some _ (Heap.get?_push_size _ rfl), rfl, rfl⟩ (by rw [Heap.size_push, hz]) fun b o y => Heap.get?_push_of_some _ (Heap.get?_push_of_some _ y)⟩

/-- the tuple at a, each item in a new pair -/
def IteT (K : PySem.W.Frag) (a : Addr) : It :=
  ⟨fun i H => ∃ (xs : List V) (x : V), SqT K H a xs ∧ xs[i]? = some x, fun i H v H' => ∃ T x, v = .ref T ∧ H T = none ∧ H' = upd H T (.tup [.int (i : Nat), x]) ∧ ∀ xs, SqT K H a xs → xs[i]? = some x, fun i H => ∃ xs : List V, SqT K H a xs ∧ xs.length = i⟩
theorem turn_enumT {P : Program} {w : World} {K : PySem.W.Frag} {elts : List Expr} {kk : Nat} {tpos : Pos} (a e it : Addr) :
    Turn P w K (.Tuple elts kk tpos) (IteT K a) [e, it] e (fun i h => (∃ old, IsEnum h e it ((i : Nat) : Int) old) ∧ h.IsTupleIter it a i ∧ e ≠ it) where
  mem := by simp
  obj := fun i h st b hb => by
    obtain ⟨⟨old, he⟩, ⟨o, ho, hc, hd⟩, _⟩ := st
    have e' : b = e ∨ b = it := by simpa using hb
    rcases e' with z | z
    · rw [z]; exact ⟨_, he, fun v q => nomatch q⟩
    · rw [z]; exact ⟨o, ho, fun v q => by rw [hd] at q; cases q⟩
  keep := fun i h h' st k => let ⟨⟨old, he⟩, hi, hne⟩ := st; ⟨⟨old, k e (by simp) _ he⟩, hi.at fun o q => k it (by simp) o q, hne⟩
  item := by
    intro X hP hw hK hc i pins s σ H E I hf st hg
    subst hP hw hK
    obtain ⟨⟨old, he⟩, hit, hne⟩ := st
    obtain ⟨xs, x, hq, hx⟩ := hg
    obtain ⟨its, rv, p, hz⟩ := I.tuple hq
    obtain ⟨u, hu, ru⟩ := rv.get hx
    have hel : e < s.heap.objs.size := Heap.lt_size he
    have hil : it < s.heap.objs.size := by obtain ⟨_, q, _⟩ := hit; exact Heap.lt_size q
    have hta : a ≠ it := by
      rintro rfl
      obtain ⟨o, ho, hc', _⟩ := hit
      obtain ⟨o', ho', hc2, _⟩ := p
      rw [ho] at ho'
      cases ho'
      rw [hc'] at hc2
      exact absurd hc2 (by simp)
    have hea : e ≠ a := by
      rintro rfl
      obtain ⟨o', ho', hc2, _⟩ := p
      have z := he.symm.trans ho'
      cases z
      exact absurd hc2 (by simp)
    have hlt : i < its.toArray.size := by
      have := (List.getElem?_eq_some_iff.mp hu).1
      simpa using this
    refine wpAny_pyNext_enum_itemD (Draws.tuple (prog := X.prog) (w := X.w) (A := X.A.in1) (I.ok.hd hc) it a hta its.toArray) he ⟨hit, show s.heap.IsTuple a its.toArray from p⟩ hlt hne (by simp [hne, hea]) fun x' h' tk hx' ho hit' hT hsz hk => ?_
    have exu : x' = u := by
      have q : its[i]? = some x' := by simpa using hx'
      rw [hu] at q
      exact (Option.some.inj q).symm
    subst exu
    refine ⟨_, rfl, wpAny_letOwnedTupleGo_enum (s := { s with heap := h', toks := tk + 1 }) ho fun h'' he' sb => ?_⟩
    have hT2 : h''.get? s.heap.objs.size = some { cls := .type "tuple", data := .seq #[.int i tk, x'] } := (sb.2 _ (Nat.ne_of_gt hel)).trans hT
    have new : ObjOk X.prog X.w (upd H s.heap.objs.size (.tup [.int (i : Nat), x])) h'' s.heap.objs.size (.tup [.int (i : Nat), x]) :=
      ⟨by show 2 ≤ sizeLine; decide, [.int i tk, x'], .cons ⟨_, rfl⟩ (.cons ru .nil), ⟨_, hT2, rfl, _, rfl⟩⟩
    have I1 : Inv X pins σ (upd H s.heap.objs.size (.tup [.int (i : Nat), x])) { s with heap := h'', toks := tk + 1 } :=
      I.turnedNew (ch := [e, it]) (fun b ob hb q => (sb.2 b (fun z => hb (by simp [z]))).trans (hk b ob (fun z => hb (by simp [z])) (fun z => hb (by simp [z])) q)) hf (Nat.le_refl _) new
    refine ⟨.ref s.heap.objs.size, _, I1, rfl, ⟨_, x, rfl, I.hok.fresh (Nat.le_refl _), rfl, fun ys hy => by rw [I.tuple_inj hy hq]; exact hx⟩, ⟨⟨x', ?_⟩, hit'.1.at fun o q => (sb.2 it (Ne.symm hne)).trans q, hne⟩, fun b hb => ?_⟩
    · have e1 : ((i + 1 : Nat) : Int) = (i : Int) + 1 := by omega
      rw [e1]; exact he'
    · have hb' : b < s.heap.objs.size := by
        have e' : b = e ∨ b = it := by simpa using hb
        rcases e' with z | z
        · rw [z]; exact hel
        · rw [z]; exact hil
      rw [upd_ne (Nat.ne_of_lt hb')]
      exact (hf b hb).1
  done := by
    intro X hP hw hK hc i pins s σ H E I hf st hg
    subst hP hw hK
    obtain ⟨⟨old, he⟩, hit, hne⟩ := st
    obtain ⟨xs, hq, hx⟩ := hg
    obtain ⟨its, rv, p, hz⟩ := I.tuple hq
    obtain ⟨f0, f1, f2, f3, f4, f5⟩ := hf it (by simp)
    have hl := rv.length
    have hta : a ≠ it := by
      rintro rfl
      obtain ⟨o, ho, hc', _⟩ := hit
      obtain ⟨o', ho', hc2, _⟩ := p
      rw [ho] at ho'
      cases ho'
      rw [hc'] at hc2
      exact absurd hc2 (by simp)
    have en : i = its.toArray.size := by simp; omega
    subst en
    exact wpAny_pyNext_enum_endD (Draws.tuple (prog := X.prog) (w := X.w) (A := X.A.in1) (I.ok.hd hc) it a hta its.toArray) he ⟨hit, show s.heap.IsTuple a its.toArray from p⟩ fun h' eb => ⟨rfl, I.turned (t' := s.toks) (fun b o hb q => eb b o hb q) f0 f1 f3 f4 f5⟩
  self := fun A i s Q E st h => let ⟨⟨_, he⟩, _⟩ := st; wpAny_pyIter_enum he h
def iEnumT (K : PySem.W.Frag) (ta : TA) : TI := fun σ H R => ta σ H fun vs H1 => ∃ a xs, vs = [.ref a] ∧ SqT K H1 a xs ∧ R (IteT K a) H1
theorem pi_enumT {X : Cx} {e : Expr} {ta : TA} {p pos tpos : Pos} {elts : List Expr} {kk : Nat} (hg : Gl X "enumerate") (hm : X.mg "enumerate" = none) (ha : PA X [e] ta) (hs : starEach [e] X.env = [(false, eval e X.env)] := by rfl) :
    PI X (.Tuple elts kk tpos) (.Call (.Name "enumerate" p) [e] [] pos) (iEnumT X.K ta) := by
  refine ⟨fun pins s σ H R I h => ?_⟩
  refine Call_ (ld_blt I hg hm boot_enumerate (PyProof.Rows.callWith_type1 (thn (ha.run pos pins s σ H _ I h) fun us s1 ⟨vs, H1, I1, r1, q1⟩ => ?_) hs rfl))
  obtain ⟨a, xs, ex, hq, q⟩ := q1
  subst ex
  cases r1 with
  | cons r rr =>
    cases rr
    cases r
    obtain ⟨its, rv, p', hz⟩ := I1.tuple hq
    refine call_enumerate_tuple (show s1.heap.IsTuple a its.toArray from p') fun h' he hit hsz hk => wpAny_pyIter_enum he ?_
    have I2 : Inv X pins σ H1 { s1 with heap := h' } := I1.kept (t' := s1.toks) hk
    refine ⟨s1.heap.objs.size + 1, [s1.heap.objs.size + 1, s1.heap.objs.size], _, _, H1, rfl, I2, turn_enumT a (s1.heap.objs.size + 1) s1.heap.objs.size, ⟨⟨.none, he⟩, hit, Nat.succ_ne_self _⟩, fun b hb => ?_, q⟩
    have e' : b = s1.heap.objs.size + 1 ∨ b = s1.heap.objs.size := by simpa using hb
    have hle : s1.heap.objs.size ≤ b := by
      rcases e' with z | z
      · rw [z]; exact Nat.le_add_right _ _
      · rw [z]; exact Nat.le_refl _
    exact I1.fpOk hle (I1.hok.fresh hle)
section
variable {X : Cx} {σ : L2.St} {H : Hp} {D : Ends} {pos : Pos}
/-- for i, x in enumerate(t), t a tuple -/
theorem sv_forEnumT {elts : List Expr} {kk : Nat} {tpos p p2 : Pos} {e : Expr} {body : List Stmt} (hc : X.calm = true) (hp : PassesOwn (model X.prog X.w) X.A X.env X.xe) (hm : X.mg "enumerate" = none)
    (q : EV X e σ H fun x H1 => ∃ a xs, x = .ref a ∧ SqT X.K H1 a xs ∧ ∃ Pv : Nat → L2.St → Hp → Prop, Pv 0 σ H1 ∧ (∀ i σ' H', i ≤ xs.length → Pv i σ' H' → SqT X.K H' a xs) ∧
      (∀ (i : Nat) x σ' H' T H'', xs[i]? = some x → Pv i σ' H' → Same H' H'' → H'' T = some (.tup [.int i, x]) → GV X (.Tuple elts kk tpos) (.ref T) σ' H'' fun σ2 H2 => LV X body σ2 H2 { D with nx := Pv (i + 1), ct := Pv (i + 1), bk := D.nx }) ∧ ∀ σ' H', Pv xs.length σ' H' → D.nx σ' H')
    (hg : Gl X "enumerate" := by rfl) (h1 : starEach [e] X.env = (false, eval e X.env) :: starEach [] X.env := by rfl) (hst : starEach [e] X.env = [(false, eval e X.env)] := by rfl)
    (hs : ∀ x, foldedSetIterable (.Call (.Name "enumerate" p) [e] [] p2) X.env x = pure x := by intro _; rfl) : SV X (.For (.Tuple elts kk tpos) (.Call (.Name "enumerate" p) [e] [] p2) body [] pos) σ H D := by
  refine SV.of (ps_for hp hc (pi_enumT hg hm (pa_cons pe_ev pa_nil h1) hst) pg_gv pss_lv hs) ?_
  refine EV.mono q fun x H1 ⟨a, xs, ex, hl, Pv, h0, hk, ht, hd⟩ => ⟨a, xs, by rw [ex], hl, ?_⟩
  refine ⟨fun i m σ H => m = xs.length - i ∧ i ≤ xs.length ∧ Pv i σ H, ⟨xs.length, by simp, Nat.zero_le _, h0⟩, ?_⟩
  rintro i m σ H ⟨rfl, hi, pv⟩
  have q := hk i σ H hi pv
  by_cases hlt : i < xs.length
  · refine .inr ⟨⟨xs, xs[i], q, by simp [hlt]⟩, Pv (i + 1), fun σ' H' p' => ⟨xs.length - (i + 1), by omega, rfl, hlt, p'⟩, ?_⟩
    rintro v H' ⟨T, x, rfl, hT, rfl, hx⟩
    exact ht i x σ H T _ (hx xs q) pv (same_upd hT) upd_same
  · have e : i = xs.length := by omega
    subst e
    exact .inl ⟨⟨xs, q, rfl⟩, hd σ H pv⟩
end
end Oil
set_option Elab.async false
set_option linter.all false
set_option maxRecDepth 100000
set_option maxHeartbeats 2000000
namespace Oil
open PySem PySem.Spec PyProof.Rows L2
open AutoSeq1 (wpAny_loadPart')

section
variable {H H' : Hp} {v : V} {p : Int × Int} {ps : List (Int × Int)} {vs : List V} {t : Addr} {K : PySem.W.Frag} {w : Wy} {s : St3}
theorem IsPr.upS (h : IsPr H v p) (k : Same H H') : IsPr H' v p := by
  obtain ⟨a, e, ha⟩ := h
  exact ⟨a, e, k _ _ ha⟩
theorem AreP.upS (h : AreP H vs ps) (k : Same H H') : AreP H' vs ps := Paired.mapP h fun _ _ q => q.upS k
theorem IsPs.upS (h : IsPs H t ps) (k : Same H H') : IsPs H' t ps := by
  obtain ⟨vs, e, ha⟩ := h
  exact ⟨vs, k _ _ e, AreP.upS ha k⟩
theorem IsWy.upS (h : IsWy K H v w) (k : Same H H') : IsWy K H' v w := h.up (Same.kp k)
theorem IsSt.upS (h : IsSt K H v s) (k : Same H H') : IsSt K H' v s := h.up (Same.kp k)
end
/-! ### a def with a star parameter -/
theorem fnrS {P : Program} {w : World} {K : PySem.W.Frag} {mg : Str → Option Value} {base : Heap} {x qual pv : Str} {st : Stmt} {f : Addr} {N ps : List Str} {k : Nat} {sp : Sp}
    (F : ∃ fd, FunD K x qual (defArgs st) (defBody st) (defScope st) [] [] f fd) (S : FnScope N (ps ++ [pv]) (defScope st))
    (hb : ∀ (kV doc pm : Value) (an : Option Addr) (cdv ct : Value) (us rest : List Value), us.length = ps.length → bindArgs (PySem.W.fnOf x qual (defArgs st) (defBody st) (defScope st) .none kV doc pm an cdv ct) ⟨us ++ rest, []⟩ = (newTuple rest >>= fun t => pure (ps.zip us ++ [(pv, t)])))
    (hbody : ∀ (cdv : Value) (A : Around) (outer : List Env) (s : Shared) (H : Hp) (vs : List V) (Q : VK) (E : XK), Room k (A.deeper (envOfC qual (defScope st) s.heap.objs.size f cdv)) → sp vs H Q E →
      LV (cxOf (L2.CX P w) P w K mg base N qual (defScope st) f cdv A outer s H E) (defBody st) (start N vs) H { nx := fun _ H' => Q .non H', rt := Q }) :
    FnR P w K mg base (L2.CX P w) (k + 1) f (fun vs H Q E => ∃ ws rest, vs = ws ++ rest ∧ ws.length = ps.length ∧ rest.length ≤ sizeLine ∧ ∀ p, H p = Option.none → sp (ws ++ [V.ref p]) (upd H p (.tup rest)) Q E) := by
  obtain ⟨fd, FD⟩ := F
  have FF := He5.fun_of FD
  obtain ⟨oc, od, kV, doc, pm, an, cdv, ct, osl, e, lk, hcd⟩ := FF.ex
  subst e
  exact StX.fn_star lk hcd S StX.cxUp (hb kV doc pm an cdv ct) fun A outer s H vs Q E hr hsp => ⟨_, pss_lv, hbody cdv A outer s H vs Q E hr hsp⟩

/-! ### t * 1, t * n -/
theorem tuple_mul1 (l : Addr) (items : Array Value) (n : Nat) (dd : Option Addr) (sl : Array (Option Value)) (u : Tok) (c1 : (items.isEmpty || (1 : Int) == 1) = true) :
    Meets (Builtin.«tuple.__mul__» ⟨[.ref l, .int 1 u], []⟩) (fun _ R s => s.heap.get? l = some { cls := .type "tuple", dict := dd, data := .seq items n, slots := sl } ∧ R (.ok (.ret (Value.ref l))) s) :=
  .of_wp fun prog w A R s h => by
    obtain ⟨hp, g, d, tk, os⟩ := s
    obtain ⟨hl, h⟩ := h
    have f1 := AutoSeq1.idx_int
    wp_walk using wpAny_loadPart' hl
    repeat (first
      | (refine wpAny_ite_false (decide_eq_false (by decide)) ?_; wp_walk using wpAny_loadPart' hl)
      | (refine wpAny_ite_true (decide_eq_true (by rw [c1])) ?_; wp_walk using wpAny_loadPart' hl))
    exact ⟨_, rfl, h⟩
section
variable {X : Cx}
theorem op_rep1T : OpR X (binaryOp .Mult) (fun x y H Q => ∃ l xs, x = .ref l ∧ y = .int 1 ∧ SqT X.K H l xs ∧ Q (.ref l) H) := by
  intro pins s σ H x y v u Q I rx ry h
  obtain ⟨l, xs, rfl, rfl, hT, q⟩ := h
  cases rx
  obtain ⟨t, rfl⟩ := ry
  obtain ⟨its, r, ⟨⟨cls, dd, data, sl⟩, ho, hc, n, hd⟩, hs⟩ := I.tuple hT
  simp only at hc hd
  subst hc hd
  refine wpAny_binaryOp_repeat_ref (T := "tuple") (U := "int") (by decide) ⟨_, ho, rfl⟩ (fun s' => typeIs_int s' 1 t) noFill_tuple_mul F.fills_int_mul F.slot_int_rmul repeat_tuple F.slot_int_index.lookup
    (call_meets F.slot_int_rmul (typeIs_int s 1 t) F.entry_int_rmul (F.args_int_rmul_2 _ _) (int_rmul_tuple 1 t l its.toArray n dd sl)
      ⟨ho, rfl, ⟨_, ho, rfl⟩, call_meets F.slot_tuple_mul ⟨_, ho, rfl⟩ F.entry_tuple_mul (F.args_tuple_mul_2 _ _) (tuple_mul1 l its.toArray n dd sl t (by simp)) ⟨ho, ?_⟩⟩)
  exact ⟨.ref l, H, I, rfl, q⟩
/-- t * n, t not empty, n at least 1 -/
theorem op_repP : OpR X (binaryOp .Mult) (fun x y H Q => ∃ l xs k, x = .ref l ∧ y = .int k ∧ H l = some (.tup xs) ∧ xs ≠ [] ∧ xs.length ≤ 1000 ∧ 1 ≤ k ∧ k ≤ 1000 ∧ ∀ H' p, Same H H' → H' p = some (.tup (List.replicate k.toNat xs).flatten) → Q (.ref p) H') := by
  intro pins s σ H x y v u Q I rx ry h
  obtain ⟨l, xs, k, rfl, rfl, hT, hne, hz, h1, h2, q⟩ := h
  by_cases e : k = 1
  · subst e
    refine op_rep1T pins s σ H _ _ v u Q I rx ry ⟨l, xs, rfl, rfl, SqT.of hT, q _ _ (Same.refl _) ?_⟩
    rw [hT]
    simp
  · exact op_repT pins s σ H _ _ v u Q I rx ry ⟨l, k, xs, rfl, rfl, SqT.of hT, hne, by omega, h2, hz, fun p hp => q _ _ (same_upd hp) upd_same⟩
/-- t + u, tuples -/
theorem op_catP : OpR X (binaryOp .Add) (fun x y H Q => ∃ a b xs ys, x = .ref a ∧ y = .ref b ∧ H a = some (.tup xs) ∧ H b = some (.tup ys) ∧ xs.length + ys.length ≤ sizeLine ∧ ∀ H' p, Same H H' → H' p = some (.tup (xs ++ ys)) → Q (.ref p) H') := by
  intro pins s σ H x y v u Q I rx ry h
  obtain ⟨a, b, xs, ys, rfl, rfl, ha, hb, hz, q⟩ := h
  refine op_catA pins s σ H _ _ v u Q I rx ry ⟨a, b, xs, ys, rfl, rfl, SqT.of ha, SqT.of hb, hz, fun e => q _ _ (Same.refl _) ?_, fun _ e => q _ _ (Same.refl _) ?_, fun _ _ p hp => q _ _ (same_upd hp) upd_same⟩
  · rw [e, hb]
    simp
  · rw [e, ha]
    simp
theorem cut_whole {xs : List V} {lo hi : Option Int} (h : HT.sIx xs.length 0 lo = 0 ∧ HT.sIx xs.length xs.length hi = xs.length) : cutV xs lo hi = xs := by
  unfold cutV
  rw [h.1, h.2]
  simp
variable {e a b : Expr} {σ : L2.St} {H : Hp} {Q : VK} {pos p2 : Pos}
/-- t[i:], t[:i] -/
theorem ev_from (q : EV X e σ H fun x H1 => EV X a σ H1 fun y H2 => ∃ t xs i, x = .ref t ∧ y = .int i ∧ H2 t = some (.tup xs) ∧ ∀ H' p, Same H2 H' → H' p = some (.tup (cutV xs (some i) none)) → Q (.ref p) H') : EV X (.Subscript e (.Slice (some a) none none p2) pos) σ H Q := by
  refine EV.of (pe_slice sl_tupA pe_ev (po_some pe_ev) po_none) (EV.mono q fun x H1 q1 => EV.mono q1 fun y H2 ⟨t, xs, i, ex, ey, ht, q⟩ => ⟨i, ey, t, xs, ex, SqT.of ht, fun h => q _ _ (Same.refl _) ?_, fun _ p hp => q _ _ (same_upd hp) upd_same⟩)
  rw [cut_whole h, ht]
theorem ev_upto (q : EV X e σ H fun x H1 => EV X a σ H1 fun y H2 => ∃ t xs i, x = .ref t ∧ y = .int i ∧ H2 t = some (.tup xs) ∧ ∀ H' p, Same H2 H' → H' p = some (.tup (cutV xs none (some i))) → Q (.ref p) H') : EV X (.Subscript e (.Slice none (some a) none p2) pos) σ H Q := by
  refine EV.of (pe_slice sl_tupA pe_ev po_none (po_some pe_ev)) (EV.mono q fun x H1 q1 => EV.mono q1 fun y H2 ⟨t, xs, i, ex, ey, ht, q⟩ => ⟨i, ey, t, xs, ex, SqT.of ht, fun h => q _ _ (Same.refl _) ?_, fun _ p hp => q _ _ (same_upd hp) upd_same⟩)
  rw [cut_whole h, ht]
theorem cut_from (xs : List V) (i : Nat) : cutV xs (some (i : Int)) none = xs.drop i := by
  unfold cutV
  rw [HT.sIx_nat, HT.sIx_none, List.take_of_length_le (by rw [List.length_drop]; omega)]
  by_cases h : i ≤ xs.length
  · rw [Nat.min_eq_left h]
  · rw [Nat.min_eq_right (by omega), List.drop_length, List.drop_of_length_le (by omega)]
theorem cut_upto (xs : List V) (i : Nat) : cutV xs none (some (i : Int)) = xs.take i := by
  unfold cutV
  rw [HT.sIx_nat, HT.sIx_none, List.drop_zero, Nat.sub_zero]
  by_cases h : i ≤ xs.length
  · rw [Nat.min_eq_left h]
  · rw [Nat.min_eq_right (by omega), List.take_length, List.take_of_length_le (by omega)]
end
/-! ### C.m(..), m a classmethod -/
section
variable {X : Cx} {e o : Expr} {es : List Expr} {σ : L2.St} {H : Hp} {Q : VK} {k j : Nat} {E : XK} {CC p g : Addr} {m : Str} {pos apos : Pos} {sp : Sp} {pl : Sem Bool}
theorem ev_cmeth (C : Cal X k E) (r : ClX.CMet X.K CC (.type "type") m p g ∧ ClX.CRead X.K CC (.type "type")) (F : FnR X.prog X.w X.K X.mg X.base (L2.CX X.prog X.w) j g sp) (hj : j ≤ k)
    (q : EV X o σ H fun x H1 => x = .ref CC ∧ AV X (e :: es) σ H1 fun vs H2 => sp (.ref CC :: vs) H2 Q E)
    (hst : starEach (e :: es) X.env = (false, eval e X.env) :: starEach es X.env := by rfl) (hpl : (backTo pos (starEach es X.env)).any (·.1) = false := by rfl)
    (ht : eval (.Call (.Attribute o m apos) (e :: es) [] pos) X.env = (do
      let ov ← eval o X.env
      standAt apos.atName
      let (f, first) ← holding [ov] (getMethod ov m pl)
      callWith pos f first (backTo pos (starEach (e :: es) X.env)) (backToKw pos (keywordEach [] X.env))) := by rfl) : EV X (.Call (.Attribute o m apos) (e :: es) [] pos) σ H Q :=
  EV.of (ClX.pe_cmeth pe_ev r.2 r.1 F (C.hr.mono hj) C.hx pa_av hst hpl ht) q
theorem ev_cmeth0 (C : Cal X k E) (r : ClX.CMet X.K CC (.type "type") m p g ∧ ClX.CRead X.K CC (.type "type")) (F : FnR X.prog X.w X.K X.mg X.base (L2.CX X.prog X.w) j g sp) (hj : j ≤ k)
    (q : EV X o σ H fun x H1 => x = .ref CC ∧ sp [.ref CC] H1 Q E)
    (ht : eval (.Call (.Attribute o m apos) [] [] pos) X.env = (do
      let ov ← eval o X.env
      standAt apos.atName
      let (f, first) ← holding [ov] (getMethod ov m pl)
      callWith pos f first (backTo pos (starEach [] X.env)) (backToKw pos (keywordEach [] X.env))) := by rfl) : EV X (.Call (.Attribute o m apos) [] [] pos) σ H Q := by
  intro pins s I
  refine PySem.W.methodCall_KW (pl := pl) (thn (q pins s I) fun u s1 ⟨x, H1, I1, rx, ex, q⟩ => ?_) ht
  subst ex
  obtain rfl : u = Value.ref CC := rx
  refine ClX.getmethcm_ok I1 r.2 r.1 fun s2 I2 => ?_
  refine PySem.W.callWith_M0 (first := []) ⟨ClX.pin_at I2, I2.kIn⟩ r.1.fi ?_
  exact ClX.run_cm F (C.hr.mono hj) C.hx I2 .nil q
end
/-! ### posts as data -/
def dP (p : Int × Int) : PyData := .tuple [.int p.1, .int p.2]
def dPs (ps : List (Int × Int)) : PyData := .tuple (ps.map dP)
theorem dp_pr {K : PySem.W.Frag} {H : Hp} {v : V} {p : Int × Int} (h : IsPr H v p) : Dp K H v (dP p) := by
  obtain ⟨a, rfl, ha⟩ := h
  exact .tup (SqT.of ha) (.cons (.int _) (.cons (.int _) .nil))
theorem dp_all {K : PySem.W.Frag} {H : Hp} : ∀ {vs : List V} {ps : List (Int × Int)}, AreP H vs ps → DpAll K H vs (ps.map dP)
  | _, _, .nil => .nil
  | _, _, .cons r t => .cons (dp_pr r) (dp_all t)
theorem dp_ps {K : PySem.W.Frag} {H : Hp} {t : Addr} {vs : List V} {ps : List (Int × Int)} (h : H t = some (.tup vs)) (r : AreP H vs ps) : Dp K H (.ref t) (dPs ps) := .tup (SqT.of h) (dp_all r)
theorem dps_lay : ∀ ps : List (Int × Int), PyData.canLayAll0 (ps.map dP) = true
  | [] => by simp [PyData.canLayAll0]
  | z :: zs => by simp [PyData.canLayAll0, dP, PyData.canLay0, dps_lay zs]
theorem dps_depth : ∀ ps : List (Int × Int), PyData.depthAll (ps.map dP) ≤ 1
  | [] => by simp [PyData.depthAll]
  | z :: zs => by
    have h1 := dps_depth zs
    simp only [List.map_cons, PyData.depthAll, dP, PyData.depth]
    omega
theorem shaped_ps (ps : List (Int × Int)) : SeqAt.shaped (dPs ps) = true := by
  have h1 := dps_depth ps
  have h2 : PyData.depth (dPs ps) ≤ 64 := by
    simp only [dPs, PyData.depth]
    omega
  show (PyData.canLay0 (dPs ps) && decide (PyData.depth (dPs ps) ≤ 64)) = true
  rw [Bool.and_eq_true]
  exact ⟨by simp only [dPs, PyData.canLay0]; exact dps_lay ps, decide_eq_true h2⟩
theorem eqvs_ps : ∀ a b : List (Int × Int), PyData.eqvAll (a.map dP) (b.map dP) = decide (a = b)
  | [], [] => by simp [PyData.eqvAll]
  | [], _ :: _ => by simp [PyData.eqvAll]
  | _ :: _, [] => by simp [PyData.eqvAll]
  | (x, y) :: a, (x', y') :: b => by
    simp only [List.map_cons, PyData.eqvAll, eqvs_ps a b, dP, PyData.eqv]
    simp [Bool.decide_and, Bool.beq_eq_decide_eq]
theorem eqv_ps (a b : List (Int × Int)) : PyData.eqv (dPs a) (dPs b) = decide (a = b) := by
  simp only [dPs, PyData.eqv]
  exact eqvs_ps a b
end Oil
set_option Elab.async false
set_option linter.all false
set_option maxRecDepth 100000
set_option maxHeartbeats 2000000
/-! Plain laws: stretches of a way, walks. -/
namespace Oil
open PySem PySem.Spec PyProof.Rows L2
theorem join_call {a b : St3} (ha : a.ok) (hb : b.ok) (o : Int) : (a.join b).call o = (a.call o).bind b.call := by
  obtain ⟨na, ga, ta⟩ := a
  obtain ⟨nb, gb, tb⟩ := b
  cases na with
  | none => rfl
  | some n =>
    cases nb with
    | none =>
      show none = _
      simp only [St3.call]
      split <;> rfl
    | some m =>
      simp only [St3.ok] at ha hb
      simp only [St3.join, St3.call]
      by_cases h1 : ta < m
      · rw [if_pos h1]
        by_cases h2 : o < n
        · rw [if_pos h2]
          rfl
        · rw [if_neg h2]
          show none = (if min ta (o + ga) < m then none else _)
          rw [if_pos (by omega)]
      · rw [if_neg h1]
        by_cases h2 : o < n
        · rw [if_pos h2]
          show (if o < max n (m - ga) then none else _) = none
          rw [if_pos (by omega)]
        · rw [if_neg h2]
          show (if o < max n (m - ga) then none else some (min (min (ta + gb) tb) (o + (ga + gb)))) = (if min ta (o + ga) < m then none else some (min tb (min ta (o + ga) + gb)))
          by_cases h3 : o + ga < m
          · rw [if_pos (by omega), if_pos (by omega)]
          · rw [if_neg (by omega), if_neg (by omega)]
            congr 1
            omega
theorem call_nonneg {a : St3} (ha : a.ok) {o r : Int} (ho : 0 ≤ o) (h : a.call o = some r) : 0 ≤ r := by
  obtain ⟨na, ga, ta⟩ := a
  cases na with
  | none => cases h
  | some n =>
    simp only [St3.ok] at ha
    simp only [St3.call] at h
    split at h
    · cases h
    · cases h
      omega
theorem pw_ok {s : St3} (h : s.ok) (n : Nat) : (s.pw n).ok := rep_ok h _
theorem pw_one (s : St3) : s.pw 1 = s := rfl
theorem pw_succ (s : St3) {n : Nat} (h : 1 ≤ n) : s.pw (n + 1) = (s.pw n).join s := (pw_add s h (Nat.le_refl 1)).symm
/-! ### legs of a way -/
def Wy.at (w : Wy) (i : Nat) : Int × Int := w.posts.getD (i % w.posts.length) (0, 1)
def Wy.leg (w : Wy) (i : Nat) : St3 := if w.cap < (w.at i).2 then bar else ⟨some (max 0 ((w.at i).2 - (w.at i).1)), (w.at i).1 - (w.at i).2, w.cap - (w.at i).2⟩
theorem Wy.ok.at_ok {w : Wy} (h : w.ok) (i : Nat) : okP (w.at i) := by
  have hl : i % w.posts.length < w.posts.length := Nat.mod_lt _ h.n1
  have e : w.at i = w.posts[i % w.posts.length] := by
    unfold Wy.at
    rw [List.getD_eq_getElem?_getD, List.getElem?_eq_getElem hl]
    rfl
  rw [e]
  exact h.ps _ (List.getElem_mem hl)
theorem leg_ok {w : Wy} (h : w.ok) (i : Nat) : (w.leg i).ok := by
  have p := h.at_ok i
  obtain ⟨p1, p2, p3, p4⟩ := p
  unfold Wy.leg
  split
  · exact bar_ok
  · simp only [St3.ok]
    omega
/-- n + 1 legs from i -/
def Wy.pt (w : Wy) (i : Nat) : Nat → St3
  | 0 => w.leg i
  | n + 1 => (w.pt i n).join (w.leg (i + n + 1))
/-- n legs from i, at least one -/
def Wy.st (w : Wy) (i n : Nat) : St3 := w.pt i (n - 1)
theorem pt_ok {w : Wy} (h : w.ok) (i : Nat) : ∀ n, (w.pt i n).ok
  | 0 => leg_ok h i
  | n + 1 => join_ok (pt_ok h i n) (leg_ok h _)
theorem st_ok {w : Wy} (h : w.ok) (i n : Nat) : (w.st i n).ok := pt_ok h i _
theorem st_one (w : Wy) (i : Nat) : w.st i 1 = w.leg i := rfl
theorem pt_add (w : Wy) (i a : Nat) : ∀ b, (w.pt i a).join (w.pt (i + a + 1) b) = w.pt i (a + b + 1)
  | 0 => rfl
  | b + 1 => by
    show (w.pt i a).join ((w.pt (i + a + 1) b).join (w.leg (i + a + 1 + b + 1))) = (w.pt i (a + b + 1)).join (w.leg (i + (a + b + 1) + 1))
    rw [← join_assoc, pt_add w i a b, show i + a + 1 + b + 1 = i + (a + b + 1) + 1 by omega]
theorem st_add (w : Wy) (i : Nat) {a b : Nat} (ha : 1 ≤ a) (hb : 1 ≤ b) : (w.st i a).join (w.st (i + a) b) = w.st i (a + b) := by
  unfold Wy.st
  have e : i + a = i + (a - 1) + 1 := by omega
  rw [e, pt_add]
  congr 1
  omega
theorem st_succ (w : Wy) (i : Nat) {a : Nat} (ha : 1 ≤ a) : (w.st i a).join (w.leg (i + a)) = w.st i (a + 1) := st_add w i ha (Nat.le_refl 1)
theorem at_per (w : Wy) (i k : Nat) : w.at (i + w.posts.length * k) = w.at i := by
  unfold Wy.at
  rw [Nat.add_mul_mod_self_left]
theorem at_mod (w : Wy) (i : Nat) : w.at (i % w.posts.length) = w.at i := by
  unfold Wy.at
  rw [Nat.mod_mod]
theorem leg_per (w : Wy) (i k : Nat) : w.leg (i + w.posts.length * k) = w.leg i := by
  unfold Wy.leg
  rw [at_per]
theorem leg_mod (w : Wy) (i : Nat) : w.leg (i % w.posts.length) = w.leg i := by
  unfold Wy.leg
  rw [at_mod]
theorem leg_add_mod (w : Wy) (i j : Nat) : w.leg (i % w.posts.length + j) = w.leg (i + j) := by
  rw [← leg_mod w (i % w.posts.length + j), Nat.mod_add_mod, leg_mod]
theorem pt_mod (w : Wy) (i : Nat) : ∀ n, w.pt (i % w.posts.length) n = w.pt i n
  | 0 => leg_mod w i
  | n + 1 => by
    show (w.pt (i % w.posts.length) n).join (w.leg (i % w.posts.length + n + 1)) = (w.pt i n).join (w.leg (i + n + 1))
    rw [pt_mod w i n, Nat.add_assoc, leg_add_mod, Nat.add_assoc]
theorem st_mod (w : Wy) (i n : Nat) : w.st (i % w.posts.length) n = w.st i n := pt_mod w i _
theorem st_per (w : Wy) (i k n : Nat) : w.st (i + w.posts.length * k) n = w.st i n := by
  rw [← st_mod w (i + w.posts.length * k), Nat.add_mul_mod_self_left, st_mod]
/-- rounds -/
theorem st_pow (w : Wy) (h : 1 ≤ w.posts.length) (i : Nat) : ∀ k : Nat, (w.st i w.posts.length).pw (k + 1) = w.st i (w.posts.length * (k + 1))
  | 0 => by rw [Nat.zero_add, Nat.mul_one]; rfl
  | k + 1 => by
    rw [pw_succ _ (by omega), st_pow w h i k]
    have e := st_add w i (a := w.posts.length * (k + 1)) (b := w.posts.length) (Nat.mul_pos h (by omega)) h
    rw [st_per] at e
    rw [e, Nat.mul_succ w.posts.length (k + 1)]
theorem st_pow' (w : Wy) (h : 1 ≤ w.posts.length) (i : Nat) {k : Nat} (hk : 1 ≤ k) : (w.st i w.posts.length).pw k = w.st i (w.posts.length * k) := by
  obtain ⟨j, rfl⟩ : ∃ j, k = j + 1 := ⟨k - 1, by omega⟩
  exact st_pow w h i j
/-! ### plain walking -/
def Wy.step (w : Wy) (i : Nat) (o : Int) : Option Int := if min w.cap (o + (w.at i).1) < (w.at i).2 then none else some (min w.cap (o + (w.at i).1) - (w.at i).2)
theorem leg_call {w : Wy} (h : w.ok) (i : Nat) {o : Int} (ho : 0 ≤ o) : (w.leg i).call o = w.step i o := by
  have p := h.at_ok i
  obtain ⟨p1, p2, p3, p4⟩ := p
  unfold Wy.leg Wy.step
  by_cases h1 : w.cap < (w.at i).2
  · rw [if_pos h1, if_pos (by omega)]
    rfl
  · rw [if_neg h1]
    show (if o < max 0 ((w.at i).2 - (w.at i).1) then none else some (min (w.cap - (w.at i).2) (o + ((w.at i).1 - (w.at i).2)))) = _
    by_cases h2 : o + (w.at i).1 < (w.at i).2
    · rw [if_pos (by omega), if_pos (by omega)]
    · rw [if_neg (by omega), if_neg (by omega)]
      congr 1
      omega
def Wy.walk (w : Wy) (i : Nat) (o : Int) : Nat → Option Int
  | 0 => some o
  | n + 1 => (w.walk i o n).bind (w.step (i + n))
theorem step_nonneg {w : Wy} {i : Nat} {o r : Int} (h : w.step i o = some r) : 0 ≤ r := by
  unfold Wy.step at h
  split at h
  · cases h
  · cases h
    omega
theorem walk_nonneg {w : Wy} {i : Nat} {o r : Int} (ho : 0 ≤ o) : ∀ {n : Nat}, w.walk i o n = some r → 0 ≤ r
  | 0, h => by cases h; exact ho
  | n + 1, h => by
    simp only [Wy.walk] at h
    cases e : w.walk i o n with
    | none => rw [e] at h; cases h
    | some u => rw [e] at h; exact step_nonneg h
theorem pt_call {w : Wy} (h : w.ok) (i : Nat) {o : Int} (ho : 0 ≤ o) : ∀ n, (w.pt i n).call o = w.walk i o (n + 1)
  | 0 => leg_call h i ho
  | n + 1 => by
    show ((w.pt i n).join (w.leg (i + n + 1))).call o = (w.walk i o (n + 1)).bind (w.step (i + (n + 1)))
    rw [join_call (pt_ok h i n) (leg_ok h _), pt_call h i ho n]
    cases e : w.walk i o (n + 1) with
    | none => rfl
    | some u => exact leg_call h _ (walk_nonneg ho e)
theorem st_call {w : Wy} (h : w.ok) (i : Nat) {o : Int} (ho : 0 ≤ o) {n : Nat} (hn : 1 ≤ n) : (w.st i n).call o = w.walk i o n := by
  unfold Wy.st
  rw [pt_call h i ho]
  congr 1
  omega
end Oil
set_option Elab.async false
set_option linter.all false
set_option maxRecDepth 100000
set_option maxHeartbeats 2000000
/-! Sequences at a point: items, stores, appending, comprehensions. -/
namespace Oil
open PySem PySem.Spec PyProof.Rows L2
section
variable {X : Cx} {a b e : Expr} {es : List Expr} {σ : L2.St} {H : Hp} {Q : VK} {D : Ends} {pos apos cpos p p2 : Pos}
theorem ev_ixT (q : EV X a σ H fun x H1 => EV X b σ H1 fun y H2 => ∃ t xs i v, x = .ref t ∧ y = .int i ∧ H2 t = some (.tup xs) ∧ atI xs i = some v ∧ Q v H2) (hs : PlainIx b := by intro _ _; rfl) : EV X (.Subscript a b pos) σ H Q :=
  EV.of (pe_ix ix_tup pe_ev pe_ev hs) (EV.mono q fun x H1 q => EV.mono q fun y H2 ⟨t, xs, i, v, ex, ey, ht, ha, q⟩ => ⟨t, xs, i, v, ex, ey, SqT.of ht, ha, q⟩)
theorem ev_ixL (q : EV X a σ H fun x H1 => EV X b σ H1 fun y H2 => ∃ t xs i v, x = .ref t ∧ y = .int i ∧ SqL X.K H2 t xs ∧ atI xs i = some v ∧ Q v H2) (hs : PlainIx b := by intro _ _; rfl) : EV X (.Subscript a b pos) σ H Q :=
  EV.of (pe_ix ix_list pe_ev pe_ev hs) q
theorem atI_eq {α : Type} (xs : List α) (i : Nat) : atI xs (i : Int) = xs[i]? := by
  unfold atI ixN
  rw [if_pos (by omega)]
  by_cases h : (i : Int) < xs.length
  · rw [if_pos h]
    rfl
  · rw [if_neg h, List.getElem?_eq_none (by omega)]
    rfl
theorem atI_int {α : Type} (xs : List α) {i : Int} (h : 0 ≤ i) : atI xs i = xs[i.toNat]? := by
  rw [← atI_eq, Int.toNat_of_nonneg h]
theorem atI_zero {α : Type} (x : α) (xs : List α) : atI (x :: xs) 0 = some x := by
  rw [atI_int _ (Int.le_refl 0)]
  rfl
/-- xs[i] = v, the target -/
theorem gv_setL {o i : Expr} {v : V} {R : L2.St → Hp → Prop} (q : EV X o σ H fun x H1 => EV X i σ H1 fun y H2 => ∃ l xs k j, x = .ref l ∧ y = .int k ∧ H2 l = some (.lst xs) ∧ ixN xs.length k = some j ∧ R σ (upd H2 l (.lst (xs.set j v))))
    (ha : ∀ v, assign (.Subscript o i pos) X.env v = (do
      let ov ← holding [v] (eval o X.env)
      let iv ← holding [v, ov] (eval i X.env)
      standAt pos
      holding [v, ov, iv] (setItem ov iv v)
      release [v, ov, iv] []) := by intro _; rfl) : GV X (.Subscript o i pos) v σ H R := GV.of (pg_sub pe_ev pe_ev set_list ha) q
theorem ixN_nat {n i : Nat} (h : i < n) : ixN n (i : Int) = some i := by
  unfold ixN
  rw [if_pos (by omega), if_pos (by omega)]
  rfl
/-- xs.append(e) -/
theorem ev_append {o : Expr} (q : EV X o σ H fun x H1 => ∃ l, x = .ref l ∧ (∃ ys, SqL X.K H1 l ys) ∧ EV X e σ H1 fun y H2 => ∃ xs, H2 l = some (.lst xs) ∧ xs.length < sizeLine ∧ Q .non (upd H2 l (.lst (xs ++ [y]))))
    (hbase : attributeBase o "append" X.env (eval o X.env) = eval o X.env := by rfl)
    (hfew : ((backTo cpos (starEach [e] X.env)).all (fun x => !x.1) && (backToKw cpos (keywordEach [] X.env)).all (fun x => x.1.isSome)
      && decide (([e] : List Expr).length + ([] : List Keyword).length + (if ([] : List Keyword).isEmpty then 0 else 1) < 30)) = true := by rfl)
    (hline : (apos.endLine == cpos.line) = true := by rfl) (hs : starEach [e] X.env = (false, eval e X.env) :: starEach [] X.env := by rfl) (hplain : (backTo cpos (starEach [] X.env)).any (·.1) = false := by rfl) :
    EV X (.Call (.Attribute o "append" apos) [e] [] cpos) σ H Q := by
  intro pins s I
  refine (pe_bm (r := rAppend) (to := fun σ H Q => EV X o σ H Q) F.plainAttrs_list F.slot_list_append F.type_list_append mt_append pe_ev (pa_cons pe_ev pa_nil hs) hbase hfew hline hs hplain).run pins s σ H Q I ?_
  refine EV.mono q fun x H1 ⟨l, ex, hl, q⟩ => ⟨by rw [ex]; exact .inl ⟨rfl, hl⟩, EV.mono q fun y H2 ⟨xs, h1, h2, q⟩ => ⟨l, xs, y, ex, rfl, h1, h2, q⟩⟩
/-! ### blocks of comprehensions -/
def IsBlk (X : Cx) (scope : Scope) (Y : Cx) : Prop := ∃ (s : Shared) (H : Hp) (C : Addr) (cl : List (Str × Addr)) (fp : List Addr), Y = X.blk s H scope (compEnvC scope cl C X.env) fp
variable {tg iter elt : Expr} {scope : Scope} {own : List (Str × Nat)}
/-- what a turn makes: the element, appended -/
def LcT (X : Cx) (scope : Scope) (own : List (Str × Nat)) (tg elt : Expr) (σ : L2.St) (D : Addr) (x : V) (H : Hp) (Nx : Hp → Prop) : Prop :=
  ∀ Y, IsBlk X scope Y → GV Y tg x (wipe σ (own.map (·.2))) H fun σ2 H2 => wipe σ2 (own.map (·.2)) = wipe σ (own.map (·.2)) ∧ ∀ Y, IsBlk X scope Y → EV Y elt σ2 H2 fun y H4 => ∃ acc, H4 D = some (.lst acc) ∧ acc.length < sizeLine ∧ Nx (upd H4 D (.lst (acc ++ [y])))
theorem lc_one {x : V} {D : Addr} {σ : L2.St} {H : Hp} {Nx : Hp → Prop} (h : LcT X scope own tg elt σ D x H Nx) :
    (fun (x : V) (σ : L2.St) (H : Hp) (R : L2.St → Hp → Prop) => ∀ Y, IsBlk X scope Y → GV Y tg x σ H R) x (wipe σ (own.map (·.2))) H fun σ2 H2 => wipe σ2 (own.map (·.2)) = wipe σ (own.map (·.2)) ∧ tYes σ2 H2 fun b H3 =>
      if b = true then (fun (σ : L2.St) (H : Hp) (Q : VK) => ∀ Y, IsBlk X scope Y → EV Y elt σ H Q) σ2 H3 fun y H4 => ∃ acc, H4 D = some (.lst acc) ∧ acc.length < sizeLine ∧ Nx (upd H4 D (.lst (acc ++ [y]))) else Nx H3 := by
  intro Y hY
  refine GV.mono (h Y hY) fun σ2 H2 ⟨e, q⟩ => ⟨e, ?_⟩
  have z : (if true = true then (fun (σ : L2.St) (H : Hp) (Q : VK) => ∀ Y, IsBlk X scope Y → EV Y elt σ H Q) σ2 H2 fun y H4 => ∃ acc, H4 D = some (.lst acc) ∧ acc.length < sizeLine ∧ Nx (upd H4 D (.lst (acc ++ [y]))) else Nx H2) := iteT (B := Nx H2) q
  exact z
theorem blk_pg : ∀ (s : Shared) (H : Hp) (C : Addr) (cl : List (Str × Addr)) (fp : List Addr), PG (X.blk s H scope (compEnvC scope cl C X.env) fp) tg (fun x σ H R => ∀ Y, IsBlk X scope Y → GV Y tg x σ H R) :=
  fun s0 H0 C cl fp => ⟨fun pins s σ H v u Q I r h => h _ ⟨s0, H0, C, cl, fp, rfl⟩ pins s u I r⟩
theorem blk_pe : ∀ (s : Shared) (H : Hp) (C : Addr) (cl : List (Str × Addr)) (fp : List Addr), PE (X.blk s H scope (compEnvC scope cl C X.env) fp) elt (fun σ H Q => ∀ Y, IsBlk X scope Y → EV Y elt σ H Q) :=
  fun s0 H0 C cl fp => ⟨fun pins s σ H Q I h => h _ ⟨s0, H0, C, cl, fp, rfl⟩ pins s I⟩
theorem blk_pts : ∀ (s : Shared) (H : Hp) (C : Addr) (cl : List (Str × Addr)) (fp : List Addr), PTs (X.blk s H scope (compEnvC scope cl C X.env) fp) [] tYes := fun _ _ _ _ _ => pts_nil
/-- the loop over the iterator: what becomes of it -/
def LcL (X : Cx) (scope : Scope) (own : List (Str × Nat)) (tg elt : Expr) (σ : L2.St) (Q : VK) (xs : List V) (K : Hp → Prop) (H1 : Hp) : Prop :=
  ∀ D, H1 D = none → ∃ Pv : Nat → Hp → Prop, Pv 0 (upd H1 D (.lst [])) ∧ (∀ i H, i ≤ xs.length → Pv i H → K H) ∧ (∀ i x H, xs[i]? = some x → Pv i H → LcT X scope own tg elt σ D x H (Pv (i + 1))) ∧ ∀ H, Pv xs.length H → Q (.ref D) H
def LcR (X : Cx) (scope : Scope) (own : List (Str × Nat)) (tg elt : Expr) (σ : L2.St) (Q : VK) (n : Nat) (H1 : Hp) : Prop :=
  ∀ D, H1 D = none → ∃ Pv : Nat → Hp → Prop, Pv 0 (upd H1 D (.lst [])) ∧ (∀ i H, i < n → Pv i H → LcT X scope own tg elt σ D (.int (i : Int)) H (Pv (i + 1))) ∧ ∀ H, Pv n H → Q (.ref D) H
abbrev blkG (X : Cx) (scope : Scope) (tg : Expr) : TG := fun x σ H R => ∀ Y, IsBlk X scope Y → GV Y tg x σ H R
abbrev blkE (X : Cx) (scope : Scope) (elt : Expr) : TE := fun σ H Q => ∀ Y, IsBlk X scope Y → EV Y elt σ H Q
theorem lcl_list (q : EV X iter σ H fun x H1 => ∃ a xs, x = .ref a ∧ SqL X.K H1 a xs ∧ LcL X scope own tg elt σ Q xs (fun H => SqL X.K H a xs) H1) : tLc (iList X.K (EV X iter)) (blkG X scope tg) tYes (blkE X scope elt) (own.map (·.2)) σ H Q := by
  refine EV.mono q fun x H1 ⟨a, xs, ex, hl, hD⟩ => ⟨a, ex, ⟨xs, hl⟩, fun D hn => ?_⟩
  obtain ⟨Pv, h0, hk, hs, hd⟩ := hD D hn
  have z := lc_list (K := X.K) (a := a) (xs := xs) (g := blkG X scope tg) (tt := tYes) (te := blkE X scope elt) (vs := own.map (·.2)) (σ := σ) (H1 := H1) (D := D) (Qd := fun H => Q (.ref D) H) Pv h0 hk (fun i x H hx hp => lc_one (hs i x H hx hp)) hd
  exact z
theorem lcl_tup (q : EV X iter σ H fun x H1 => ∃ a xs, x = .ref a ∧ SqT X.K H1 a xs ∧ LcL X scope own tg elt σ Q xs (fun H => SqT X.K H a xs) H1) : tLc (iTup X.K (EV X iter)) (blkG X scope tg) tYes (blkE X scope elt) (own.map (·.2)) σ H Q := by
  refine EV.mono q fun x H1 ⟨a, xs, ex, hl, hD⟩ => ⟨a, ex, ⟨xs, hl⟩, fun D hn => ?_⟩
  obtain ⟨Pv, h0, hk, hs, hd⟩ := hD D hn
  have z := lc_tup (K := X.K) (a := a) (xs := xs) (g := blkG X scope tg) (tt := tYes) (te := blkE X scope elt) (vs := own.map (·.2)) (σ := σ) (H1 := H1) (D := D) (Qd := fun H => Q (.ref D) H) Pv h0 hk (fun i x H hx hp => lc_one (hs i x H hx hp)) hd
  exact z
/-- [elt for tg in l] -/
theorem ev_lcL (own : List (Str × Nat)) (hc : X.calm = true) (hN : X.N.Nodup) (q : EV X iter σ H fun x H1 => ∃ a xs, x = .ref a ∧ SqL X.K H1 a xs ∧ LcL X scope own tg elt σ Q xs (fun H => SqL X.K H a xs) H1)
    (ok : BlkOk X.N X.env.scope scope own := by exact blkOk_by (by kernel_rfl)) (hs : ∀ x, foldedSetIterable iter X.env x = pure x := by intro _; rfl) : EV X (.ListComp elt [⟨tg, iter, [], 0⟩] scope pos) σ H Q :=
  EV.of (pe_lc hc hN (pi_list pe_ev) ok blk_pg blk_pts blk_pe hs) (lcl_list q)
theorem ev_lcT (own : List (Str × Nat)) (hc : X.calm = true) (hN : X.N.Nodup) (q : EV X iter σ H fun x H1 => ∃ a xs, x = .ref a ∧ SqT X.K H1 a xs ∧ LcL X scope own tg elt σ Q xs (fun H => SqT X.K H a xs) H1)
    (ok : BlkOk X.N X.env.scope scope own := by exact blkOk_by (by kernel_rfl)) (hs : ∀ x, foldedSetIterable iter X.env x = pure x := by intro _; rfl) : EV X (.ListComp elt [⟨tg, iter, [], 0⟩] scope pos) σ H Q :=
  EV.of (pe_lc hc hN (pi_tup pe_ev) ok blk_pg blk_pts blk_pe hs) (lcl_tup q)
/-- [elt for tg in range(n)] -/
theorem lcl_range (hm : X.mg "range" = none) {n : Expr} (q : EV X n σ H fun x H1 => ∃ m : Int, x = .int m ∧ -(2 ^ 62) ≤ m ∧ m < 2 ^ 62 ∧ LcR X scope own tg elt σ Q m.toNat H1) : tLc (iRng1 (tCons (EV X n) tNil)) (blkG X scope tg) tYes (blkE X scope elt) (own.map (·.2)) σ H Q := by
  refine EV.mono q fun x H1 ⟨m, ex, h1, h2, hD⟩ => ⟨m, by rw [ex], h1, h2, fun D hn => ?_⟩
  obtain ⟨Pv, h0, hs, hd⟩ := hD D hn
  have z := lc_range (lo := 0) (n := m.toNat) (g := blkG X scope tg) (tt := tYes) (te := blkE X scope elt) (vs := own.map (·.2)) (σ := σ) (H1 := H1) (D := D) (Qd := fun H => Q (.ref D) H) Pv h0 (fun i H hi hp => by rw [Int.zero_add]; exact lc_one (hs i H hi hp)) hd
  exact z
theorem ev_lcR (own : List (Str × Nat)) (hc : X.calm = true) (hN : X.N.Nodup) (hm : X.mg "range" = none) {n : Expr} (q : EV X n σ H fun x H1 => ∃ m : Int, x = .int m ∧ -(2 ^ 62) ≤ m ∧ m < 2 ^ 62 ∧ LcR X scope own tg elt σ Q m.toNat H1)
    (hg : Gl X "range" := by rfl) (h1 : starEach [n] X.env = (false, eval n X.env) :: starEach [] X.env := by rfl) (hst : starEach [n] X.env = [(false, eval n X.env)] := by rfl)
    (ok : BlkOk X.N X.env.scope scope own := by exact blkOk_by (by kernel_rfl)) (hs : ∀ x, foldedSetIterable (.Call (.Name "range" p) [n] [] p2) X.env x = pure x := by intro _; rfl) : EV X (.ListComp elt [⟨tg, .Call (.Name "range" p) [n] [] p2, [], 0⟩] scope pos) σ H Q :=
  EV.of (pe_lc hc hN (pi_range1 hg hm (pa_cons pe_ev pa_nil h1) hst) ok blk_pg blk_pts blk_pe hs) (lcl_range hm q)
/-- y = [..] on one line -/
theorem sv_lcR {y : Str} {py : Pos} (i : Nat) (own : List (Str × Nat)) (hc : X.calm = true) (hN : X.N.Nodup) (hm : X.mg "range" = none) {n : Expr} (q : EV X n σ H fun x H1 => ∃ m : Int, x = .int m ∧ -(2 ^ 62) ≤ m ∧ m < 2 ^ 62 ∧ LcR X scope own tg elt σ (fun v H1 => D.nx (σ.set i (some v)) H1) m.toNat H1)
    (hy : X.N[i]? = some y := by rfl) (hyl : X.env.scope.names.lookup y = some .local := by rfl) (hsw : swapsWith (.ListComp elt [⟨tg, .Call (.Name "range" p) [n] [] p2, [], 0⟩] scope cpos) (some (.Name y py)) pos.line X.env = pure true := by exact sw_true rfl rfl (by decide +kernel) (by decide +kernel))
    (hg : Gl X "range" := by rfl) (h1 : starEach [n] X.env = (false, eval n X.env) :: starEach [] X.env := by rfl) (hst : starEach [n] X.env = [(false, eval n X.env)] := by rfl)
    (ok : BlkOk X.N X.env.scope scope own := by exact blkOk_by (by kernel_rfl)) (hs : ∀ x, foldedSetIterable (.Call (.Name "range" p) [n] [] p2) X.env x = pure x := by intro _; rfl) : SV X (.Assign [.Name y py] (.ListComp elt [⟨tg, .Call (.Name "range" p) [n] [] p2, [], 0⟩] scope cpos) pos) σ H D :=
  SV.of (ps_setLc hc hN hy hyl hsw (pi_range1 hg hm (pa_cons pe_ev pa_nil h1) hst) ok blk_pg blk_pts blk_pe hs) (lcl_range hm q)
theorem sv_lcL {y : Str} {py : Pos} (i : Nat) (own : List (Str × Nat)) (hc : X.calm = true) (hN : X.N.Nodup) (q : EV X iter σ H fun x H1 => ∃ a xs, x = .ref a ∧ SqL X.K H1 a xs ∧ LcL X scope own tg elt σ (fun v H1 => D.nx (σ.set i (some v)) H1) xs (fun H => SqL X.K H a xs) H1)
    (hy : X.N[i]? = some y := by rfl) (hyl : X.env.scope.names.lookup y = some .local := by rfl) (hsw : swapsWith (.ListComp elt [⟨tg, iter, [], 0⟩] scope cpos) (some (.Name y py)) pos.line X.env = pure true := by exact sw_true rfl rfl (by decide +kernel) (by decide +kernel))
    (ok : BlkOk X.N X.env.scope scope own := by exact blkOk_by (by kernel_rfl)) (hs : ∀ x, foldedSetIterable iter X.env x = pure x := by intro _; rfl) : SV X (.Assign [.Name y py] (.ListComp elt [⟨tg, iter, [], 0⟩] scope cpos) pos) σ H D :=
  SV.of (ps_setLc hc hN hy hyl hsw (pi_list pe_ev) ok blk_pg blk_pts blk_pe hs) (lcl_list q)
theorem sv_lcT {y : Str} {py : Pos} (i : Nat) (own : List (Str × Nat)) (hc : X.calm = true) (hN : X.N.Nodup) (q : EV X iter σ H fun x H1 => ∃ a xs, x = .ref a ∧ SqT X.K H1 a xs ∧ LcL X scope own tg elt σ (fun v H1 => D.nx (σ.set i (some v)) H1) xs (fun H => SqT X.K H a xs) H1)
    (hy : X.N[i]? = some y := by rfl) (hyl : X.env.scope.names.lookup y = some .local := by rfl) (hsw : swapsWith (.ListComp elt [⟨tg, iter, [], 0⟩] scope cpos) (some (.Name y py)) pos.line X.env = pure true := by exact sw_true rfl rfl (by decide +kernel) (by decide +kernel))
    (ok : BlkOk X.N X.env.scope scope own := by exact blkOk_by (by kernel_rfl)) (hs : ∀ x, foldedSetIterable iter X.env x = pure x := by intro _; rfl) : SV X (.Assign [.Name y py] (.ListComp elt [⟨tg, iter, [], 0⟩] scope cpos) pos) σ H D :=
  SV.of (ps_setLc hc hN hy hyl hsw (pi_tup pe_ev) ok blk_pg blk_pts blk_pe hs) (lcl_tup q)
end
end Oil
set_option Elab.async false
set_option linter.all false
set_option maxRecDepth 100000
set_option maxHeartbeats 2000000
/-! bool(o), o of an own class with __bool__. -/
namespace Oil
open PySem PySem.Spec PyProof.Rows L2
open Sem (wp)
section
variable {prog : Program} {w : World} {A : Around} {E : Value → Shared → Prop} {s : Shared}
/-- bool's __new__ in this model -/
theorem new_bool (v : Value) (S : PySem.Spec) (hS : ∀ (B : Around) (R : Result → Shared → Prop) (t : Shared), S B R t → wpAny (model prog w) B.in1 (truthy v) (fun b t' => R (.ok (.ret (.bool b))) t') (fun e t' => R (.error e) t') t) :
    MeetsIn prog w (Builtin.«bool.__new__» ⟨[.type "bool", v], []⟩) S := by
  refine MeetsIn.of_wp fun B R t ht => ?_
  obtain ⟨hp, g, d, tk, os⟩ := t
  have z := hS B R _ ht
  have f1 := F.conv_sub_bool
  repeat (any_goals (first | assumption | (with_reducible refine wpAny_bind (wpAny_mono z (fun b t' hb => ?_) fun _ _ e => e)) | wp_step))
  all_goals first | exact ⟨_, rfl, hb⟩ | skip
theorem call_boolV (v : Value) {Q : Value → Shared → Prop} (h : wpAny (model prog w) A.in1.in1 (truthy v) (fun b t' => Q (.bool b) t') E s) : wpAny (model prog w) A (call (.type "bool") [v]) Q E s := by
  have ft := F.called_bool
  obtain ⟨c, tl, hmro⟩ := ft.mro
  have hmade := ft.made
  have hsub := ft.sub
  have hct := F.typeCall_bool_1 v
  refine wpAny_call (codeAny_of_tree ?_)
  show wpAny _ _ (callAny (.type "bool") _) _ _ _
  refine wpAny_pure ⟨Code.quiet_builtin _ (by decide +kernel), codeAny_builtin F.entry_type_call ?_⟩
  rw [Around.under_plain (weight_type_call_type "bool" [v] []) (units_type_call_type "bool" [v] [])]
  have h1 := ft.notType
  have h2 := ft.canCreate
  repeat (any_goals (first | assumption | wp_step))
  have g := new_bool (prog := prog) (w := w) v (fun B R t => wpAny (model prog w) B.in1 (truthy v) (fun b t' => R (.ok (.ret (.bool b))) t') (fun e t' => R (.error e) t') t) fun B R t z => z
  refine codeAny_mono (codeAny_call_builtin (R := wants (fun o t' => t'.TypeIs o "bool" ∧ Q o t') E) ft.plain F.entry_bool_new (wpAny_of_eq (F.newCall_bool_1 v) (g A.in1 _ s ?_))) fun r t hr => ?_
  · exact wpAny_mono h (fun b t' hb => ⟨PySem.typeIs_bool t' b, hb⟩) fun _ _ z => z
  cases r with
  | error e => exact hr
  | ok fl =>
    cases fl with
    | ret o =>
      obtain ⟨hT, hq⟩ := hr
      have hli := ft.init.lookup
      have hbi := ft.init.bind o
      repeat (any_goals (first | assumption | wp_step))
      refine codeAny_mono (codeAny_call_builtin ft.init.plain F.entry_object_init (ft.init.check _ _ _ _ _ _ _ _ hT (F.args_object_init_2 o v) (object_init_meets ft.init.lookup ft.made F.newNe_bool prog w A.in1 (wants (fun r t2 => r = .none ∧ Q o t2) E) t ⟨hT, rfl, hq⟩))) fun r2 t2 hr2 => ?_
      cases r2 with
      | error e => exact hr2
      | ok fl2 =>
        cases fl2 with
        | ret r =>
          obtain ⟨rfl, hq⟩ := hr2
          repeat (any_goals (first | assumption | wp_step))
        | _ => exact hr2.elim
    | _ => exact hr.elim
end
section
variable {X : Cx} {k j : Nat} {E : XK} {CC f : Addr} {sp : Sp}
/-- bool(o) -/
theorem call_boolO (C : Cal X k E) (hm : Meth X.K CC "__bool__" f) (F : FnR X.prog X.w X.K X.mg X.base (L2.CX X.prog X.w) j f sp) (hj : j + 2 ≤ k) :
    CallR X (.type "bool") (fun xs H Q => ∃ a dx fs, xs = [V.ref a] ∧ H a = some (.ins CC dx fs) ∧ sp [.ref a] H (fun z H' => ∃ b, z = .bl b ∧ Q (.bl b) H') E) := by
  intro pins s σ H xs us Q I r h
  obtain ⟨a, dx, fs, rfl, ha, q⟩ := h
  obtain ⟨u, rfl, ru⟩ := vals1 r
  cases (show u = Value.ref a from ru)
  obtain ⟨od, J⟩ := inst_of I ha
  obtain ⟨m, hF⟩ := I.fr
  refine call_boolV _ (PySem.W.truthy_K hF I.ok.mod.kin J hm.at_ hm.fn ?_)
  refine wpAny_call (codeAny_mono (F X.A.in1.in1 X.stack s H [.ref a] [.ref a] _ E ((C.hr.mono hj).in1.in1) I.env0.in1.in1 (.cons rfl .nil) q) fun r s' hq => ?_)
  cases r with
  | error e => exact C.hx pins σ H s e s' I hq
  | ok fl =>
    cases fl with
    | ret u =>
      obtain ⟨v, H', I', r', b, ev, q'⟩ := I.after hq
      subst ev
      cases (show u = Value.bool b from r')
      exact ⟨.bl b, H', I', rfl, q'⟩
    | next => exact False.elim hq
    | brk => exact False.elim hq
    | cont => exact False.elim hq
end
end Oil
set_option Elab.async false
set_option linter.all false
set_option maxRecDepth 100000
set_option maxHeartbeats 2000000
/-! The law's own def: its record, its promise over every base. -/
namespace Oil
open PySem PySem.Spec PyProof.Rows L2
theorem law_end {P : Program} {w : World} {K : PySem.W.Frag} {mg : Str → Option Value} {x qual p : Str} {st : Stmt} {f : Addr} {N : List Str} {k : Nat} {sp : Sp}
    (F : ∃ fd, FunD K x qual (defArgs st) (defBody st) (defScope st) [] [] f fd) (S : FnScope N [p] (defScope st))
    (hb : ∀ (kV doc pm : Value) (an : Option Addr) (cdv ct : Value) (us : List Value), us.length = [p].length → bindArgs (PySem.W.fnOf x qual (defArgs st) (defBody st) (defScope st) .none kV doc pm an cdv ct) ⟨us, []⟩ = pure ([p].zip us))
    (len : ∀ vs H Q E, sp vs H Q E → vs.length = [p].length)
    (hbody : ∀ (base : Heap) (cdv : Value) (A : Around) (outer : List Env) (s : Shared) (H : Hp) (vs : List V) (Q : VK) (E : XK), Room k (A.deeper (envOfC qual (defScope st) s.heap.objs.size f cdv)) → sp vs H Q E →
      LV (cxOf (L2.CX P w) P w K mg base N qual (defScope st) f cdv A outer s H E) (defBody st) (start N vs) H { nx := fun _ H' => Q .non H', rt := Q }) :
    ∃ fd : FuncData, (∀ (s : Shared) (v : Value), BindsTo s fd ⟨[v], []⟩ [(p, v)]) ∧ ∀ base : Heap, FnOk P w K mg base CX0 (k + 1) f fd [p] (fun vs H Q _ => sp vs H Q E0) := by
  obtain ⟨fd, FD⟩ := F
  have FF := He5.fun_of FD
  obtain ⟨oc, od, kV, doc, pm, an, cdv, ct, osl, e, lk, hcd⟩ := FF.ex
  subst e
  refine ⟨_, fun s v => .of_eq (hb kV doc pm an cdv ct [v] rfl), fun base => FnOk.cx0 ?_⟩
  exact fn_of lk hcd S len fun A outer s H vs Q E hr hsp => ⟨_, pss_lv, hbody base cdv A outer s H vs Q E hr hsp⟩
end Oil
set_option Elab.async false
set_option linter.all false
set_option maxRecDepth 100000
set_option maxHeartbeats 2000000
/-! Plain laws: rounds, surplus, walks without end. -/
namespace Oil
open PySem PySem.Spec PyProof.Rows L2
def Wy.net (w : Wy) (i : Nat) : Int := (w.at i).1 - (w.at i).2
def Wy.nets (w : Wy) (i : Nat) : Nat → Int
  | 0 => 0
  | n + 1 => w.nets i n + w.net (i + n)
def Wy.surplus (w : Wy) : Int := (w.posts.map fun p => p.1 - p.2).sum
theorem net_per (w : Wy) (i k : Nat) : w.net (i + w.posts.length * k) = w.net i := by
  unfold Wy.net
  rw [at_per]
theorem nets_shift (w : Wy) (i : Nat) : ∀ n, w.nets (i + 1) n + w.net i = w.nets i n + w.net (i + n)
  | 0 => by simp [Wy.nets]
  | n + 1 => by
    have h := nets_shift w i n
    have e : i + 1 + n = i + (n + 1) := by omega
    simp only [Wy.nets, e]
    omega
theorem nets_round (w : Wy) : ∀ i, w.nets i w.posts.length = w.nets 0 w.posts.length
  | 0 => rfl
  | i + 1 => by
    have h := nets_shift w i w.posts.length
    have p := net_per w i 1
    rw [Nat.mul_one] at p
    rw [p] at h
    have r := nets_round w i
    omega
theorem at_lt {w : Wy} {i : Nat} (h : i < w.posts.length) : w.at i = w.posts[i] := by
  unfold Wy.at
  rw [Nat.mod_eq_of_lt h, List.getD_eq_getElem?_getD, List.getElem?_eq_getElem h]
  rfl
theorem nets_take (w : Wy) : ∀ n, n ≤ w.posts.length → w.nets 0 n = ((w.posts.take n).map fun p => p.1 - p.2).sum
  | 0, _ => by simp [Wy.nets]
  | n + 1, h => by
    have ih := nets_take w n (by omega)
    have hn : n < w.posts.length := by omega
    rw [List.take_succ, List.getElem?_eq_getElem hn, List.map_append, List.sum_append, ← ih]
    simp only [Wy.nets, Wy.net, Nat.zero_add, at_lt hn]
    simp
theorem nets_surplus (w : Wy) (i : Nat) : w.nets i w.posts.length = w.surplus := by
  rw [nets_round, nets_take w _ (Nat.le_refl _), List.take_length]
  rfl
/-- what a stretch gains -/
theorem pt_gain (w : Wy) (i : Nat) : ∀ {n : Nat} {m : Int}, (w.pt i n).need = some m → (w.pt i n).gain = w.nets i (n + 1)
  | 0, m, h => by
    simp only [Wy.pt, Wy.nets, Wy.leg, Wy.net] at h ⊢
    split at h
    · cases h
    · rename_i hc
      rw [if_neg hc]
      simp
  | n + 1, m, h => by
    simp only [Wy.pt] at h ⊢
    have ih := @pt_gain w i n
    generalize hA : w.pt i n = A at h ih ⊢
    obtain ⟨na, ga, ta⟩ := A
    generalize hB : w.leg (i + n + 1) = B at h ⊢
    obtain ⟨nb, gb, tb⟩ := B
    cases na with
    | none => cases h
    | some x =>
      cases nb with
      | none => cases h
      | some y =>
        simp only [St3.join] at h ⊢
        by_cases hc : ta < y
        · rw [if_pos hc] at h
          cases h
        · rw [if_neg hc]
          have e1 := ih rfl
          have e2 : gb = w.net (i + n + 1) := by
            unfold Wy.leg at hB
            split at hB
            · cases hB
            · injection hB with _ h2 _
              exact h2.symm
          show ga + gb = w.nets i (n + 1) + w.net (i + (n + 1))
          rw [← e1, e2, Nat.add_assoc]
theorem call_some {s : St3} {o r : Int} (h : s.call o = some r) : ∃ n, s.need = some n ∧ n ≤ o ∧ r = min s.top (o + s.gain) := by
  obtain ⟨n, g, t⟩ := s
  cases n with
  | none => cases h
  | some n =>
    simp only [St3.call] at h
    split at h
    · cases h
    · injection h with h
      exact ⟨n, rfl, by omega, h.symm⟩
theorem call_isSome {s : St3} {o : Int} : (s.call o).isSome = true ↔ ∃ n, s.need = some n ∧ n ≤ o := by
  obtain ⟨n, g, t⟩ := s
  cases n with
  | none => simp [St3.call]
  | some n =>
    simp only [St3.call]
    split
    · simp
      omega
    · simp
      omega
/-- more oil is never worse -/
theorem call_mono {s : St3} {o p r : Int} (h : s.call o = some r) (k : o ≤ p) : ∃ q, s.call p = some q ∧ r ≤ q := by
  obtain ⟨n, hn, h1, h2⟩ := call_some h
  refine ⟨min s.top (p + s.gain), ?_, by omega⟩
  obtain ⟨n', g, t⟩ := s
  cases hn
  exact if_neg (by omega)
theorem round_gain {w : Wy} (hn : 1 ≤ w.posts.length) {i : Nat} {o r : Int} (h : (w.st i w.posts.length).call o = some r) : r = min (w.st i w.posts.length).top (o + w.surplus) := by
  obtain ⟨n, h1, _, h2⟩ := call_some h
  have e := pt_gain w i h1
  have e2 : w.posts.length - 1 + 1 = w.posts.length := by omega
  rw [e2, nets_surplus] at e
  rw [h2]
  have e3 : (w.st i w.posts.length).gain = w.surplus := e
  rw [e3]
/-- two rounds, then a third: no less is left -/
theorem third {w : Wy} (hn : 1 ≤ w.posts.length) (hs : 0 ≤ w.surplus) {i : Nat} {o r1 r2 : Int} (h1 : (w.st i w.posts.length).call o = some r1) (h2 : (w.st i w.posts.length).call r1 = some r2) :
    r1 ≤ r2 ∧ ∃ r3, (w.st i w.posts.length).call r2 = some r3 ∧ r2 ≤ r3 := by
  have e1 := round_gain hn h1
  have e2 := round_gain hn h2
  have hle : r1 ≤ r2 := by omega
  obtain ⟨r3, h3, _⟩ := call_mono h2 hle
  have e3 := round_gain hn h3
  exact ⟨hle, r3, h3, by omega⟩
theorem walk_add (w : Wy) (i : Nat) (o : Int) (a : Nat) : ∀ b, w.walk i o (a + b) = (w.walk i o a).bind fun u => w.walk (i + a) u b
  | 0 => by
    show w.walk i o a = _
    cases w.walk i o a <;> rfl
  | b + 1 => by
    show (w.walk i o (a + b)).bind (w.step (i + (a + b))) = _
    rw [walk_add w i o a b]
    cases w.walk i o a with
    | none => rfl
    | some u =>
      show (w.walk (i + a) u b).bind _ = (w.walk (i + a) u b).bind _
      rw [Nat.add_assoc]
theorem step_mod (w : Wy) (i k : Nat) (o : Int) : w.step (i + w.posts.length * k) o = w.step i o := by
  unfold Wy.step
  rw [at_per]
theorem walk_per (w : Wy) (i k : Nat) (o : Int) : ∀ n, w.walk (i + w.posts.length * k) o n = w.walk i o n
  | 0 => rfl
  | n + 1 => by
    show (w.walk (i + w.posts.length * k) o n).bind _ = (w.walk i o n).bind _
    rw [walk_per w i k o n]
    have e : w.step (i + w.posts.length * k + n) = w.step (i + n) := by
      funext u
      rw [show i + w.posts.length * k + n = i + n + w.posts.length * k by omega, step_mod]
    rw [e]
/-- two rounds are enough to tell -/
theorem two_three {w : Wy} (ok : w.ok) (hs : 0 ≤ w.surplus) {i : Nat} {o : Int} (ho : 0 ≤ o) : (w.walk i o (2 * w.posts.length)).isSome = (w.walk i o (3 * w.posts.length)).isSome := by
  have hn := ok.n1
  have f : ∀ {u : Int}, 0 ≤ u → w.walk i u w.posts.length = (w.st i w.posts.length).call u := fun hu => (st_call ok i hu hn).symm
  have e2 : 2 * w.posts.length = w.posts.length + w.posts.length := by omega
  have e3 : 3 * w.posts.length = w.posts.length + (w.posts.length + w.posts.length) := by omega
  have p : ∀ u n, w.walk (i + w.posts.length) u n = w.walk i u n := fun u n => by
    have := walk_per w i 1 u n
    rw [Nat.mul_one] at this
    exact this
  rw [e2, e3, walk_add, walk_add]
  cases h1 : w.walk i o w.posts.length with
  | none => rfl
  | some r1 =>
    have p1 := walk_nonneg ho h1
    show (w.walk (i + w.posts.length) r1 w.posts.length).isSome = (w.walk (i + w.posts.length) r1 (w.posts.length + w.posts.length)).isSome
    rw [p, p, walk_add]
    cases h2 : w.walk i r1 w.posts.length with
    | none => rfl
    | some r2 =>
      have p2 := walk_nonneg p1 h2
      show true = (w.walk (i + w.posts.length) r2 w.posts.length).isSome
      rw [p]
      rw [f ho] at h1
      rw [f p1] at h2
      obtain ⟨_, r3, h3, _⟩ := third hn hs h1 h2
      rw [f p2, h3]
      rfl
def Wy.endless (w : Wy) (i : Nat) (o : Int) : Bool := decide (0 ≤ w.surplus) && (w.walk i o (2 * w.posts.length)).isSome
/-- need of two rounds, if the way gains -/
def Wy.lst (w : Wy) (i : Nat) : Option Int := if 0 ≤ w.surplus then (w.st i (2 * w.posts.length)).need else none
theorem walk_gone {w : Wy} {i : Nat} {o : Int} : ∀ {m n : Nat}, m ≤ n → w.walk i o m = none → w.walk i o n = none
  | m, 0, h, e => by
    have : m = 0 := by omega
    rw [this] at e
    exact e
  | m, n + 1, h, e => by
    by_cases h2 : m = n + 1
    · rw [← h2]
      exact e
    · have := walk_gone (m := m) (n := n) (by omega) e
      simp only [Wy.walk, this]
      rfl
/-- a way that loses: less is left with each round -/
theorem loses {w : Wy} (ok : w.ok) (hs : w.surplus < 0) {i : Nat} {o : Int} (ho : 0 ≤ o) : ∀ {k : Nat} {r : Int}, w.walk i o (w.posts.length * k) = some r → r ≤ o - k
  | 0, r, h => by
    cases h
    omega
  | k + 1, r, h => by
    have hn := ok.n1
    rw [Nat.mul_succ, walk_add] at h
    cases h1 : w.walk i o (w.posts.length * k) with
    | none =>
      rw [h1] at h
      cases h
    | some u =>
      rw [h1] at h
      have hu := walk_nonneg ho h1
      have ih := loses ok hs ho h1
      have h2 : w.walk (i + w.posts.length * k) u w.posts.length = some r := h
      rw [walk_per, ← st_call ok i hu hn] at h2
      have e := round_gain hn h2
      omega
theorem out_by {w : Wy} (ok : w.ok) {i : Nat} {o : Int} (h0 : 0 ≤ o) (h1 : o ≤ w.cap) (he : w.endless i o = false) : w.walk i o (w.posts.length * (w.cap.toNat + 3) + 1) = none := by
  have hn := ok.n1
  unfold Wy.endless at he
  by_cases hs : 0 ≤ w.surplus
  · rw [decide_eq_true hs, Bool.true_and] at he
    have e : w.walk i o (2 * w.posts.length) = none := by
      cases h : w.walk i o (2 * w.posts.length) with
      | none => rfl
      | some u =>
        rw [h] at he
        cases he
    refine walk_gone ?_ e
    have : w.posts.length * 3 ≤ w.posts.length * (w.cap.toNat + 3) := Nat.mul_le_mul_left _ (by omega)
    omega
  · have e : w.walk i o (w.posts.length * (w.cap.toNat + 1)) = none := by
      cases h : w.walk i o (w.posts.length * (w.cap.toNat + 1)) with
      | none => rfl
      | some u =>
        have a := loses ok (by omega) h0 h
        have b := walk_nonneg h0 h
        omega
    refine walk_gone ?_ e
    have : w.posts.length * (w.cap.toNat + 1) ≤ w.posts.length * (w.cap.toNat + 3) := Nat.mul_le_mul_left _ (by omega)
    omega
end Oil
set_option Elab.async false
set_option linter.all false
set_option maxRecDepth 100000
set_option maxHeartbeats 4000000
/-! set(l), l a list of ints, as the layer's sorted wants it. -/
namespace Oil
open PySem PySem.Spec PyProof.Rows L2
open Sem (wp)
section
variable {prog : Program} {w : World} {A : Around} {E : Value → Shared → Prop} {s : Shared}
/-- T(..): what __new__ makes, __init__ takes -/
theorem call_typeV {T newId initId : String} {args : List Value} {Q Made : Value → Shared → Prop} (ft : TypeCalled T newId initId) (hct : checkTypeCall T ⟨args, []⟩ = pure ())
    (hnew : codeAny (model prog w) A.in1 (.call (.builtin newId) ⟨.type T :: args, []⟩) (wants Made E) s)
    (hinit : ∀ o t, Made o t → t.TypeIs o T ∧ codeAny (model prog w) A.in1 (.call (.builtin initId) ⟨o :: args, []⟩) (wants (fun r t2 => r = .none ∧ Q o t2) E) t) : wpAny (model prog w) A (call (.type T) args) Q E s := by
  obtain ⟨top, rest, order⟩ := ft.mro
  have made := ft.made
  have below := ft.sub
  have plain := ft.notType
  have may := ft.canCreate
  refine wpAny_call (codeAny_of_tree ?_)
  show wpAny _ _ (callAny (.type T) _) _ _ _
  refine wpAny_pure ⟨Code.quiet_builtin _ (by decide +kernel), codeAny_builtin F.entry_type_call ?_⟩
  rw [Around.under_plain (weight_type_call_type T args []) (units_type_call_type T args [])]
  repeat (any_goals (first | assumption | wp_step))
  refine codeAny_mono hnew fun r t hr => ?_
  cases r with
  | error e => exact hr
  | ok fl =>
    cases fl with
    | ret o =>
      obtain ⟨ty, go⟩ := hinit o t hr
      have look := ft.init.lookup
      have bound := ft.init.bind o
      repeat (any_goals (first | assumption | wp_step))
      refine codeAny_mono go fun r t2 hr2 => ?_
      cases r with
      | error e => exact hr2
      | ok fl =>
        cases fl with
        | ret r =>
          obtain ⟨rfl, fin⟩ := hr2
          repeat (any_goals (first | assumption | wp_step))
        | _ => exact hr2.elim
    | _ => exact hr.elim
end
/-- a set just made -/
abbrev setNew (w : World) : Obj := { cls := .type "set", dict := none, data := .set #[] 0 (.fresh 0 0 (!w.params.followText "set-order")) }
section
variable {P : Program} {w : World} {A : Around} {s : Shared} {S l : Addr} {its : Array Value} {ks : List Int}
/-- its __init__, told a list of ints -/
theorem init_setL {R : Result → Shared → Prop} (free : A.handled = none) (hS : s.heap.get? S = some (setNew w)) (hl : s.heap.IsList l its) (iA : IntsAre its.toList ks) (room : ks.length + 1 < scanBound) (ne : l ≠ S)
    (q : ∀ (h2 : Heap) (tk c : Nat), SetR w h2 S (fun j => decide (j ∈ ks)) c → c ≤ ks.length → (∀ b o, b ≠ S → s.heap.get? b = some o → h2.get? b = some o) → R (.ok (.ret .none)) { s with heap := h2, toks := tk }) :
    codeAny (model P w) A (.call (.builtin "set.__init__") ⟨[.ref S, .ref l], []⟩) R s := by
  have ty : s.TypeIs (.ref S) "set" := ⟨_, hS, rfl⟩
  refine codeAny_call_builtin F.called_set.init.plain F.entry_set_init (check_set_init_1 ty ?_)
  have len : its.size = ks.length := by
    have z := IntsAre.length iA
    rwa [Array.length_toList] at z
  obtain ⟨ob, get, cl, room2, dat⟩ := id hl
  obtain ⟨c0, d0, x0, sl0⟩ := ob
  simp only at cl dat
  subst cl dat
  have n1 := F.sub_list_set
  have n2 := F.sub_list_frozenset
  have n3 : (Value.type "list" == Value.type "dict") = false := by decide
  unfold Builtin.«set.__init__» noKeywords Builtin.Frozenset.updateFrom
  generalize walker : pyIter = it
  wp_walk
  subst walker
  refine wpAny_pyIter_list hl ?_
  refine wpAny_bind (wpAny_runValue ?_)
  have sizeI : S < s.heap.objs.size := Heap.lt_size hS
  have sizeL : l < s.heap.objs.size := Heap.lt_size get
  have apart : l ≠ s.heap.objs.size := Nat.ne_of_lt sizeL
  have out : S ∉ [s.heap.objs.size, l] := by
    intro h
    rcases List.mem_cons.mp h with e | e
    · exact absurd e (Nat.ne_of_lt sizeI)
    · exact ne (List.mem_singleton.mp e).symm
  have each : ∀ (i : Nat) (v : Value), its[i]? = some v → ∃ k t, ks[i]? = some k ∧ v = .int k t := fun i v hv => by
    have hi : i < ks.length := len ▸ (Array.getElem?_eq_some_iff.mp hv).1
    obtain ⟨t, e⟩ := PyProof.Rows.IntsAre.int_at iA i v (by rw [Array.getElem?_toList]; exact hv)
    refine ⟨ks[i], t, List.getElem?_eq_getElem hi, e.trans ?_⟩
    rw [List.getD_eq_getElem?_getD, List.getElem?_eq_getElem hi]
    rfl
  refine set_update_ints ((Walks.list (by simp [free]) _ l apart its).toS) S out ks len room each (its.size - 0) 0 _ (by omega) (Nat.zero_le _) ⟨⟨_, Heap.get?_push_size _ rfl, rfl, rfl⟩, hl.push _⟩ ⟨0, Nat.le_refl 0, setR_new_at (Heap.get?_push_of_some _ hS)⟩ fun s2 c mv hc hR => ?_
  obtain ⟨h2, g2, d2, tk2, o2⟩ := s2
  have eg := mv.gens
  have ed := mv.drawn
  have eo := mv.os
  simp only at eg ed eo
  subst eg ed eo
  refine wpAny_pure (wpAny_pure (q h2 tk2 c hR (len ▸ hc) fun b o hb e => mv.heap b o (fun h => ?_) (Heap.get?_push_of_some _ e)))
  rcases List.mem_cons.mp h with e2 | e2
  · exact hb e2
  · exact absurd (List.mem_singleton.mp e2) (Nat.ne_of_lt (Heap.lt_size e))
theorem call_setL {E : Value → Shared → Prop} {Q : Value → Shared → Prop} (free : A.handled = none) (hl : s.heap.IsList l its) (iA : IntsAre its.toList ks) (room : ks.length + 1 < scanBound)
    (q : ∀ (h2 : Heap) (tk c : Nat), SetR w h2 s.heap.objs.size (fun j => decide (j ∈ ks)) c → c ≤ ks.length → (∀ b o, s.heap.get? b = some o → h2.get? b = some o) → Q (.ref s.heap.objs.size) { s with heap := h2, toks := tk }) :
    wpAny (model P w) A (call (.type "set") [.ref l]) Q E s := by
  refine call_typeV (Made := fun o t => o = .ref s.heap.objs.size ∧ t = { s with heap := s.heap.push (setNew w) }) F.called_set (F.typeCall_set_1 (.ref l)) (code_set_led1 (.ref l) ⟨rfl, rfl⟩) fun o t ⟨eo, et⟩ => ?_
  subst eo et
  have at_ : (s.heap.push (setNew w)).get? s.heap.objs.size = some (setNew w) := Heap.get?_push_size _ rfl
  have lt : l < s.heap.objs.size := by
    obtain ⟨ob, get, _⟩ := hl
    exact Heap.lt_size get
  refine ⟨⟨_, at_, rfl⟩, init_setL (by simp [free]) at_ (hl.push _) iA room (Nat.ne_of_lt lt) fun h2 tk c hR hc k => ⟨rfl, q h2 tk c hR hc fun b o e => k b o (Nat.ne_of_lt (Heap.lt_size e)) (Heap.get?_push_of_some _ e)⟩⟩
end
section
variable {X : Cx}
/-- set(l), by values -/
theorem cr_setL (hc : X.calm = true) : CallR X (.type "set") (fun vs H Q => ∃ (a : Addr) (ns : List Int), vs = [V.ref a] ∧ SqL X.K H a (ns.map V.int) ∧ ns.length < 60 ∧
    ∀ H2 p n, Same H H2 → H2 p = some (SetO X.w p (fun j => decide (j ∈ ns)) n) → n ≤ ns.length → Q (.ref p) H2) := by
  intro pins s σ H vs us Q I r h
  obtain ⟨a, ns, rfl, hs, hn, q⟩ := h
  obtain ⟨its, rv, hl, _⟩ := I.list hs
  rw [Vals.ref1 r]
  refine call_setL (I.ok.hd hc) hl.isList rv.ints (by unfold scanBound; omega) fun h2 tk c R1 hc2 k => ?_
  have hp := I.hok.fresh (Nat.le_refl s.heap.objs.size)
  exact ⟨.ref s.heap.objs.size, _, I.laid (t' := tk) (o := SetO X.w s.heap.objs.size (fun j => decide (j ∈ ns)) c) k (Nat.le_refl _) (setO_new R1), rfl, q _ _ c (same_upd hp) upd_same hc2⟩
end
end Oil
set_option Elab.async false
set_option linter.all false
set_option maxRecDepth 100000
set_option maxHeartbeats 2000000
/-! Comprehensions with a test. -/
namespace Oil
open PySem PySem.Spec PyProof.Rows L2
section
variable {X : Cx} {σ : L2.St} {H : Hp} {Q : VK} {D : Ends} {pos cpos p p2 : Pos} {tg iter elt c : Expr} {scope : Scope} {own : List (Str × Nat)}
abbrev blkC' (X : Cx) (scope : Scope) (c : Expr) : TT := fun σ H Q => ∀ Y, IsBlk X scope Y → BV Y c σ H Q
/-- a turn: the test, the element, appended -/
def LcTi (X : Cx) (scope : Scope) (own : List (Str × Nat)) (tg c elt : Expr) (σ : L2.St) (D : Addr) (x : V) (H : Hp) (Nx : Hp → Prop) : Prop :=
  ∀ Y, IsBlk X scope Y → GV Y tg x (wipe σ (own.map (·.2))) H fun σ2 H2 => wipe σ2 (own.map (·.2)) = wipe σ (own.map (·.2)) ∧ ∀ Y, IsBlk X scope Y → TV Y c σ2 H2 (fun H3 => ∀ Y, IsBlk X scope Y → EV Y elt σ2 H3 fun y H4 => ∃ acc, H4 D = some (.lst acc) ∧ acc.length < sizeLine ∧ Nx (upd H4 D (.lst (acc ++ [y])))) Nx
theorem lc_onei {x : V} {D : Addr} {σ : L2.St} {H : Hp} {Nx : Hp → Prop} (h : LcTi X scope own tg c elt σ D x H Nx) :
    blkG X scope tg x (wipe σ (own.map (·.2))) H fun σ2 H2 => wipe σ2 (own.map (·.2)) = wipe σ (own.map (·.2)) ∧ blkC' X scope c σ2 H2 fun b H3 =>
      if b = true then blkE X scope elt σ2 H3 fun y H4 => ∃ acc, H4 D = some (.lst acc) ∧ acc.length < sizeLine ∧ Nx (upd H4 D (.lst (acc ++ [y]))) else Nx H3 := by
  intro Y hY
  refine GV.mono (h Y hY) fun σ2 H2 ⟨e, q⟩ => ⟨e, fun Y2 hY2 => BV.mono (q Y2 hY2) fun b H3 z => ?_⟩
  cases b with
  | true =>
    have z' : (if true = true then blkE X scope elt σ2 H3 fun y H4 => ∃ acc, H4 D = some (.lst acc) ∧ acc.length < sizeLine ∧ Nx (upd H4 D (.lst (acc ++ [y]))) else Nx H3) := iteT (B := Nx H3) z
    exact z'
  | false =>
    have z' : (if false = true then blkE X scope elt σ2 H3 fun y H4 => ∃ acc, H4 D = some (.lst acc) ∧ acc.length < sizeLine ∧ Nx (upd H4 D (.lst (acc ++ [y]))) else Nx H3) := iteF z
    exact z'
theorem blk_pts1 : ∀ (s : Shared) (H : Hp) (C : Addr) (cl : List (Str × Addr)) (fp : List Addr), PTs (X.blk s H scope (compEnvC scope cl C X.env) fp) [c] (blkC' X scope c) :=
  fun s0 H0 C cl fp => pts_one ⟨fun pins s σ H Q I h => h _ ⟨s0, H0, C, cl, fp, rfl⟩ pins s I⟩
def LcLi (X : Cx) (scope : Scope) (own : List (Str × Nat)) (tg c elt : Expr) (σ : L2.St) (Q : VK) (xs : List V) (K : Hp → Prop) (H1 : Hp) : Prop :=
  ∀ D, H1 D = none → ∃ Pv : Nat → Hp → Prop, Pv 0 (upd H1 D (.lst [])) ∧ (∀ i H, i ≤ xs.length → Pv i H → K H) ∧ (∀ i x H, xs[i]? = some x → Pv i H → LcTi X scope own tg c elt σ D x H (Pv (i + 1))) ∧ ∀ H, Pv xs.length H → Q (.ref D) H
def LcRi (X : Cx) (scope : Scope) (own : List (Str × Nat)) (tg c elt : Expr) (σ : L2.St) (Q : VK) (n : Nat) (H1 : Hp) : Prop :=
  ∀ D, H1 D = none → ∃ Pv : Nat → Hp → Prop, Pv 0 (upd H1 D (.lst [])) ∧ (∀ i H, i < n → Pv i H → LcTi X scope own tg c elt σ D (.int (i : Int)) H (Pv (i + 1))) ∧ ∀ H, Pv n H → Q (.ref D) H
theorem lcl_rangei {n : Expr} (q : EV X n σ H fun x H1 => ∃ m : Int, x = .int m ∧ -(2 ^ 62) ≤ m ∧ m < 2 ^ 62 ∧ LcRi X scope own tg c elt σ Q m.toNat H1) : tLc (iRng1 (tCons (EV X n) tNil)) (blkG X scope tg) (blkC' X scope c) (blkE X scope elt) (own.map (·.2)) σ H Q := by
  refine EV.mono q fun x H1 ⟨m, ex, h1, h2, hD⟩ => ⟨m, by rw [ex], h1, h2, fun D hn => ?_⟩
  obtain ⟨Pv, h0, hs, hd⟩ := hD D hn
  have z := lc_range (lo := 0) (n := m.toNat) (g := blkG X scope tg) (tt := blkC' X scope c) (te := blkE X scope elt) (vs := own.map (·.2)) (σ := σ) (H1 := H1) (D := D) (Qd := fun H => Q (.ref D) H) Pv h0 (fun i H hi hp => by rw [Int.zero_add]; exact lc_onei (hs i H hi hp)) hd
  exact z
theorem lcl_listi (q : EV X iter σ H fun x H1 => ∃ a xs, x = .ref a ∧ SqL X.K H1 a xs ∧ LcLi X scope own tg c elt σ Q xs (fun H => SqL X.K H a xs) H1) : tLc (iList X.K (EV X iter)) (blkG X scope tg) (blkC' X scope c) (blkE X scope elt) (own.map (·.2)) σ H Q := by
  refine EV.mono q fun x H1 ⟨a, xs, ex, hl, hD⟩ => ⟨a, ex, ⟨xs, hl⟩, fun D hn => ?_⟩
  obtain ⟨Pv, h0, hk, hs, hd⟩ := hD D hn
  have z := lc_list (K := X.K) (a := a) (xs := xs) (g := blkG X scope tg) (tt := blkC' X scope c) (te := blkE X scope elt) (vs := own.map (·.2)) (σ := σ) (H1 := H1) (D := D) (Qd := fun H => Q (.ref D) H) Pv h0 hk (fun i x H hx hp => lc_onei (hs i x H hx hp)) hd
  exact z
/-- [elt for tg in range(n) if c] -/
theorem ev_lcRi (own : List (Str × Nat)) (hc : X.calm = true) (hN : X.N.Nodup) (hm : X.mg "range" = none) {n : Expr} (q : EV X n σ H fun x H1 => ∃ m : Int, x = .int m ∧ -(2 ^ 62) ≤ m ∧ m < 2 ^ 62 ∧ LcRi X scope own tg c elt σ Q m.toNat H1)
    (hg : Gl X "range" := by rfl) (h1 : starEach [n] X.env = (false, eval n X.env) :: starEach [] X.env := by rfl) (hst : starEach [n] X.env = [(false, eval n X.env)] := by rfl)
    (ok : BlkOk X.N X.env.scope scope own := by exact blkOk_by (by kernel_rfl)) (hs : ∀ x, foldedSetIterable (.Call (.Name "range" p) [n] [] p2) X.env x = pure x := by intro _; rfl) : EV X (.ListComp elt [⟨tg, .Call (.Name "range" p) [n] [] p2, [c], 0⟩] scope pos) σ H Q :=
  EV.of (pe_lc hc hN (pi_range1 hg hm (pa_cons pe_ev pa_nil h1) hst) ok blk_pg blk_pts1 blk_pe hs) (lcl_rangei q)
theorem ev_lcLi (own : List (Str × Nat)) (hc : X.calm = true) (hN : X.N.Nodup) (q : EV X iter σ H fun x H1 => ∃ a xs, x = .ref a ∧ SqL X.K H1 a xs ∧ LcLi X scope own tg c elt σ Q xs (fun H => SqL X.K H a xs) H1)
    (ok : BlkOk X.N X.env.scope scope own := by exact blkOk_by (by kernel_rfl)) (hs : ∀ x, foldedSetIterable iter X.env x = pure x := by intro _; rfl) : EV X (.ListComp elt [⟨tg, iter, [c], 0⟩] scope pos) σ H Q :=
  EV.of (pe_lc hc hN (pi_list pe_ev) ok blk_pg blk_pts1 blk_pe hs) (lcl_listi q)
end
/-! ### lists of ints as data -/
def dI (ns : List Int) : PyData := .list (ns.map .int)
theorem dp_intsA {K : PySem.W.Frag} {H : Hp} : ∀ ns : List Int, DpAll K H (ns.map V.int) (ns.map PyData.int)
  | [] => .nil
  | n :: ns => .cons (.int n) (dp_intsA ns)
theorem dp_ints {K : PySem.W.Frag} {H : Hp} {a : Addr} {ns : List Int} (h : SqL K H a (ns.map V.int)) : Dp K H (.ref a) (dI ns) := .lst h (dp_intsA ns)
theorem ints_lay : ∀ ns : List Int, PyData.canLayAll0 (ns.map PyData.int) = true
  | [] => by simp [PyData.canLayAll0]
  | z :: zs => by simp [PyData.canLayAll0, PyData.canLay0, ints_lay zs]
theorem ints_depth : ∀ ns : List Int, PyData.depthAll (ns.map PyData.int) = 0
  | [] => by simp [PyData.depthAll]
  | z :: zs => by
    have h := ints_depth zs
    simp only [List.map_cons, PyData.depthAll, PyData.depth]
    omega
theorem ints_shaped (ns : List Int) : SeqAt.shaped (dI ns) = true := by
  have h1 := ints_depth ns
  have h2 : PyData.depth (dI ns) ≤ 64 := by
    simp only [dI, PyData.depth]
    omega
  show (PyData.canLay0 (dI ns) && decide (PyData.depth (dI ns) ≤ 64)) = true
  rw [Bool.and_eq_true]
  exact ⟨by simp only [dI, PyData.canLay0]; exact ints_lay ns, decide_eq_true h2⟩
theorem intsA_eqv : ∀ a b : List Int, PyData.eqvAll (a.map PyData.int) (b.map PyData.int) = decide (a = b)
  | [], [] => by simp [PyData.eqvAll]
  | [], _ :: _ => by simp [PyData.eqvAll]
  | _ :: _, [] => by simp [PyData.eqvAll]
  | x :: a, y :: b => by
    simp only [List.map_cons, PyData.eqvAll, intsA_eqv a b, PyData.eqv]
    simp [Bool.decide_and, Bool.beq_eq_decide_eq]
theorem ints_eqv (a b : List Int) : PyData.eqv (dI a) (dI b) = decide (a = b) := by
  simp only [dI, PyData.eqv]
  exact intsA_eqv a b
end Oil
set_option Elab.async false
set_option linter.all false
set_option maxRecDepth 100000
set_option maxHeartbeats 2000000
/-! Plain laws: what stretches lack, capacities. -/
namespace Oil
open PySem PySem.Spec PyProof.Rows L2
/-- what n legs from i lack -/
def Wy.lack (w : Wy) (i : Nat) : Nat → Int
  | 0 => 0
  | n + 1 => w.lack i n + ((w.at (i + n)).2 - (if n = 0 then 0 else (w.at (i + n)).1))
theorem lack_one (w : Wy) (i : Nat) : w.lack i 1 = (w.at i).2 := by
  simp [Wy.lack]
theorem lack_succ (w : Wy) (i : Nat) {n : Nat} (h : 1 ≤ n) : w.lack i (n + 1) = w.lack i n + ((w.at (i + n)).2 - (w.at (i + n)).1) := by
  show w.lack i n + ((w.at (i + n)).2 - (if n = 0 then 0 else (w.at (i + n)).1)) = _
  rw [if_neg (by omega)]
theorem lack_mod (w : Wy) (i : Nat) : ∀ n, w.lack (i % w.posts.length) n = w.lack i n
  | 0 => rfl
  | n + 1 => by
    have e : w.at (i % w.posts.length + n) = w.at (i + n) := by
      rw [← at_mod w (i % w.posts.length + n), Nat.mod_add_mod, at_mod]
    simp only [Wy.lack, lack_mod w i n, e]
theorem lack_more (w : Wy) (i : Nat) {n : Nat} (h : 1 ≤ n) : ∀ m, w.lack i (n + m) = w.lack i n - w.nets (i + n) m
  | 0 => by simp [Wy.nets]
  | m + 1 => by
    have ih := lack_more w i h m
    rw [← Nat.add_assoc, lack_succ w i (by omega), ih]
    simp only [Wy.nets, Wy.net, Nat.add_assoc]
    omega
theorem lack_round (w : Wy) (i : Nat) {n : Nat} (h : 1 ≤ n) : w.lack i (n + w.posts.length) = w.lack i n - w.surplus := by
  rw [lack_more w i h, nets_surplus]
/-- the stretch of at most a round that lacks most; of several the shortest, then the first -/
structure Worst (w : Wy) (p n : Nat) : Prop where
  hp : p < w.posts.length
  n1 : 1 ≤ n
  n2 : n ≤ w.posts.length
  most : ∀ q m, q < w.posts.length → 1 ≤ m → m ≤ w.posts.length → w.lack q m < w.lack p n ∨ (w.lack q m = w.lack p n ∧ (n < m ∨ (n = m ∧ p ≤ q)))
theorem Worst.le {w : Wy} {p n : Nat} (h : Worst w p n) {q m : Nat} (hq : q < w.posts.length) (h1 : 1 ≤ m) (h2 : m ≤ w.posts.length) : w.lack q m ≤ w.lack p n := by
  rcases h.most q m hq h1 h2 with h | h <;> omega
theorem Worst.one {w : Wy} {p n q m : Nat} (a : Worst w p n) (b : Worst w q m) : p = q ∧ n = m := by
  have h1 := a.most q m b.hp b.n1 b.n2
  have h2 := b.most p n a.hp a.n1 a.n2
  omega
theorem Worst.all {w : Wy} {p n : Nat} (h : Worst w p n) (hs : 0 ≤ w.surplus) : ∀ (k m q : Nat), m ≤ k → 1 ≤ m → w.lack q m ≤ w.lack p n
  | 0, m, q, h0, h1 => absurd h1 (by omega)
  | k + 1, m, q, h0, h1 => by
    have hl : 0 < w.posts.length := Nat.lt_of_le_of_lt (Nat.zero_le _) h.hp
    by_cases hm : m ≤ w.posts.length
    · rw [← lack_mod w q m]
      exact h.le (Nat.mod_lt _ hl) h1 hm
    · have ih := Worst.all h hs k (m - w.posts.length) q (by omega) (by omega)
      have e := lack_round w q (n := m - w.posts.length) (by omega)
      rw [show m - w.posts.length + w.posts.length = m by omega] at e
      omega
/-- the same posts, another lantern -/
def Wy.hold (w : Wy) (c : Int) : Wy := ⟨c, w.posts⟩
theorem hold_at (w : Wy) (c : Int) (i : Nat) : (w.hold c).at i = w.at i := rfl
theorem hold_lack (w : Wy) (c : Int) (i : Nat) : ∀ n, (w.hold c).lack i n = w.lack i n
  | 0 => rfl
  | n + 1 => by
    simp only [Wy.lack, hold_lack w c i n, hold_at]
theorem hold_surplus (w : Wy) (c : Int) : (w.hold c).surplus = w.surplus := rfl
/-- a full lantern that holds the greatest lack never goes out -/
theorem full_goes {w : Wy} {p n : Nat} {c : Int} (hw : Worst w p n) (hs : 0 ≤ w.surplus) (hc : w.lack p n ≤ c) (ok : w.ok) (i : Nat) : ∀ m, ∃ u, (w.hold c).walk i c m = some u ∧ 0 ≤ u ∧ u ≤ c ∧
    ((m = 0 ∧ u = c) ∨ ∃ t k, t + k = m ∧ 1 ≤ k ∧ u = c - w.lack (i + t) k)
  | 0 => ⟨c, rfl, by
      have := hw.all hs 1 1 i (Nat.le_refl _) (Nat.le_refl _)
      rw [lack_one] at this
      have := (ok.at_ok i).2.2.1
      omega, Int.le_refl _, .inl ⟨rfl, rfl⟩⟩
  | m + 1 => by
    obtain ⟨u, hu, h0, h1, h2⟩ := full_goes hw hs hc ok i m
    have okp := ok.at_ok (i + m)
    obtain ⟨k1, k2, k3, k4⟩ := okp
    have one := hw.all hs 1 1 (i + m) (Nat.le_refl _) (Nat.le_refl _)
    rw [lack_one] at one
    have e : (w.hold c).walk i c (m + 1) = (w.hold c).step (i + m) u := by
      show ((w.hold c).walk i c m).bind _ = _
      rw [hu]
      rfl
    rw [e]
    unfold Wy.step
    rw [hold_at]
    show ∃ u', (if min c (u + (w.at (i + m)).1) < (w.at (i + m)).2 then none else some (min c (u + (w.at (i + m)).1) - (w.at (i + m)).2)) = some u' ∧ _
    by_cases hf : c ≤ u + (w.at (i + m)).1
    · rw [if_neg (by omega)]
      refine ⟨_, rfl, by omega, by omega, .inr ⟨m, 1, rfl, Nat.le_refl _, ?_⟩⟩
      rw [lack_one]
      omega
    · rcases h2 with ⟨_, e2⟩ | ⟨t, k, htk, hk, e2⟩
      · omega
      · have e3 := lack_succ w (i + t) hk
        rw [show i + t + k = i + m by omega] at e3
        have := hw.all hs (k + 1) (k + 1) (i + t) (Nat.le_refl _) (by omega)
        rw [if_neg (by omega)]
        refine ⟨_, rfl, by omega, by omega, .inr ⟨t, k + 1, by omega, by omega, ?_⟩⟩
        rw [e3]
        omega
/-- a full lantern has no more than what it does not lack -/
theorem full_less {w : Wy} {c : Int} (i : Nat) : ∀ {m : Nat} {u : Int}, 1 ≤ m → (w.hold c).walk i c m = some u → u ≤ c - w.lack i m
  | 0, u, h, _ => absurd h (by omega)
  | m + 1, u, _, hu => by
    have e : (w.hold c).walk i c (m + 1) = ((w.hold c).walk i c m).bind ((w.hold c).step (i + m)) := rfl
    rw [e] at hu
    cases h1 : (w.hold c).walk i c m with
    | none =>
      rw [h1] at hu
      cases hu
    | some v =>
      rw [h1] at hu
      have h2 : (w.hold c).step (i + m) v = some u := hu
      unfold Wy.step at h2
      rw [hold_at] at h2
      have h3 : (if min c (v + (w.at (i + m)).1) < (w.at (i + m)).2 then none else some (min c (v + (w.at (i + m)).1) - (w.at (i + m)).2)) = some u := h2
      split at h3
      · cases h3
      · injection h3 with h3
        by_cases hm : m = 0
        · subst hm
          rw [lack_one]
          rw [Nat.add_zero] at h3
          omega
        · have ih := full_less i (by omega) h1
          rw [lack_succ w i (by omega)]
          omega
theorem full_out {w : Wy} {p n : Nat} {c : Int} (hw : Worst w p n) (ok : (w.hold c).ok) (hc : c < w.lack p n) : (w.hold c).endless p c = false := by
  unfold Wy.endless
  have hn := hw.n2
  have h1 := hw.n1
  have c1 : 1 ≤ c := ok.c1
  have e : (w.hold c).walk p c n = none := by
    cases h : (w.hold c).walk p c n with
    | none => rfl
    | some u =>
      have := full_less p h1 h
      have := walk_nonneg (by omega) h
      omega
  have e2 : (w.hold c).walk p c (2 * (w.hold c).posts.length) = none := walk_gone (by show n ≤ 2 * w.posts.length; omega) e
  rw [e2]
  simp
theorem full_endless {w : Wy} {p n : Nat} {c : Int} (hw : Worst w p n) (ok : w.ok) (hs : 0 ≤ w.surplus) (hc : w.lack p n ≤ c) (i : Nat) : (w.hold c).endless i c = true := by
  unfold Wy.endless
  obtain ⟨u, hu, _⟩ := full_goes hw hs hc ok i (2 * (w.hold c).posts.length)
  rw [hu, hold_surplus, decide_eq_true hs]
  rfl
/-- a wider lantern, more oil: no less is left -/
theorem wider {w : Wy} {c : Int} (hc : w.cap ≤ c) (i : Nat) {o p : Int} (ho : o ≤ p) : ∀ {n : Nat} {u : Int}, w.walk i o n = some u → ∃ v, (w.hold c).walk i p n = some v ∧ u ≤ v
  | 0, u, h => by
    injection h with h
    exact ⟨p, rfl, by omega⟩
  | n + 1, u, h => by
    have e : w.walk i o (n + 1) = (w.walk i o n).bind (w.step (i + n)) := rfl
    rw [e] at h
    cases h1 : w.walk i o n with
    | none =>
      rw [h1] at h
      cases h
    | some x =>
      rw [h1] at h
      have h2 : w.step (i + n) x = some u := h
      obtain ⟨y, hy, hxy⟩ := wider hc i ho h1
      have e2 : (w.hold c).walk i p (n + 1) = (w.hold c).step (i + n) y := by
        show ((w.hold c).walk i p n).bind _ = _
        rw [hy]
        rfl
      rw [e2]
      unfold Wy.step at h2 ⊢
      rw [hold_at]
      show ∃ v, (if min c (y + (w.at (i + n)).1) < (w.at (i + n)).2 then none else some (min c (y + (w.at (i + n)).1) - (w.at (i + n)).2)) = some v ∧ u ≤ v
      split at h2
      · cases h2
      · injection h2 with h2
        rw [if_neg (by omega)]
        exact ⟨_, rfl, by omega⟩
/-- what lacks most, as a bound -/
theorem lack_le {w : Wy} (ok : w.ok) (i : Nat) : ∀ n, w.lack i n ≤ 1000000000 * n ∧ -(1000000000 * n) ≤ w.lack i n
  | 0 => by simp [Wy.lack]
  | n + 1 => by
    have ih := lack_le ok i n
    obtain ⟨k1, k2, k3, k4⟩ := ok.at_ok (i + n)
    simp only [Wy.lack]
    split <;> omega
/-- bounds of small ways -/
theorem lack_small {w : Wy} {b : Int} (h : ∀ i, 0 ≤ (w.at i).1 ∧ (w.at i).2 ≤ b) (i : Nat) : ∀ n : Nat, w.lack i n ≤ b * n
  | 0 => by simp [Wy.lack]
  | n + 1 => by
    have ih := lack_small h i n
    have := h (i + n)
    simp only [Wy.lack]
    have e : b * ((n + 1 : Nat) : Int) = b * n + b := by rw [Int.natCast_succ, Int.mul_add, Int.mul_one]
    rw [e]
    split <;> omega
end Oil
set_option Elab.async false
set_option linter.all false
set_option maxRecDepth 100000
set_option maxHeartbeats 2000000
/-! min(l), l a list of tuples of ints. -/
namespace Oil
open PySem PySem.Spec PyProof.Rows L2
/-! ### the order of tuples of ints -/
theorem lex_self : ∀ a : List Int, HT.lexLt a a = false
  | [] => rfl
  | x :: xs => by rw [HT.lexLt_cons, if_pos rfl, lex_self xs]
theorem lex_trans : ∀ {a b c : List Int}, HT.lexLt a b = true → HT.lexLt b c = true → HT.lexLt a c = true
  | [], [], _, h, _ => by cases h
  | [], _ :: _, [], _, h => by cases h
  | [], _ :: _, _ :: _, _, _ => rfl
  | _ :: _, [], _, h, _ => by cases h
  | _ :: _, _ :: _, [], _, h => by cases h
  | x :: xs, y :: ys, z :: zs, h, k => by
    rw [HT.lexLt_cons] at h k ⊢
    by_cases e : x = y
    · subst e
      rw [if_pos rfl] at h
      by_cases f : x = z
      · rw [if_pos f] at k ⊢
        exact lex_trans h k
      · rw [if_neg f] at k ⊢
        exact k
    · rw [if_neg e, decide_eq_true_eq] at h
      by_cases f : y = z
      · subst f
        rw [if_neg e]
        exact decide_eq_true h
      · rw [if_neg f, decide_eq_true_eq] at k
        rw [if_neg (by omega)]
        exact decide_eq_true (by omega)
theorem lex_best (f : Nat → List Int) : ∀ m, argBest (fun i j => HT.lexLt (f i) (f j)) m ≤ m ∧ ∀ j, j ≤ m → HT.lexLt (f j) (f (argBest (fun i j => HT.lexLt (f i) (f j)) m)) = false
  | 0 => ⟨Nat.le_refl 0, fun j h => by
    have e : j = 0 := by omega
    subst e
    exact lex_self _⟩
  | m + 1 => by
    obtain ⟨h1, h2⟩ := lex_best f m
    unfold argBest
    cases hb : HT.lexLt (f (m + 1)) (f (argBest (fun i j => HT.lexLt (f i) (f j)) m)) with
    | true =>
      rw [if_pos rfl]
      refine ⟨Nat.le_refl _, fun j hj => ?_⟩
      by_cases e : j = m + 1
      · subst e
        exact lex_self _
      · cases hz : HT.lexLt (f j) (f (m + 1)) with
        | false => rfl
        | true =>
          have := lex_trans hz hb
          rw [h2 j (by omega)] at this
          cases this
    | false =>
      rw [if_neg Bool.false_ne_true]
      refine ⟨by omega, fun j hj => ?_⟩
      by_cases e : j = m + 1
      · subst e
        exact hb
      · exact h2 j (by omega)
/-! ### the walk of min, over heaps in which what is compared still stands -/
section
variable {prog : Program} {w : World} {A : Around} {R : Result → Shared → Prop} {I S : Addr} {fp wr : List Addr} {n : Nat} {P : Nat → Value → Prop} {St : Nat → Heap → Prop} {G : Heap → Prop} {bt : Nat → Nat → Bool}
/-- the list in which min keeps its best -/
abbrev keepsBest (old : Array Value) (c : Nat) : Obj := { cls := .type "list", dict := none, data := .seq old c, slots := #[] }
theorem min_goes (W : Walks prog w A.in1 I fp wr n P St) (out : S ∉ fp) (n0 : 0 < n)
    (stay : ∀ {h h' : Heap}, G h → (∀ b o, b ∉ wr → b ≠ S → h.get? b = some o → h'.get? b = some o) → G h')
    (cmp : ∀ {i j : Nat} {v u : Value} {t : Shared} {Q E : Value → Shared → Prop}, G t.heap → P i v → P j u → Q (.bool (bt i j)) t → wpAny (model prog w) A.in1 (richCompare .Lt v u) Q E t) :
    ∀ (k : Nat) {i : Nat} {t : Shared} {old : Array Value} {c : Nat}, i + k = n → (i = 0 ∧ old = #[] ∨ 0 < i ∧ ∃ v, old = #[v, v] ∧ P (argBest bt (i - 1)) v) → St i t.heap → G t.heap → t.heap.get? S = some (keepsBest old c) →
    (∀ v h' tk, P (argBest bt (n - 1)) v → (∀ b o, b ∉ wr → b ≠ S → t.heap.get? b = some o → h'.get? b = some o) → R (.ok (.ret v)) { t with heap := h', toks := tk }) →
    codeAny (model prog w) A (.builtin "min.loop" ⟨[.ref I, .none, .ref S], []⟩) R t := by
  have hw : S ∉ wr := fun h => out (W.sub _ h)
  have nm : (toString "min" ++ toString ".loop" : String) = "min.loop" := by decide
  intro k
  induction k with
  | zero =>
    intro i t old c e ho st g hS q
    obtain ⟨v, rfl, pv⟩ : ∃ v, old = #[v, v] ∧ P (argBest bt (i - 1)) v := by
      rcases ho with ⟨e0, _⟩ | ⟨_, h⟩
      · omega
      · exact h
    obtain rfl : i = n := by omega
    refine codeAny_builtin F.entry_min_loop ?_
    rw [Around.under_plainId F.plain_min_loop]
    refine wpAny_bind (wpAny_seqItems hS rfl ?_)
    refine wpAny_bind (m := tryCatch (pyNext (.ref I)) _) (wpAny_tryCatch (W.done t _ _ st fun h1 t1 k1 => wpAny_bind (m := updateSeq S fun _ => #[]) ?_))
    exact wpAny_updateSeq (k1 S _ hw hS) rfl (wpAny_bind (wpAny_letGo (wpAny_pure (q v _ t1 pv fun b o hb hn e => by rw [Heap.get?_update_other _ _ (Ne.symm hn)]; exact k1 b o hb e))))
  | succ k ih =>
    intro i t old c e ho st g hS q
    -- from here on with v as the best
    have go : ∀ {v : Value} {h2 : Heap} {t2 c2 : Nat}, P (argBest bt i) v → St (i + 1) h2 → G h2 → h2.get? S = some (keepsBest #[v, v] c2) → (∀ b o, b ∉ wr → b ≠ S → t.heap.get? b = some o → h2.get? b = some o) →
        codeAny (model prog w) A (.builtin "min.loop" ⟨[.ref I, .none, .ref S], []⟩) R { t with heap := h2, toks := t2 } := fun pv s2 g2 hS2 k2 =>
      ih (i := i + 1) (by omega) (.inr ⟨by omega, _, rfl, pv⟩) s2 g2 hS2 fun v' h3 t3 p3 k3 => q v' h3 t3 p3 fun b o hb hn e => k3 b o hb hn (k2 b o hb hn e)
    refine codeAny_builtin F.entry_min_loop ?_
    rw [Around.under_plainId F.plain_min_loop]
    refine wpAny_bind (wpAny_seqItems hS rfl ?_)
    refine wpAny_bind (m := tryCatch (pyNext (.ref I)) _) (wpAny_tryCatch (W.item i t _ _ (by omega) st fun v h1 t1 pv s1 k1 => ?_))
    have hS1 := k1 S _ hw hS
    have g1 : G h1 := stay g fun b o hb _ e => k1 b o hb e
    obtain ⟨c2, new⟩ : ∃ c2, (h1.update S (Obj.mapSeq fun _ => #[v, v])).get? S = some (keepsBest #[v, v] c2) := ⟨_, Heap.get?_update_self (Obj.mapSeq fun _ => #[v, v]) hS1 rfl⟩
    have rest : ∀ b o, b ≠ S → h1.get? b = some o → (h1.update S (Obj.mapSeq fun _ => #[v, v])).get? b = some o := fun b o hb e => by rw [Heap.get?_update_other _ _ (Ne.symm hb)]; exact e
    have take : ∀ {t2 : Nat}, P (argBest bt i) v → codeAny (model prog w) A (.builtin "min.loop" ⟨[.ref I, .none, .ref S], []⟩) R { t with heap := h1.update S (Obj.mapSeq fun _ => #[v, v]), toks := t2 } := fun pv =>
      go pv (W.frame _ _ _ s1 fun b hb o e => rest b o (fun h => out (h ▸ hb)) e) (stay g1 fun b o _ hb e => rest b o hb e) new fun b o hb hn e => rest b o hn (k1 b o hb e)
    rcases ho with ⟨rfl, rfl⟩ | ⟨i0, vb, rfl, pb⟩
    · refine wpAny_bind (m := updateSeq S fun _ => #[v, v]) (wpAny_updateSeq hS1 rfl ?_)
      rw [nm]
      exact wpAny_pure ⟨plainId_quiet F.plain_min_loop _, take pv⟩
    · have best : argBest bt i = if bt i (argBest bt (i - 1)) = true then i else argBest bt (i - 1) := by
        obtain ⟨j, rfl⟩ : ∃ j, i = j + 1 := ⟨i - 1, by omega⟩
        rfl
      refine wpAny_bind (m := tryCatch (holding [v, v] (richCompare .Lt v vb >>= _)) _) (wpAny_tryCatch (wpAny_holding (wpAny_bind (cmp g1 pv pb ?_))))
      refine wpAny_bind (wpAny_holding (wpAny_truthy_bool (wpAny_bind (wpAny_letGo (wpAny_pure ?_)))))
      cases hb : bt i (argBest bt (i - 1)) with
      | true =>
        rw [hb, if_pos rfl] at best
        simp only [if_true]
        refine wpAny_bind (m := updateSeq S fun _ => #[v, v]) (wpAny_updateSeq hS1 rfl (wpAny_bind (wpAny_letGo ?_)))
        rw [nm]
        exact wpAny_pure ⟨plainId_quiet F.plain_min_loop _, take (by rw [best]; exact pv)⟩
      | false =>
        rw [hb, if_neg Bool.false_ne_true] at best
        simp only [Bool.false_eq_true, if_false]
        refine wpAny_bind (wpAny_letGo ?_)
        rw [nm]
        exact wpAny_pure ⟨plainId_quiet F.plain_min_loop _, go (by rw [best]; exact pb) s1 g1 hS1 fun b o hb _ e => k1 b o hb e⟩
end
section
variable {X : Cx} {k : Nat} {E : XK}
/-- min(l), by values -/
theorem cr_minT (C : Cal X k E) : CallR X (.builtin "min") (fun vs H Q => ∃ (a : Addr) (xs : List V) (f : Nat → List Int), vs = [V.ref a] ∧ SqL X.K H a xs ∧ 0 < xs.length ∧ (∀ i x, xs[i]? = some x → ∃ p, x = .ref p ∧ SqT X.K H p ((f i).map V.int)) ∧
    ∀ i x, xs[i]? = some x → (∀ j, j < xs.length → HT.lexLt (f j) (f i) = false) → Q x H) := by
  intro pins s σ H vs us Q I r h
  obtain ⟨a, xs, f, rfl, hs, n0, hx, q⟩ := h
  obtain ⟨its, rv, hl, _⟩ := I.list hs
  have hlen := rv.length
  rw [Vals.ref1 r]
  have nm : (toString "min" ++ toString ".loop" : String) = "min.loop" := by decide
  refine call_function_tree F.kind_min F.plain_min F.entry_min (F.args_min1 _) ?_
  refine wpAny_bind (m := Builtin.Builtins.bindParams "min" ["key", "default"] 0 ⟨[], []⟩) (wpAny_of_eq (show Builtin.Builtins.bindParams "min" ["key", "default"] 0 ⟨[], []⟩ = pure [none, none] from rfl) ?_)
  refine wpAny_bind (wpAny_pure (wpAny_bind (wpAny_pyIter_list hl.isList (wpAny_bind (wpAny_newObj_type ?_)))))
  rw [nm]
  have lt : a < s.heap.objs.size := by
    obtain ⟨ob, get, _⟩ := hl.isList
    exact Heap.lt_size get
  have far : a ≠ s.heap.objs.size := Nat.ne_of_lt lt
  let it : Obj := { cls := .type "list_iterator", data := .fields #[.ref a, .int 0 0] }
  have zi : (s.heap.push it).objs.size = s.heap.objs.size + 1 := Heap.size_push ..
  have old : ∀ {b o}, s.heap.get? b = some o → b ≠ s.heap.objs.size ∧ b ≠ s.heap.objs.size + 1 := fun e => ⟨Nat.ne_of_lt (Heap.lt_size e), Nat.ne_of_lt (Nat.lt_succ_of_lt (Heap.lt_size e))⟩
  have nsz : its.toArray.size = xs.length := by rw [List.size_toArray]; omega
  have W := Walks.list (prog := X.prog) (w := X.w) (A := X.A.in1) (I.ok.hd C.calm) s.heap.objs.size a far its.toArray
  refine wpAny_pure ⟨plainId_quiet F.plain_min_loop _, min_goes (S := (s.heap.push it).objs.size) (G := fun h => ∀ b o, s.heap.get? b = some o → h.get? b = some o) (bt := fun i j => HT.lexLt (f i) (f j)) W ?_ ?_ ?_ ?_ its.toArray.size (i := 0) (Nat.zero_add _) (.inl ⟨rfl, rfl⟩) ⟨⟨_, Heap.get?_push_of_some _ (Heap.get?_push_size _ rfl), rfl, rfl⟩, (hl.isList.push _).push _⟩ ?_ (Heap.get?_push_size _ rfl) ?_⟩
  · rw [zi]
    intro h
    rcases List.mem_cons.mp h with e | e
    · exact absurd e (Nat.succ_ne_self _)
    · exact absurd (List.mem_singleton.mp e) (Nat.ne_of_gt (Nat.lt_succ_of_lt lt))
  · rw [nsz]
    exact n0
  · intro h h' g k b o e
    obtain ⟨o1, o2⟩ := old e
    exact k b o (by simpa using o1) (by rw [zi]; exact o2) (g b o e)
  · intro i j v u t Q' E' g hv hu hq
    have tup : ∀ {i : Nat} {v : Value}, its.toArray[i]? = some v → ∃ p ms, v = .ref p ∧ IsTup t.heap p ms ∧ IntsAre ms.toList (f i) := fun {i v} hv => by
      have hv' : its[i]? = some v := by simpa using hv
      have hi : i < xs.length := by
        have := (List.getElem?_eq_some_iff.mp hv').1
        omega
      obtain ⟨p, ep, hp⟩ := hx i xs[i] (List.getElem?_eq_getElem hi)
      obtain ⟨u, hu, ru⟩ := rv.get (List.getElem?_eq_getElem hi)
      rw [hv'] at hu
      cases hu
      rw [ep] at ru
      obtain ⟨ms, r, hT, _⟩ := I.tuple hp
      obtain ⟨ob, get, z⟩ := hT
      exact ⟨p, ms.toArray, ru, ⟨ob, g _ _ get, z⟩, intsAre_of r⟩
    obtain ⟨p, ms, rfl, h1, i1⟩ := tup hv
    obtain ⟨p', ms', rfl, h2, i2⟩ := tup hu
    exact HT.lt_tupInts h1 h2 i1 i2 (by have := C.hr.units; show X.A.units + 1 < cLine; omega) hq
  · exact fun b o e => Heap.get?_push_of_some _ (Heap.get?_push_of_some _ e)
  · intro v h' tk pv k
    have pv' : its[argBest (fun i j => HT.lexLt (f i) (f j)) (its.toArray.size - 1)]? = some v := by simpa using pv
    obtain ⟨h1, h2⟩ := lex_best f (its.toArray.size - 1)
    have hi : argBest (fun i j => HT.lexLt (f i) (f j)) (its.toArray.size - 1) < xs.length := by omega
    obtain ⟨u, hu, ru⟩ := rv.get (List.getElem?_eq_getElem hi)
    rw [pv'] at hu
    cases hu
    exact ⟨_, H, I.kept fun b o e => by
      obtain ⟨o1, o2⟩ := old e
      exact k b o (by simpa using o1) (by rw [zi]; exact o2) (Heap.get?_push_of_some _ (Heap.get?_push_of_some _ e)), ru, q _ _ (List.getElem?_eq_getElem hi) fun j hj => h2 j (by omega)⟩
end
end Oil
set_option Elab.async false
set_option linter.all false
set_option maxRecDepth 100000
set_option maxHeartbeats 2000000
/-! x += e; comprehensions over range(a, b), over tuples with a test; max, min of a list of ints. -/
namespace Oil
open PySem PySem.Spec PyProof.Rows L2
section
variable {X : Cx} {σ : L2.St} {H : Hp} {Q : VK} {D : Ends} {pos cpos p p2 : Pos} {tg iter elt c e a b : Expr} {scope : Scope} {own : List (Str × Nat)}
theorem sv_aug {op : Operator} {ti : TIp} {x : Str} {pos' : Pos} (i : Nat) (ho : PIp X op ti) (hN : X.N.Nodup) (q : ∃ x0, σ[i]? = some (some x0) ∧ EV X e σ H fun y H1 => ti x0 y H1 fun z H2 => D.nx (σ.set i (some z)) H2)
    (hi : X.N[i]? = some x := by rfl) (hx : Loc X.env.scope x := by first | exact Or.inl rfl | exact Or.inr rfl) (hf : X.fn x = true ∨ X.env.scope.names.lookup x = some .local := by first | exact .inl rfl | exact .inr rfl) :
    SV X (.AugAssign (.Name x pos') op e pos) σ H D := SV.of (ps_aug hN hi hx pe_ev ho hf) q
def LcN (X : Cx) (scope : Scope) (own : List (Str × Nat)) (tg elt : Expr) (σ : L2.St) (Q : VK) (lo : Int) (n : Nat) (H1 : Hp) : Prop :=
  ∀ D, H1 D = none → ∃ Pv : Nat → Hp → Prop, Pv 0 (upd H1 D (.lst [])) ∧ (∀ i H, i < n → Pv i H → LcT X scope own tg elt σ D (.int (lo + (i : Int))) H (Pv (i + 1))) ∧ ∀ H, Pv n H → Q (.ref D) H
theorem lcl_range2 (q : EV X a σ H fun x H1 => EV X b σ H1 fun y H2 => ∃ l m : Int, x = .int l ∧ y = .int m ∧ (-(2 ^ 62) ≤ l ∧ l < 2 ^ 62 ∧ -(2 ^ 62) ≤ m ∧ m < 2 ^ 62) ∧ LcN X scope own tg elt σ Q l (m - l).toNat H2) :
    tLc (iRng2 (tCons (EV X a) (tCons (EV X b) tNil))) (blkG X scope tg) tYes (blkE X scope elt) (own.map (·.2)) σ H Q := by
  refine EV.mono q fun x H1 q1 => EV.mono q1 fun y H2 ⟨l, m, ex, ey, hb, hD⟩ => ⟨l, m, by rw [ex, ey], hb, fun D hn => ?_⟩
  obtain ⟨Pv, h0, hs, hd⟩ := hD D hn
  have z := lc_range (lo := l) (n := (m - l).toNat) (g := blkG X scope tg) (tt := tYes) (te := blkE X scope elt) (vs := own.map (·.2)) (σ := σ) (H1 := H2) (D := D) (Qd := fun H => Q (.ref D) H) Pv h0 (fun i H hi hp => lc_one (hs i H hi hp)) hd
  exact z
/-- [elt for tg in range(a, b)] -/
theorem ev_lcN (own : List (Str × Nat)) (hc : X.calm = true) (hN : X.N.Nodup) (hm : X.mg "range" = none) (q : EV X a σ H fun x H1 => EV X b σ H1 fun y H2 => ∃ l m : Int, x = .int l ∧ y = .int m ∧ (-(2 ^ 62) ≤ l ∧ l < 2 ^ 62 ∧ -(2 ^ 62) ≤ m ∧ m < 2 ^ 62) ∧ LcN X scope own tg elt σ Q l (m - l).toNat H2)
    (hg : Gl X "range" := by rfl) (hst : starEach [a, b] X.env = [(false, eval a X.env), (false, eval b X.env)] := by rfl) (hst2 : starEach [b] X.env = [(false, eval b X.env)] := by rfl)
    (h1 : starEach [a, b] X.env = (false, eval a X.env) :: starEach [b] X.env := by rfl) (h2 : starEach [b] X.env = (false, eval b X.env) :: starEach [] X.env := by rfl)
    (ok : BlkOk X.N X.env.scope scope own := by exact blkOk_by (by kernel_rfl)) (hs : ∀ x, foldedSetIterable (.Call (.Name "range" p) [a, b] [] p2) X.env x = pure x := by intro _; rfl) : EV X (.ListComp elt [⟨tg, .Call (.Name "range" p) [a, b] [] p2, [], 0⟩] scope pos) σ H Q :=
  EV.of (pe_lc hc hN (pi_range2 hg hm (pa_cons pe_ev (pa_cons pe_ev pa_nil h2) h1) hst hst2) ok blk_pg blk_pts blk_pe hs) (lcl_range2 q)
theorem lcl_tupi (q : EV X iter σ H fun x H1 => ∃ a xs, x = .ref a ∧ SqT X.K H1 a xs ∧ LcLi X scope own tg c elt σ Q xs (fun H => SqT X.K H a xs) H1) : tLc (iTup X.K (EV X iter)) (blkG X scope tg) (blkC' X scope c) (blkE X scope elt) (own.map (·.2)) σ H Q := by
  refine EV.mono q fun x H1 ⟨a, xs, ex, hl, hD⟩ => ⟨a, ex, ⟨xs, hl⟩, fun D hn => ?_⟩
  obtain ⟨Pv, h0, hk, hs, hd⟩ := hD D hn
  have z := lc_tup (K := X.K) (a := a) (xs := xs) (g := blkG X scope tg) (tt := blkC' X scope c) (te := blkE X scope elt) (vs := own.map (·.2)) (σ := σ) (H1 := H1) (D := D) (Qd := fun H => Q (.ref D) H) Pv h0 hk (fun i x H hx hp => lc_onei (hs i x H hx hp)) hd
  exact z
/-- [x for x in range(n) if c], c by g -/
theorem lc_filt {x : Str} {q1 q2 : Pos} {H1 : Hp} (m : Nat) (g : Nat → Bool) (n : Nat) (hn : n ≤ 1000)
    (ht : ∀ Y (i : Nat) H', IsBlk X scope Y → i < n → Same H1 H' → TV Y c ((wipe σ (own.map (·.2))).set m (some (.int (i : Nat)))) H' (fun H3 => g i = true ∧ Same H' H3) (fun H3 => g i = false ∧ Same H' H3))
    (q : ∀ H' D, Same H1 H' → H1 D = none → H' D = some (.lst ((((List.range n).filter g).map fun z : Nat => (z : Int)).map V.int)) → Q (.ref D) H')
    (hg : ∀ Y, IsBlk X scope Y → ∀ (v : V) (σ : L2.St) (H : Hp) (R : L2.St → Hp → Prop), R (σ.set m (some v)) H → GV Y (.Name x q1) v σ H R)
    (he : ∀ Y, IsBlk X scope Y → ∀ (v : V) (H : Hp) (R : VK), R v H → EV Y (.Name x q2) ((wipe σ (own.map (·.2))).set m (some v)) H R)
    (hw : ∀ v : V, wipe ((wipe σ (own.map (·.2))).set m (some v)) (own.map (·.2)) = wipe σ (own.map (·.2)) := by intro _; rfl) : LcRi X scope own (.Name x q1) c (.Name x q2) σ Q n H1 := by
  intro D zD
  have len : ∀ i, ((List.range i).filter g).length ≤ i := fun i => Nat.le_trans (List.length_filter_le _ _) (by rw [List.length_range]; exact Nat.le_refl i)
  refine ⟨fun i H' => Same H1 H' ∧ H' D = some (.lst ((((List.range i).filter g).map fun z : Nat => (z : Int)).map V.int)), ⟨fun b o e => by rw [upd_ne (ne_of_none e zD)]; exact e, upd_same⟩, fun i H' hi hp => ?_, fun H' hp => q H' D hp.1 zD hp.2⟩
  obtain ⟨S, hD⟩ := hp
  intro Y hY
  refine hg Y hY _ _ _ _ ⟨hw _, fun Y2 hY2 => ?_⟩
  have e : (List.range (i + 1)).filter g = (List.range i).filter g ++ if g i = true then [i] else [] := by
    rw [List.range_succ, List.filter_append, List.filter_cons, List.filter_nil]
  refine BV.mono (ht Y2 i H' hY2 hi S) fun b H3 z => ?_
  cases b with
  | true =>
    obtain ⟨z1, z2⟩ : g i = true ∧ Same H' H3 := z
    have goal : ∀ Y, IsBlk X scope Y → EV Y (.Name x q2) ((wipe σ (own.map (·.2))).set m (some (.int (i : Nat)))) H3 fun y H4 => ∃ acc, H4 D = some (.lst acc) ∧ acc.length < sizeLine ∧ (Same H1 (upd H4 D (.lst (acc ++ [y]))) ∧ (upd H4 D (.lst (acc ++ [y]))) D = some (.lst ((((List.range (i + 1)).filter g).map fun z : Nat => (z : Int)).map V.int))) := fun Y3 hY3 => by
      refine he Y3 hY3 _ _ _ ⟨_, z2 _ _ hD, by have := len i; rw [sizeLine_eq, List.length_map, List.length_map]; omega, fun b o eo => by rw [upd_ne (ne_of_none eo zD)]; exact (Same.trans S z2) _ _ eo, ?_⟩
      rw [upd_same, e, if_pos z1, List.map_append, List.map_append]
      rfl
    exact goal
  | false =>
    obtain ⟨z1, z2⟩ : g i = false ∧ Same H' H3 := z
    have goal : Same H1 H3 ∧ H3 D = some (.lst ((((List.range (i + 1)).filter g).map fun z : Nat => (z : Int)).map V.int)) := by
      refine ⟨Same.trans S z2, ?_⟩
      rw [e, z1, if_neg Bool.false_ne_true, List.append_nil]
      exact z2 _ _ hD
    exact goal
/-- y = [elt for tg in range(n) if c] on one line -/
theorem sv_lcRi {y : Str} {py : Pos} {elt : Expr} (i : Nat) (own : List (Str × Nat)) (hc : X.calm = true) (hN : X.N.Nodup) (hm : X.mg "range" = none) {n : Expr} (q : EV X n σ H fun x H1 => ∃ m : Int, x = .int m ∧ -(2 ^ 62) ≤ m ∧ m < 2 ^ 62 ∧ LcRi X scope own tg c elt σ (fun v H1 => D.nx (σ.set i (some v)) H1) m.toNat H1)
    (hy : X.N[i]? = some y := by rfl) (hyl : X.env.scope.names.lookup y = some .local := by rfl) (hsw : swapsWith (.ListComp elt [⟨tg, .Call (.Name "range" p) [n] [] p2, [c], 0⟩] scope cpos) (some (.Name y py)) pos.line X.env = pure true := by exact sw_true rfl rfl (by decide +kernel) (by decide +kernel))
    (hg : Gl X "range" := by rfl) (h1 : starEach [n] X.env = (false, eval n X.env) :: starEach [] X.env := by rfl) (hst : starEach [n] X.env = [(false, eval n X.env)] := by rfl)
    (ok : BlkOk X.N X.env.scope scope own := by exact blkOk_by (by kernel_rfl)) (hs : ∀ x, foldedSetIterable (.Call (.Name "range" p) [n] [] p2) X.env x = pure x := by intro _; rfl) : SV X (.Assign [.Name y py] (.ListComp elt [⟨tg, .Call (.Name "range" p) [n] [] p2, [c], 0⟩] scope cpos) pos) σ H D :=
  SV.of (ps_setLc hc hN hy hyl hsw (pi_range1 hg hm (pa_cons pe_ev pa_nil h1) hst) ok blk_pg blk_pts1 blk_pe hs) (lcl_rangei q)
/-- two lists of ints, compared as a test -/
theorem teqL {K : PySem.W.Frag} {x y : Addr} {a b : List Int} {Qt Qf : Hp → Prop} (hx : SqL K H x (a.map V.int)) (hy : SqL K H y (b.map V.int)) (ht : a = b → Qt H) (hf : a ≠ b → Qf H) : rEqD K (.ref x) (.ref y) H (fun z H3 => ∃ k, z = .bl k ∧ br Qt Qf k H3) :=
  ⟨_, _, dp_ints hx, dp_ints hy, ints_shaped _, ints_shaped _, _, rfl, by rw [ints_eqv]; exact br_dec ht hf⟩
theorem tneL {K : PySem.W.Frag} {x y : Addr} {a b : List Int} {Qt Qf : Hp → Prop} (hx : SqL K H x (a.map V.int)) (hy : SqL K H y (b.map V.int)) (ht : a ≠ b → Qt H) (hf : a = b → Qf H) : rNeD K (.ref x) (.ref y) H (fun z H3 => ∃ k, z = .bl k ∧ br Qt Qf k H3) :=
  ⟨_, _, dp_ints hx, dp_ints hy, ints_shaped _, ints_shaped _, _, rfl, by rw [ints_eqv]; exact br_ndec ht hf⟩
/-- as a value -/
theorem veqL {K : PySem.W.Frag} {x y : Addr} {a b : List Int} (hx : SqL K H x (a.map V.int)) (hy : SqL K H y (b.map V.int)) (q : Q (.bl (decide (a = b))) H) : rEqD K (.ref x) (.ref y) H Q :=
  ⟨_, _, dp_ints hx, dp_ints hy, ints_shaped _, ints_shaped _, by rw [ints_eqv]; exact q⟩
theorem filt_nil {g : Nat → Bool} {n : Nat} (h : ∀ i, i < n → g i = false) : ((List.range n).filter g).map (fun z : Nat => (z : Int)) = [] := by
  have e : (List.range n).filter g = [] := List.filter_eq_nil_iff.mpr fun i hi => by rw [h i (List.mem_range.mp hi)]; exact Bool.false_ne_true
  rw [e]
  rfl
theorem filt_some {g : Nat → Bool} {n i : Nat} (hi : i < n) (h : g i = true) : ((List.range n).filter g).map (fun z : Nat => (z : Int)) ≠ [] := fun e => by
  have : ((i : Nat) : Int) ∈ ((List.range n).filter g).map (fun z : Nat => (z : Int)) := List.mem_map.mpr ⟨i, List.mem_filter.mpr ⟨List.mem_range.mpr hi, h⟩, rfl⟩
  rw [e] at this
  cases this
end
end Oil
set_option Elab.async false
set_option linter.all false
set_option maxRecDepth 100000
set_option maxHeartbeats 2000000
/-! Plain laws: ways turned, walked back; settled walks. -/
namespace Oil
open PySem PySem.Spec PyProof.Rows L2
theorem at_cong {w : Wy} {a b : Nat} (h : a % w.posts.length = b % w.posts.length) : w.at a = w.at b := by
  rw [← at_mod w a, h, at_mod]
theorem leg_cong {w : Wy} {a b : Nat} (h : a % w.posts.length = b % w.posts.length) : w.leg a = w.leg b := by
  unfold Wy.leg
  rw [at_cong h]
theorem add_cong {L a b : Nat} (h : a % L = b % L) (c : Nat) : (a + c) % L = (b + c) % L := by
  rw [Nat.add_mod, h, ← Nat.add_mod]
theorem lack_cong {w : Wy} {a b : Nat} (h : a % w.posts.length = b % w.posts.length) (n : Nat) : w.lack a n = w.lack b n := by
  rw [← lack_mod w a, h, lack_mod]
theorem pt_cong {w : Wy} {a b : Nat} (h : a % w.posts.length = b % w.posts.length) (n : Nat) : w.pt a n = w.pt b n := by
  rw [← pt_mod w a, h, pt_mod]
theorem st_cong {w : Wy} {a b : Nat} (h : a % w.posts.length = b % w.posts.length) (n : Nat) : w.st a n = w.st b n := pt_cong h _
theorem step_cong {w : Wy} {a b : Nat} (h : a % w.posts.length = b % w.posts.length) (o : Int) : w.step a o = w.step b o := by
  unfold Wy.step
  rw [at_cong h]
theorem walk_cong {w : Wy} {a b : Nat} (h : a % w.posts.length = b % w.posts.length) (o : Int) : ∀ n, w.walk a o n = w.walk b o n
  | 0 => rfl
  | n + 1 => by
    show (w.walk a o n).bind _ = (w.walk b o n).bind _
    rw [walk_cong h o n]
    congr 1
    funext u
    exact step_cong (add_cong h n) u
theorem lack_front (w : Wy) (i : Nat) {n : Nat} (h : 1 ≤ n) : w.lack i (n + 1) = w.lack (i + 1) n + ((w.at i).2 - (w.at (i + 1)).1) := by
  induction n with
  | zero => exact absurd h (by decide)
  | succ n ih =>
    rw [lack_succ w i (by omega)]
    by_cases hn : n = 0
    · subst hn
      rw [lack_one, lack_one]
      rw [Nat.zero_add]
      omega
    · rw [ih (by omega), lack_succ w (i + 1) (by omega)]
      rw [show i + 1 + n = i + (n + 1) by omega]
      omega
/-! ### turned -/
/-- the post k first -/
def Wy.turn (w : Wy) (k : Nat) : Wy := ⟨w.cap, w.posts.drop k ++ w.posts.take k⟩
theorem turn_len (w : Wy) {k : Nat} (h : k < w.posts.length) : (w.turn k).posts.length = w.posts.length := by
  unfold Wy.turn
  rw [List.length_append, List.length_drop, List.length_take]
  omega
theorem at_opt {w : Wy} {i : Nat} {a : Int × Int} (e : w.posts[i]? = some a) : w.at i = a := by
  obtain ⟨h, e2⟩ := List.getElem?_eq_some_iff.mp e
  rw [at_lt h, e2]
theorem opt_at {w : Wy} {i : Nat} (h : i < w.posts.length) : w.posts[i]? = some (w.at i) := by
  rw [at_lt h]
  exact List.getElem?_eq_getElem h
theorem turn_at (w : Wy) {k : Nat} (h : k < w.posts.length) (i : Nat) : (w.turn k).at i = w.at (i + k) := by
  have hL := turn_len w h
  have hn : 0 < w.posts.length := by omega
  have hi : i % w.posts.length < w.posts.length := Nat.mod_lt _ hn
  have e1 : (w.turn k).at i = (w.turn k).at (i % w.posts.length) := by
    rw [← at_mod (w.turn k) i, hL]
  have e2 : w.at (i + k) = w.at (i % w.posts.length + k) := at_cong (by rw [Nat.mod_add_mod])
  rw [e1, e2]
  generalize i % w.posts.length = j at hi
  refine at_opt ?_
  show (w.posts.drop k ++ w.posts.take k)[j]? = _
  by_cases hj : j < w.posts.length - k
  · rw [List.getElem?_append_left (by rw [List.length_drop]; exact hj), List.getElem?_drop, Nat.add_comm k j]
    exact opt_at (by omega)
  · rw [List.getElem?_append_right (by rw [List.length_drop]; omega), List.getElem?_take, List.length_drop, if_pos (by omega)]
    have e3 : w.at (j + k) = w.at (j + k - w.posts.length) := at_cong (by
      have : j + k = (j + k - w.posts.length) + w.posts.length := by omega
      rw [this, Nat.add_mod_right, Nat.add_sub_cancel])
    rw [e3, show j - (w.posts.length - k) = j + k - w.posts.length by omega]
    exact opt_at (by omega)
theorem turn_ok {w : Wy} (ok : w.ok) {k : Nat} (h : k < w.posts.length) : (w.turn k).ok := by
  have hL := turn_len w h
  have := ok.n1
  have := ok.n2
  refine ⟨ok.c1, ok.c2, by omega, by omega, fun p hp => ?_⟩
  rcases List.mem_append.mp hp with h2 | h2
  · exact ok.ps p (List.mem_of_mem_drop h2)
  · exact ok.ps p (List.mem_of_mem_take h2)
theorem turn_leg (w : Wy) {k : Nat} (h : k < w.posts.length) (i : Nat) : (w.turn k).leg i = w.leg (i + k) := by
  unfold Wy.leg
  rw [turn_at w h]
  rfl
theorem turn_pt (w : Wy) {k : Nat} (h : k < w.posts.length) (i : Nat) : ∀ n, (w.turn k).pt i n = w.pt (i + k) n
  | 0 => turn_leg w h i
  | n + 1 => by
    show ((w.turn k).pt i n).join ((w.turn k).leg (i + n + 1)) = (w.pt (i + k) n).join (w.leg (i + k + n + 1))
    rw [turn_pt w h i n, turn_leg w h, show i + n + 1 + k = i + k + n + 1 by omega]
theorem turn_st (w : Wy) {k : Nat} (h : k < w.posts.length) (i n : Nat) : (w.turn k).st i n = w.st (i + k) n := turn_pt w h i _
theorem turn_step (w : Wy) {k : Nat} (h : k < w.posts.length) (i : Nat) (o : Int) : (w.turn k).step i o = w.step (i + k) o := by
  unfold Wy.step
  rw [turn_at w h]
  rfl
theorem turn_walk (w : Wy) {k : Nat} (h : k < w.posts.length) (i : Nat) (o : Int) : ∀ n, (w.turn k).walk i o n = w.walk (i + k) o n
  | 0 => rfl
  | n + 1 => by
    show ((w.turn k).walk i o n).bind _ = (w.walk (i + k) o n).bind _
    rw [turn_walk w h i o n]
    congr 1
    funext u
    rw [turn_step w h, show i + n + k = i + k + n by omega]
theorem turn_nets (w : Wy) {k : Nat} (h : k < w.posts.length) (i : Nat) : ∀ n, (w.turn k).nets i n = w.nets (i + k) n
  | 0 => rfl
  | n + 1 => by
    simp only [Wy.nets, Wy.net, turn_nets w h i n, turn_at w h]
    rw [show i + n + k = i + k + n by omega]
theorem turn_surplus (w : Wy) {k : Nat} (h : k < w.posts.length) : (w.turn k).surplus = w.surplus := by
  rw [← nets_surplus (w.turn k) 0, turn_len w h, turn_nets w h, nets_surplus]
theorem turn_lack (w : Wy) {k : Nat} (h : k < w.posts.length) (i : Nat) : ∀ n, (w.turn k).lack i n = w.lack (i + k) n
  | 0 => rfl
  | n + 1 => by
    simp only [Wy.lack, turn_lack w h i n, turn_at w h]
    rw [show i + n + k = i + k + n by omega]
/-! ### walked back -/
def Wy.back (w : Wy) : Wy := ⟨w.cap, (List.range w.posts.length).map fun i => ((w.at (w.posts.length - i)).1, (w.at (w.posts.length - 1 - i)).2)⟩
theorem back_len (w : Wy) : w.back.posts.length = w.posts.length := by
  simp [Wy.back]
theorem back_at (w : Wy) (hn : 1 ≤ w.posts.length) (i : Nat) : w.back.at i = ((w.at (w.posts.length - i % w.posts.length)).1, (w.at (w.posts.length - 1 - i % w.posts.length)).2) := by
  have hL := back_len w
  have hi : i % w.posts.length < w.posts.length := Nat.mod_lt _ hn
  have e1 : w.back.at i = w.back.at (i % w.posts.length) := by
    rw [← at_mod w.back i, hL]
  rw [e1]
  generalize i % w.posts.length = j at hi
  refine at_opt ?_
  show ((List.range w.posts.length).map _)[j]? = _
  rw [List.getElem?_map, List.getElem?_range hi]
  rfl
theorem back_ok {w : Wy} (ok : w.ok) : w.back.ok := by
  have hL := back_len w
  have := ok.n1
  have := ok.n2
  refine ⟨ok.c1, ok.c2, by omega, by omega, fun p hp => ?_⟩
  obtain ⟨i, _, rfl⟩ := List.mem_map.mp hp
  obtain ⟨a1, a2, _, _⟩ := ok.at_ok (w.posts.length - i)
  obtain ⟨_, _, b3, b4⟩ := ok.at_ok (w.posts.length - 1 - i)
  exact ⟨a1, a2, b3, b4⟩
theorem opp_cong {L s p n : Nat} (hL : 1 ≤ L) (h : (s + p + n) % L = 0) (hn : n ≤ L) : s % L = (L - n + (L - p % L)) % L := by
  have hp : p % L < L := Nat.mod_lt _ hL
  have h1 : (s + (p % L) + n) % L = 0 := by
    rw [← h]
    exact add_cong (by rw [Nat.add_mod_mod]) n
  have e : s % L = (s + (p % L) + n + (L - n + (L - p % L))) % L := by
    have : s + (p % L) + n + (L - n + (L - p % L)) = s + L + L := by omega
    rw [this, Nat.add_mod_right, Nat.add_mod_right]
  rw [e, Nat.add_mod, h1, Nat.zero_add, Nat.mod_mod]
theorem back_lack (w : Wy) (hn : 1 ≤ w.posts.length) (p : Nat) : ∀ (n s : Nat), 1 ≤ n → (s + p + n) % w.posts.length = 0 → w.back.lack p n = w.lack s n
  | 0, _, h, _ => absurd h (by decide)
  | 1, s, _, h => by
    rw [lack_one, lack_one, back_at w hn]
    have e := opp_cong hn h hn
    have hp : p % w.posts.length < w.posts.length := Nat.mod_lt _ hn
    rw [at_cong (a := s) (b := w.posts.length - 1 - p % w.posts.length)]
    rw [e]
    have : w.posts.length - 1 + (w.posts.length - p % w.posts.length) = (w.posts.length - 1 - p % w.posts.length) + w.posts.length := by omega
    rw [this, Nat.add_mod_right]
  | n + 2, s, _, h => by
    rw [lack_succ w.back p (by omega), back_lack w hn p (n + 1) (s + 1) (by omega) (by rw [← h]; congr 1; omega), lack_front w s (by omega), back_at w hn]
    have h1 : (s + (p + (n + 1)) + 1) % w.posts.length = 0 := by rw [← h]; congr 1; omega
    have e := opp_cong hn h1 hn
    have h2 : (s + 1 + (p + (n + 1)) + 0) % w.posts.length = 0 := by rw [← h]; congr 1; omega
    have e2 := opp_cong hn h2 (Nat.zero_le _)
    have hp : (p + (n + 1)) % w.posts.length < w.posts.length := Nat.mod_lt _ hn
    rw [at_cong (a := s) (b := w.posts.length - 1 - (p + (n + 1)) % w.posts.length), at_cong (a := s + 1) (b := w.posts.length - (p + (n + 1)) % w.posts.length)]
    · rw [e2, Nat.sub_zero, Nat.add_mod_left]
    · rw [e]
      have : w.posts.length - 1 + (w.posts.length - (p + (n + 1)) % w.posts.length) = (w.posts.length - 1 - (p + (n + 1)) % w.posts.length) + w.posts.length := by omega
      rw [this, Nat.add_mod_right]
theorem sum_map_range (f : Nat → Int) (n : Nat) : ((List.range (n + 1)).map f).sum = ((List.range n).map f).sum + f n := by
  rw [List.range_succ, List.map_append, List.sum_append]
  simp
theorem sum_rev (f : Nat → Int) : ∀ n, ((List.range n).map fun i => f (n - 1 - i)).sum = ((List.range n).map f).sum
  | 0 => rfl
  | n + 1 => by
    rw [sum_map_range f n, ← sum_rev f n, List.range_succ_eq_map, List.map_cons, List.sum_cons, List.map_map]
    have e : ((fun i => f (n + 1 - 1 - i)) ∘ Nat.succ) = fun i => f (n - 1 - i) := by
      funext i
      show f (n + 1 - 1 - (i + 1)) = f (n - 1 - i)
      congr 1
      omega
    rw [e]
    simp
    omega
theorem sum_sub (f g : Nat → Int) : ∀ n, ((List.range n).map fun i => f i - g i).sum = ((List.range n).map f).sum - ((List.range n).map g).sum
  | 0 => rfl
  | n + 1 => by
    rw [sum_map_range, sum_map_range f, sum_map_range g, sum_sub f g n]
    omega
theorem nets_range (w : Wy) (i : Nat) : ∀ n, w.nets i n = ((List.range n).map fun j => (w.at (i + j)).1).sum - ((List.range n).map fun j => (w.at (i + j)).2).sum
  | 0 => rfl
  | n + 1 => by
    rw [sum_map_range, sum_map_range]
    simp only [Wy.nets, Wy.net, nets_range w i n]
    omega
theorem back_surplus (w : Wy) (hn : 1 ≤ w.posts.length) : w.back.surplus = w.surplus := by
  rw [← nets_surplus w.back 0, ← nets_surplus w 1, back_len, nets_range, nets_range w 1]
  have e1 : ((List.range w.posts.length).map fun j => (w.back.at (0 + j)).1) = (List.range w.posts.length).map fun j => (fun i => (w.at (1 + i)).1) (w.posts.length - 1 - j) := by
    apply List.map_congr_left
    intro j hj
    have hj := List.mem_range.mp hj
    rw [back_at w hn, Nat.zero_add, Nat.mod_eq_of_lt hj]
    show (w.at _).1 = (w.at _).1
    congr 2
    omega
  have e2 : ((List.range w.posts.length).map fun j => (w.back.at (0 + j)).2) = (List.range w.posts.length).map fun j => (fun i => (w.at i).2) (w.posts.length - 1 - j) := by
    apply List.map_congr_left
    intro j hj
    have hj := List.mem_range.mp hj
    rw [back_at w hn, Nat.zero_add, Nat.mod_eq_of_lt hj]
  rw [e1, e2, sum_rev (fun i => (w.at (1 + i)).1) w.posts.length, sum_rev (fun i => (w.at i).2) w.posts.length]
  have e3 : ((List.range w.posts.length).map fun j => (w.at (1 + j)).2).sum = ((List.range w.posts.length).map fun j => (w.at j).2).sum := by
    obtain ⟨m, hm⟩ : ∃ m, w.posts.length = m + 1 := ⟨w.posts.length - 1, by omega⟩
    have hp : w.at (1 + m) = w.at 0 := at_cong (by rw [hm, show 1 + m = m + 1 by omega, Nat.mod_self, Nat.zero_mod])
    rw [hm, sum_map_range, List.range_succ_eq_map, List.map_cons, List.sum_cons, List.map_map, hp]
    have e : ((fun j => (w.at j).2) ∘ Nat.succ) = fun j => (w.at (1 + j)).2 := by
      funext j
      show (w.at (j + 1)).2 = _
      rw [Nat.add_comm]
    rw [e]
    omega
  rw [e3]
/-- two ways of as many posts whose stretches lack the same -/
theorem worst_alike {w w' : Wy} (hL : w'.posts.length = w.posts.length) (h1 : ∀ p n, p < w.posts.length → 1 ≤ n → n ≤ w.posts.length → ∃ q, q < w.posts.length ∧ w'.lack q n = w.lack p n) (h2 : ∀ p n, p < w.posts.length → 1 ≤ n → n ≤ w.posts.length → ∃ q, q < w.posts.length ∧ w.lack q n = w'.lack p n)
    {p n p' n' : Nat} (a : Worst w p n) (b : Worst w' p' n') : n = n' ∧ w.lack p n = w'.lack p' n' := by
  obtain ⟨q, hq, eq⟩ := h1 p n a.hp a.n1 a.n2
  have hp' := b.hp
  have n2' := b.n2
  rw [hL] at hp' n2'
  obtain ⟨r, hr, er⟩ := h2 p' n' hp' b.n1 n2'
  have c1 := a.most r n' hr b.n1 n2'
  have c2 := b.most q n (by rw [hL]; exact hq) a.n1 (by rw [hL]; exact a.n2)
  omega
theorem worst_turn {w : Wy} {k : Nat} (hk : k < w.posts.length) {p n p' n' : Nat} (a : Worst w p n) (b : Worst (w.turn k) p' n') : n = n' ∧ w.lack p n = (w.turn k).lack p' n' := by
  have hn : 0 < w.posts.length := by omega
  refine worst_alike (turn_len w hk) (fun p n hp _ _ => ⟨(p + (w.posts.length - k)) % w.posts.length, Nat.mod_lt _ hn, ?_⟩) (fun p n hp _ _ => ⟨(p + k) % w.posts.length, Nat.mod_lt _ hn, ?_⟩) a b
  · rw [turn_lack w hk]
    refine lack_cong ?_ n
    rw [Nat.mod_add_mod, show p + (w.posts.length - k) + k = p + w.posts.length by omega, Nat.add_mod_right]
  · rw [turn_lack w hk]
    exact lack_cong (by rw [Nat.mod_mod]) n
theorem worst_back {w : Wy} (hn : 1 ≤ w.posts.length) {p n p' n' : Nat} (a : Worst w p n) (b : Worst w.back p' n') : n = n' ∧ w.lack p n = w.back.lack p' n' := by
  have go : ∀ p n, p < w.posts.length → n ≤ w.posts.length → ∃ q, q < w.posts.length ∧ (p + q + n) % w.posts.length = 0 := fun p n hp h => by
    refine ⟨(w.posts.length - p + (w.posts.length - n)) % w.posts.length, Nat.mod_lt _ hn, ?_⟩
    have e := add_cong (L := w.posts.length) (a := (w.posts.length - p + (w.posts.length - n)) % w.posts.length) (b := w.posts.length - p + (w.posts.length - n)) (Nat.mod_mod _ _) (p + n)
    rw [show p + (w.posts.length - p + (w.posts.length - n)) % w.posts.length + n = (w.posts.length - p + (w.posts.length - n)) % w.posts.length + (p + n) by omega, e, show w.posts.length - p + (w.posts.length - n) + (p + n) = w.posts.length + w.posts.length by omega, Nat.add_mod_right, Nat.mod_self]
  refine worst_alike (back_len w) (fun p n hp n1 n2 => ?_) (fun p n hp n1 n2 => ?_) a b
  · obtain ⟨q, hq, e⟩ := go p n hp n2
    exact ⟨q, hq, back_lack w hn q n p n1 e⟩
  · obtain ⟨q, hq, e⟩ := go p n hp n2
    exact ⟨q, hq, (back_lack w hn p n q n1 (by rw [← e]; congr 1; omega)).symm⟩
theorem wy_ext {w w' : Wy} (hc : w.cap = w'.cap) (hL : w.posts.length = w'.posts.length) (h : ∀ i, i < w.posts.length → w.at i = w'.at i) : w = w' := by
  obtain ⟨c, ps⟩ := w
  obtain ⟨c', ps'⟩ := w'
  simp only at hc hL
  subst hc
  congr 1
  apply List.ext_getElem hL
  intro i h1 h2
  have := h i h1
  rw [at_lt h1, at_lt (w := ⟨c, ps'⟩) h2] at this
  exact this
theorem back_back (w : Wy) (hn : 1 ≤ w.posts.length) : w.back.back = w := by
  refine wy_ext rfl (by rw [back_len, back_len]) fun i hi => ?_
  rw [back_len, back_len] at hi
  have hn' : 1 ≤ w.back.posts.length := by rw [back_len]; exact hn
  rw [back_at w.back hn', back_at w hn, back_at w hn, back_len, Nat.mod_eq_of_lt hi]
  by_cases h0 : i = 0
  · subst h0
    rw [Nat.sub_zero, Nat.sub_zero, Nat.mod_self, Nat.sub_zero, Nat.mod_eq_of_lt (by omega), show w.posts.length - 1 - (w.posts.length - 1) = 0 by omega]
    rw [at_cong (a := w.posts.length) (b := 0) (by rw [Nat.mod_self, Nat.zero_mod])]
  · rw [Nat.mod_eq_of_lt (show w.posts.length - i < w.posts.length by omega), Nat.mod_eq_of_lt (show w.posts.length - 1 - i < w.posts.length by omega), show w.posts.length - (w.posts.length - i) = i by omega, show w.posts.length - 1 - (w.posts.length - 1 - i) = i by omega]
theorem turn_turn (w : Wy) {k m : Nat} (hk : k < w.posts.length) (hm : m < w.posts.length) : (w.turn k).turn m = w.turn ((m + k) % w.posts.length) := by
  have hn : 0 < w.posts.length := by omega
  have hm' : m < (w.turn k).posts.length := by rw [turn_len w hk]; exact hm
  have hr : (m + k) % w.posts.length < w.posts.length := Nat.mod_lt _ hn
  refine wy_ext rfl (by rw [turn_len _ hm', turn_len w hk, turn_len w hr]) fun i hi => ?_
  rw [turn_at _ hm', turn_at w hk, turn_at w hr]
  exact at_cong (by rw [Nat.add_assoc, Nat.add_mod, Nat.add_mod i ((m + k) % _), Nat.mod_mod])
theorem turn_zero (w : Wy) : w.turn 0 = w := by
  obtain ⟨c, ps⟩ := w
  simp [Wy.turn]
/-! ### one unit of oil more -/
def Wy.rich (w : Wy) (i : Nat) : Wy := ⟨w.cap, w.posts.set i ((w.at i).1 + 1, (w.at i).2)⟩
theorem rich_len (w : Wy) (i : Nat) : (w.rich i).posts.length = w.posts.length := by simp [Wy.rich]
theorem rich_at (w : Wy) {i : Nat} (hi : i < w.posts.length) (j : Nat) : (w.rich i).at j = if j % w.posts.length = i then ((w.at i).1 + 1, (w.at i).2) else w.at j := by
  have hn : 0 < w.posts.length := by omega
  have hj : j % w.posts.length < w.posts.length := Nat.mod_lt _ hn
  rw [← at_mod (w.rich i) j, rich_len, ← at_mod w j]
  rw [at_mod w j, ← at_mod w j]
  generalize j % w.posts.length = m at hj
  refine at_opt ?_
  show (w.posts.set i _)[m]? = _
  by_cases e : i = m
  · subst e
    rw [if_pos rfl, List.getElem?_set_self hi]
  · rw [if_neg (fun h => e h.symm), List.getElem?_set_ne e]
    exact opt_at hj
theorem turn_rich (w : Wy) {k j : Nat} (hk : k < w.posts.length) (hj : j < w.posts.length) : (w.turn k).rich j = (w.rich ((j + k) % w.posts.length)).turn k := by
  have hn : 0 < w.posts.length := by omega
  have hr : (j + k) % w.posts.length < w.posts.length := Nat.mod_lt _ hn
  have hk' : k < (w.rich ((j + k) % w.posts.length)).posts.length := by rw [rich_len]; exact hk
  have hj' : j < (w.turn k).posts.length := by rw [turn_len w hk]; exact hj
  refine wy_ext rfl (by rw [rich_len, turn_len w hk, turn_len _ hk', rich_len]) fun i hi => ?_
  rw [rich_len, turn_len w hk] at hi
  rw [rich_at _ hj', turn_at _ hk', rich_at w hr, turn_len w hk, turn_at w hk, turn_at w hk, Nat.mod_eq_of_lt hi, at_mod]
  by_cases e : i = j
  · subst e
    rw [if_pos rfl, if_pos rfl]
  · rw [if_neg e, if_neg ?_]
    intro h
    apply e
    have a1 : (i + k + (w.posts.length - k)) % w.posts.length = (j + k + (w.posts.length - k)) % w.posts.length := add_cong h _
    rw [show i + k + (w.posts.length - k) = i + w.posts.length by omega, show j + k + (w.posts.length - k) = j + w.posts.length by omega, Nat.add_mod_right, Nat.add_mod_right, Nat.mod_eq_of_lt hi, Nat.mod_eq_of_lt hj] at a1
    exact a1
theorem back_rich (w : Wy) {j : Nat} (hj : j < w.posts.length) : w.back.rich j = (w.rich ((w.posts.length - j) % w.posts.length)).back := by
  have hn : 0 < w.posts.length := by omega
  have hr : (w.posts.length - j) % w.posts.length < w.posts.length := Nat.mod_lt _ hn
  have hj' : j < w.back.posts.length := by rw [back_len]; exact hj
  have hn' : 1 ≤ (w.rich ((w.posts.length - j) % w.posts.length)).posts.length := by rw [rich_len]; exact hn
  refine wy_ext rfl (by rw [rich_len, back_len, back_len, rich_len]) fun i hi => ?_
  rw [rich_len, back_len] at hi
  rw [rich_at _ hj', back_at _ hn', rich_len, rich_at w hr, rich_at w hr, back_len, back_at w hn, back_at w hn, Nat.mod_eq_of_lt hi, Nat.mod_eq_of_lt hj, at_mod]
  have s2 : ∀ m, (if m % w.posts.length = (w.posts.length - j) % w.posts.length then ((w.at (w.posts.length - j)).1 + 1, (w.at ((w.posts.length - j) % w.posts.length)).2) else w.at m).2 = (w.at m).2 := fun m => by
    by_cases h : m % w.posts.length = (w.posts.length - j) % w.posts.length
    · rw [if_pos h, at_mod]
      show (w.at _).2 = _
      rw [at_cong h]
    · rw [if_neg h]
  rw [at_mod w (w.posts.length - j)] at s2
  rw [s2]
  by_cases e : i = j
  · subst e
    rw [if_pos rfl, if_pos rfl]
  · rw [if_neg e, if_neg ?_]
    intro h
    apply e
    have a1 := add_cong h (i + j)
    rw [show w.posts.length - i + (i + j) = j + w.posts.length by omega, show w.posts.length - j + (i + j) = i + w.posts.length by omega, Nat.add_mod_right, Nat.add_mod_right, Nat.mod_eq_of_lt hi, Nat.mod_eq_of_lt hj] at a1
    exact a1.symm
end Oil
set_option Elab.async false
set_option linter.all false
set_option maxRecDepth 100000
set_option maxHeartbeats 2000000
/-! Comprehensions over pairs, over lists of ints; indexes from the end; pairs or None. -/
namespace Oil
open PySem PySem.Spec PyProof.Rows L2
theorem atI_back {α : Type} (xs : List α) {j : Nat} (h : 0 < j) (h2 : j ≤ xs.length) : atI xs (0 - (j : Int)) = xs[xs.length - j]? := by
  unfold atI ixN
  rw [if_neg (by omega), if_pos (by omega)]
  show xs[(0 - (j : Int) + (xs.length : Int)).toNat]? = _
  congr 1
  omega
theorem non_of {H H' : Hp} {D : Addr} (S : Same H H') (n : H' D = none) : H D = none := by
  cases hx : H D with
  | none => rfl
  | some o =>
    rw [S _ _ hx] at n
    cases n
theorem same_upd' {H H' : Hp} {D : Addr} {o : HO} (S : Same H H') (n : H D = none) : Same H (upd H' D o) := fun c u e => by
  rw [upd_ne (ne_of_none e n)]
  exact S _ _ e
section
variable {X : Cx} {σ : L2.St} {H : Hp} {Q : VK} {D : Ends} {pos cpos p p2 : Pos} {tg iter elt c e a b : Expr} {scope : Scope} {own : List (Str × Nat)}
theorem tv_cut {Qt Qf Qt' Qf' : Hp → Prop} (q : TV X c σ H Qt Qf) (kt : ∀ H', Qt H' → Qt' H') (kf : ∀ H', Qf H' → Qf' H') : TV X c σ H Qt' Qf' := BV.mono q fun b H' h => by
  cases b with
  | true => exact kt H' h
  | false => exact kf H' h
/-- [elt for x, y in ps], ints of pairs -/
theorem lc_prs {vs : List V} {ps : List (Int × Int)} {H1 : Hp} {K0 : Hp → Prop} (m1 m2 : Nat) (g : Int × Int → Int) (hps : AreP H1 vs ps) (hn : ps.length ≤ 1000) (hK : ∀ H', Same H1 H' → K0 H')
    (hg : ∀ Y, IsBlk X scope Y → ∀ (p : Int × Int) (a : Addr) (σ : L2.St) (H : Hp) (R : L2.St → Hp → Prop), H a = some (.tup [.int p.1, .int p.2]) → R ((σ.set m1 (some (.int p.1))).set m2 (some (.int p.2))) H → GV Y tg (.ref a) σ H R)
    (he : ∀ Y, IsBlk X scope Y → ∀ (p : Int × Int) (H : Hp) (R : VK), R (.int (g p)) H → EV Y elt (((wipe σ (own.map (·.2))).set m1 (some (.int p.1))).set m2 (some (.int p.2))) H R)
    (q : ∀ H' D, Same H1 H' → H1 D = none → H' D = some (.lst ((ps.map g).map V.int)) → Q (.ref D) H')
    (hw : ∀ v u : V, wipe (((wipe σ (own.map (·.2))).set m1 (some v)).set m2 (some u)) (own.map (·.2)) = wipe σ (own.map (·.2)) := by intro _ _; rfl) : LcL X scope own tg elt σ Q vs K0 H1 := by
  intro D zD
  have hl := AreP.len hps
  refine ⟨fun i H' => Same H1 H' ∧ H' D = some (.lst (((ps.take i).map g).map V.int)), ⟨same_upd' (Same.refl _) zD, upd_same⟩, fun i H' _ hp => hK _ hp.1, fun i x H' hx hp => ?_, fun H' hp => q H' D hp.1 zD (by have h := hp.2; rw [hl, List.take_length] at h; exact h)⟩
  obtain ⟨S, hD⟩ := hp
  have hi : i < ps.length := by rw [← hl]; exact (List.getElem?_eq_some_iff.mp hx).1
  obtain ⟨u, e1, hpr⟩ := AreP.get hps (p := ps[i]) (List.getElem?_eq_getElem hi)
  rw [hx] at e1
  cases e1
  obtain ⟨pa, rfl, hpa⟩ := hpr
  intro Y hY
  refine hg Y hY ps[i] pa _ _ _ (S _ _ hpa) ⟨hw _ _, fun Y2 hY2 => he Y2 hY2 ps[i] _ _ ⟨_, hD, by rw [sizeLine_eq]; simp; omega, same_upd' S zD, ?_⟩⟩
  rw [upd_same, List.take_succ, List.getElem?_eq_getElem hi, List.map_append, List.map_append]
  rfl
/-- [elt for x in ns], ints of ints -/
theorem lc_ints {ns : List Int} {H1 : Hp} {K0 : Hp → Prop} (m : Nat) (g : Int → Int) (hn : ns.length ≤ 1000) (hK : ∀ H', Same H1 H' → K0 H')
    (hg : ∀ Y, IsBlk X scope Y → ∀ (v : V) (σ : L2.St) (H : Hp) (R : L2.St → Hp → Prop), R (σ.set m (some v)) H → GV Y tg v σ H R)
    (he : ∀ Y, IsBlk X scope Y → ∀ (z : Int) (H' : Hp) (R : VK), z ∈ ns → Same H1 H' → (∀ H2, Same H' H2 → R (.int (g z)) H2) → EV Y elt ((wipe σ (own.map (·.2))).set m (some (.int z))) H' R)
    (q : ∀ H' D, Same H1 H' → H1 D = none → H' D = some (.lst ((ns.map g).map V.int)) → Q (.ref D) H')
    (hw : ∀ v : V, wipe ((wipe σ (own.map (·.2))).set m (some v)) (own.map (·.2)) = wipe σ (own.map (·.2)) := by intro _; rfl) : LcL X scope own tg elt σ Q (ns.map V.int) K0 H1 := by
  intro D zD
  refine ⟨fun i H' => Same H1 H' ∧ H' D = some (.lst (((ns.take i).map g).map V.int)), ⟨same_upd' (Same.refl _) zD, upd_same⟩, fun i H' _ hp => hK _ hp.1, fun i x H' hx hp => ?_, fun H' hp => q H' D hp.1 zD (by have h := hp.2; rw [List.length_map, List.take_length] at h; exact h)⟩
  obtain ⟨S, hD⟩ := hp
  have hi : i < ns.length := by
    have := (List.getElem?_eq_some_iff.mp hx).1
    rw [List.length_map] at this
    exact this
  have ex : x = .int ns[i] := by
    rw [List.getElem?_map, List.getElem?_eq_getElem hi] at hx
    exact (Option.some.inj hx).symm
  subst ex
  intro Y hY
  refine hg Y hY _ _ _ _ ⟨hw _, fun Y2 hY2 => he Y2 hY2 ns[i] _ _ (List.getElem_mem hi) S fun H2 S2 => ⟨_, S2 _ _ hD, by rw [sizeLine_eq]; simp; omega, same_upd' (Same.trans S S2) zD, ?_⟩⟩
  rw [upd_same, List.take_succ, List.getElem?_eq_getElem hi, List.map_append, List.map_append]
  rfl
/-- [elt for x in range(n)], by ints -/
theorem lc_rng {H1 : Hp} (m : Nat) (g : Nat → Int) (n : Nat) (hn : n ≤ 1000)
    (hg : ∀ Y, IsBlk X scope Y → ∀ (v : V) (σ : L2.St) (H : Hp) (R : L2.St → Hp → Prop), R (σ.set m (some v)) H → GV Y tg v σ H R)
    (he : ∀ Y, IsBlk X scope Y → ∀ (z : Nat) (H' : Hp) (R : VK), z < n → Same H1 H' → (∀ H2, Same H' H2 → R (.int (g z)) H2) → EV Y elt ((wipe σ (own.map (·.2))).set m (some (.int (z : Nat)))) H' R)
    (q : ∀ H' D, Same H1 H' → H1 D = none → H' D = some (.lst (((List.range n).map g).map V.int)) → Q (.ref D) H')
    (hw : ∀ v : V, wipe ((wipe σ (own.map (·.2))).set m (some v)) (own.map (·.2)) = wipe σ (own.map (·.2)) := by intro _; rfl) : LcR X scope own tg elt σ Q n H1 := by
  intro D zD
  refine ⟨fun i H' => Same H1 H' ∧ H' D = some (.lst (((List.range i).map g).map V.int)), ⟨same_upd' (Same.refl _) zD, upd_same⟩, fun i H' hi hp => ?_, fun H' hp => q H' D hp.1 zD hp.2⟩
  obtain ⟨S, hD⟩ := hp
  intro Y hY
  refine hg Y hY _ _ _ _ ⟨hw _, fun Y2 hY2 => he Y2 hY2 i _ _ hi S fun H2 S2 => ⟨_, S2 _ _ hD, by rw [sizeLine_eq]; simp; omega, same_upd' (Same.trans S S2) zD, ?_⟩⟩
  rw [upd_same, List.range_succ, List.map_append, List.map_append]
  rfl
end
/-! ### pairs, or None -/
def IsOP (H : Hp) (v : V) : Option (Int × Int) → Prop
  | none => v = .non
  | some p => IsPr H v p
theorem IsOP.upS {H H' : Hp} {v : V} {x : Option (Int × Int)} (h : IsOP H v x) (S : Same H H') : IsOP H' v x := by
  cases x with
  | none => exact h
  | some p =>
    obtain ⟨a, e, ha⟩ := h
    exact ⟨a, e, S _ _ ha⟩
def dOP : Option (Int × Int) → PyData
  | none => .none
  | some p => dP p
theorem dp_op {K : PySem.W.Frag} {H : Hp} {v : V} {x : Option (Int × Int)} (h : IsOP H v x) : Dp K H v (dOP x) := by
  cases x with
  | none =>
    cases (show v = .non from h)
    exact .non
  | some p => exact dp_pr h
theorem shaped_op (x : Option (Int × Int)) : SeqAt.shaped (dOP x) = true := by cases x <;> rfl
theorem eqv_op (x y : Option (Int × Int)) : PyData.eqv (dOP x) (dOP y) = decide (x = y) := by
  cases x with
  | none =>
    cases y with
    | none => simp [dOP, PyData.eqv]
    | some q => simp [dOP, dP, PyData.eqv]
  | some p =>
    cases y with
    | none => simp [dOP, dP, PyData.eqv]
    | some q =>
      obtain ⟨a, b⟩ := p
      obtain ⟨c, d⟩ := q
      simp [dOP, dP, PyData.eqv, PyData.eqvAll, Bool.decide_and, Bool.beq_eq_decide_eq]
/-! ### lists of pairs, as data; slices of lists -/
def dPL (ps : List (Int × Int)) : PyData := .list (ps.map dP)
theorem dp_pl {K : PySem.W.Frag} {H : Hp} {t : Addr} {vs : List V} {ps : List (Int × Int)} (h : SqL K H t vs) (r : AreP H vs ps) : Dp K H (.ref t) (dPL ps) := .lst h (dp_all r)
theorem shaped_pl (ps : List (Int × Int)) : SeqAt.shaped (dPL ps) = true := by
  have h1 := dps_depth ps
  have h2 : PyData.depth (dPL ps) ≤ 64 := by
    simp only [dPL, PyData.depth]
    omega
  show (PyData.canLay0 (dPL ps) && decide (PyData.depth (dPL ps) ≤ 64)) = true
  rw [Bool.and_eq_true]
  exact ⟨by simp only [dPL, PyData.canLay0]; exact dps_lay ps, decide_eq_true h2⟩
theorem eqv_pl (a b : List (Int × Int)) : PyData.eqv (dPL a) (dPL b) = decide (a = b) := by
  simp only [dPL, PyData.eqv]
  exact eqvs_ps a b
section
variable {X : Cx} {e a : Expr} {σ : L2.St} {H : Hp} {Q : VK} {pos p2 : Pos}
theorem ev_fromL (q : EV X e σ H fun x H1 => EV X a σ H1 fun y H2 => ∃ t xs i, x = .ref t ∧ y = .int i ∧ SqL X.K H2 t xs ∧ ∀ H' p, Same H2 H' → H2 p = none → H' p = some (.lst (cutV xs (some i) none)) → Q (.ref p) H') : EV X (.Subscript e (.Slice (some a) none none p2) pos) σ H Q :=
  EV.of (pe_slice sl_list pe_ev (po_some pe_ev) po_none) (EV.mono q fun x H1 q1 => EV.mono q1 fun y H2 ⟨t, xs, i, ex, ey, ht, q⟩ => ⟨i, ey, t, xs, ex, ht, fun p hp => q _ _ (same_upd hp) hp upd_same⟩)
theorem ev_uptoL (q : EV X e σ H fun x H1 => EV X a σ H1 fun y H2 => ∃ t xs i, x = .ref t ∧ y = .int i ∧ SqL X.K H2 t xs ∧ ∀ H' p, Same H2 H' → H2 p = none → H' p = some (.lst (cutV xs none (some i))) → Q (.ref p) H') : EV X (.Subscript e (.Slice none (some a) none p2) pos) σ H Q :=
  EV.of (pe_slice sl_list pe_ev po_none (po_some pe_ev)) (EV.mono q fun x H1 q1 => EV.mono q1 fun y H2 ⟨t, xs, i, ex, ey, ht, q⟩ => ⟨i, ey, t, xs, ex, ht, fun p hp => q _ _ (same_upd hp) hp upd_same⟩)
end
/-! ### settled, helpful posts: by numbers -/
def Wy.sett (w : Wy) (i : Nat) (o : Int) : Option (Int × Int) := if w.endless i o = true then
    (if w.surplus = 0 ∨ (w.st i w.posts.length).top ≤ o then some (if min o (w.st i w.posts.length).top = o then 0 else 1, min o (w.st i w.posts.length).top)
      else some (((w.st i w.posts.length).top - o + w.surplus - 1) / w.surplus, (w.st i w.posts.length).top)) else none
theorem surplus_le {w : Wy} (ok : w.ok) : w.surplus ≤ 1000000000 * w.posts.length ∧ -(1000000000 * w.posts.length) ≤ w.surplus := by
  have h : ∀ n, w.nets 0 n ≤ 1000000000 * (n : Int) ∧ -(1000000000 * (n : Int)) ≤ w.nets 0 n := fun n => by
    induction n with
    | zero => simp [Wy.nets]
    | succ n ih =>
      obtain ⟨a1, a2, a3, a4⟩ := ok.at_ok (0 + n)
      simp only [Wy.nets, Wy.net]
      omega
  rw [← nets_surplus w 0]
  exact h _
theorem turn_endless {w : Wy} {k : Nat} (hk : k < w.posts.length) (i : Nat) (o : Int) : (w.turn k).endless i o = w.endless (i + k) o := by
  unfold Wy.endless
  rw [turn_surplus w hk, turn_len w hk, turn_walk w hk]
theorem endless_cong {w : Wy} {a b : Nat} (h : a % w.posts.length = b % w.posts.length) (o : Int) : w.endless a o = w.endless b o := by
  unfold Wy.endless
  rw [walk_cong h]
theorem turn_sett {w : Wy} {k : Nat} (hk : k < w.posts.length) (i : Nat) (o : Int) : (w.turn k).sett i o = w.sett (i + k) o := by
  unfold Wy.sett
  rw [turn_endless hk, turn_surplus w hk, turn_len w hk, turn_st w hk]
theorem sett_cong {w : Wy} {a b : Nat} (h : a % w.posts.length = b % w.posts.length) (o : Int) : w.sett a o = w.sett b o := by
  unfold Wy.sett
  rw [endless_cong h, st_cong h]
/-- one unit more at i: a smaller lantern does -/
def Wy.helps (w : Wy) (i : Nat) : Prop := ∃ p n p' n', Worst w p n ∧ Worst (w.rich i) p' n' ∧ (w.rich i).lack p' n' < w.lack p n
open Classical in
noncomputable def helpB (w : Wy) (i : Nat) : Bool := decide (w.helps i)
open Classical in
theorem helpB_of {w : Wy} {i p n p' n' : Nat} (a : Worst w p n) (b : Worst (w.rich i) p' n') : helpB w i = decide ((w.rich i).lack p' n' < w.lack p n) := by
  unfold helpB
  by_cases h : (w.rich i).lack p' n' < w.lack p n
  · rw [decide_eq_true h]
    exact decide_eq_true ⟨p, n, p', n', a, b, h⟩
  · rw [decide_eq_false h]
    refine decide_eq_false ?_
    rintro ⟨q, m, q', m', c, d, k⟩
    obtain ⟨rfl, rfl⟩ := a.one c
    obtain ⟨rfl, rfl⟩ := b.one d
    exact h k
noncomputable def helpL (w : Wy) : List Int := if w.surplus < 0 then [] else ((List.range w.posts.length).filter (helpB w)).map fun z : Nat => (z : Int)
/-- two ascending lists of the same numbers -/
theorem asc_one {a b c : List Int} (h : c.Perm a) (hs : c.Pairwise (· ≤ ·)) (hb : b.Pairwise (· < ·)) (ha : a.Nodup) (hm : ∀ z, z ∈ a ↔ z ∈ b) : c = b := by
  have hbn : b.Nodup := hb.imp fun h => Int.ne_of_lt h
  have p : c.Perm b := h.trans ((List.perm_ext_iff_of_nodup ha hbn).mpr hm)
  exact p.eq_of_pairwise (le := (· ≤ ·)) (fun x y _ _ h1 h2 => Int.le_antisymm h1 h2) hs (hb.imp fun h => Int.le_of_lt h)
theorem asc_filter (g : Nat → Bool) (n : Nat) : (((List.range n).filter g).map fun z : Nat => (z : Int)).Pairwise (· < ·) := by
  rw [List.pairwise_map]
  exact ((List.pairwise_lt_range).filter g).imp fun h => by omega
theorem mem_filter_cast {g : Nat → Bool} {n : Nat} {z : Int} : z ∈ ((List.range n).filter g).map (fun z : Nat => (z : Int)) ↔ ∃ i : Nat, z = i ∧ i < n ∧ g i = true := by
  rw [List.mem_map]
  constructor
  · rintro ⟨i, hi, rfl⟩
    obtain ⟨h1, h2⟩ := List.mem_filter.mp hi
    exact ⟨i, rfl, List.mem_range.mp h1, h2⟩
  · rintro ⟨i, rfl, h1, h2⟩
    exact ⟨i, List.mem_filter.mpr ⟨List.mem_range.mpr h1, h2⟩, rfl⟩
theorem helpL_moved {w w' : Wy} (f g : Nat → Nat) (F : Int → Int) (hL : w'.posts.length = w.posts.length) (hs : w'.surplus = w.surplus) (hf : ∀ j, j < w.posts.length → f j < w.posts.length ∧ g (f j) = j ∧ helpB w' j = helpB w (f j) ∧ F (j : Int) = (f j : Nat))
    (hg : ∀ j, j < w.posts.length → g j < w.posts.length ∧ f (g j) = j) {c : List Int} (h : c.Perm ((helpL w').map F)) (k : c.Pairwise (· ≤ ·)) : c = helpL w := by
  unfold helpL at h ⊢
  rw [hs, hL] at h
  by_cases h0 : w.surplus < 0
  · rw [if_pos h0] at h ⊢
    exact List.Perm.eq_nil h
  · rw [if_neg h0] at h ⊢
    refine asc_one h k (asc_filter _ _) ?_ fun z => ?_
    · rw [List.map_map]
      have hn : ((List.range w.posts.length).filter (helpB w')).Nodup := (List.nodup_range).filter _
      rw [List.Nodup, List.pairwise_map]
      refine List.Pairwise.imp_of_mem ?_ hn
      intro x y hx hy hxy e
      have x1 := List.mem_range.mp (List.mem_filter.mp hx).1
      have y1 := List.mem_range.mp (List.mem_filter.mp hy).1
      obtain ⟨_, gx, _, Fx⟩ := hf x x1
      obtain ⟨_, gy, _, Fy⟩ := hf y y1
      have e1 : F (x : Int) = F (y : Int) := e
      rw [Fx, Fy] at e1
      have e2 : f x = f y := by omega
      rw [← gx, ← gy, e2] at hxy
      exact hxy rfl
    · rw [mem_filter_cast]
      constructor
      · intro hz
        obtain ⟨y, hy, rfl⟩ := List.mem_map.mp hz
        obtain ⟨j, rfl, hj, hb⟩ := mem_filter_cast.mp hy
        obtain ⟨f1, _, f3, f4⟩ := hf j hj
        exact ⟨f j, f4, f1, by rw [← f3]; exact hb⟩
      · rintro ⟨i, rfl, hi, hb⟩
        obtain ⟨g1, g2⟩ := hg i hi
        obtain ⟨_, _, f3, f4⟩ := hf (g i) g1
        rw [g2] at f3 f4
        exact List.mem_map.mpr ⟨(g i : Nat), mem_filter_cast.mpr ⟨g i, rfl, g1, by rw [f3]; exact hb⟩, f4⟩
end Oil
set_option Elab.async false
set_option linter.all false
set_option maxRecDepth 100000
set_option maxHeartbeats 2000000
/-! Plain laws: legs told as two. -/
namespace Oil
open PySem PySem.Spec PyProof.Rows L2
/-- w' tells some legs of w as two; f: where the old posts stand -/
structure Fine (w w' : Wy) (f : Nat → Nat) : Prop where
  cap : w'.cap = w.cap
  zero : f 0 = 0
  next : ∀ i, (f (i + 1) = f i + 1 ∧ w'.at (f i) = w.at i) ∨ (f (i + 1) = f i + 2 ∧ ∃ c, 1 ≤ c ∧ c < (w.at i).2 ∧ w'.at (f i) = ((w.at i).1, c) ∧ w'.at (f i + 1) = (0, (w.at i).2 - c))
  per : ∀ i, f (i + w.posts.length) = f i + w'.posts.length
section
variable {w w' : Wy} {f : Nat → Nat} (F : Fine w w' f)
include F
theorem Fine.lt (i : Nat) : f i < f (i + 1) := by
  rcases F.next i with ⟨h, _⟩ | ⟨h, _⟩ <;> omega
theorem Fine.mono : ∀ (n i : Nat), f i + n ≤ f (i + n)
  | 0, i => Nat.le_refl _
  | n + 1, i => by
    have h1 := Fine.mono n i
    have h2 := F.lt (i + n)
    rw [Nat.add_assoc] at h2
    omega
theorem Fine.leg (ok : w.ok) (i : Nat) : w'.st (f i) (f (i + 1) - f i) = w.leg i := by
  obtain ⟨k1, k2, k3, k4⟩ := ok.at_ok i
  rcases F.next i with ⟨h, e⟩ | ⟨h, c, c1, c2, e1, e2⟩
  · rw [h, Nat.add_sub_cancel_left, st_one]
    unfold Wy.leg
    rw [e, F.cap]
  · rw [h, Nat.add_sub_cancel_left, ← st_succ w' (f i) (Nat.le_refl 1), st_one]
    unfold Wy.leg
    rw [e1, e2, F.cap]
    generalize (w.at i).1 = o at k1 k2
    generalize (w.at i).2 = s at k3 k4 c2
    generalize w.cap = cp
    by_cases h1 : cp < s
    · rw [if_pos h1]
      by_cases h2 : cp < c
      · rw [if_pos (show cp < ((o, c) : Int × Int).2 from h2)]
        exact (show bar.join _ = bar from by cases (if cp < ((0, s - c) : Int × Int).2 then bar else _ : St3) <;> rfl)
      · rw [if_neg (show ¬ cp < ((o, c) : Int × Int).2 from h2)]
        by_cases h3 : cp < s - c
        · rw [if_pos (show cp < ((0, s - c) : Int × Int).2 from h3)]
          rfl
        · rw [if_neg (show ¬ cp < ((0, s - c) : Int × Int).2 from h3)]
          show (if cp - c < max 0 (s - c - 0) then bar else _) = bar
          rw [if_pos (by omega)]
    · rw [if_neg h1, if_neg (show ¬ cp < ((o, c) : Int × Int).2 from by show ¬ cp < c; omega), if_neg (show ¬ cp < ((0, s - c) : Int × Int).2 from by show ¬ cp < s - c; omega)]
      show (if cp - c < max 0 (s - c - 0) then bar else (⟨some (max (max 0 (c - o)) (max 0 (s - c - 0) - (o - c))), o - c + (0 - (s - c)), min (cp - c + (0 - (s - c))) (cp - (s - c))⟩ : St3)) = _
      rw [if_neg (by omega)]
      congr 1
      · congr 1
        omega
      · omega
      · omega
theorem Fine.st (ok : w.ok) (i : Nat) : ∀ n, 1 ≤ n → w'.st (f i) (f (i + n) - f i) = w.st i n
  | 0, h => absurd h (by decide)
  | 1, _ => F.leg ok i
  | n + 2, _ => by
    have ih := Fine.st ok i (n + 1) (by omega)
    have l := F.leg ok (i + (n + 1))
    have m1 := F.mono (n + 1) i
    have m2 := F.lt (i + (n + 1))
    have a := st_add w' (f i) (a := f (i + (n + 1)) - f i) (b := f (i + (n + 1) + 1) - f (i + (n + 1))) (by omega) (by omega)
    rw [show f i + (f (i + (n + 1)) - f i) = f (i + (n + 1)) by omega, ih, l, show f (i + (n + 1)) - f i + (f (i + (n + 1) + 1) - f (i + (n + 1))) = f (i + (n + 2)) - f i by rw [show i + (n + 1) + 1 = i + (n + 2) by omega] at m2 ⊢; omega] at a
    rw [← a, st_succ w i (by omega)]
theorem Fine.walk (ok : w.ok) (ok' : w'.ok) (i n : Nat) {o : Int} (ho : 0 ≤ o) : w'.walk (f i) o (f (i + n) - f i) = w.walk i o n := by
  by_cases h : n = 0
  · subst h
    rw [Nat.add_zero, Nat.sub_self]
    rfl
  · have m := F.mono n i
    rw [← st_call ok' (f i) ho (by omega), ← st_call ok i ho (by omega), F.st ok i n (by omega)]
theorem Fine.per2 (i : Nat) : ∀ k, f (i + w.posts.length * k) = f i + w'.posts.length * k
  | 0 => by simp
  | k + 1 => by
    rw [Nat.mul_succ, ← Nat.add_assoc, F.per, Fine.per2 i k, Nat.mul_succ, Nat.add_assoc]
theorem Fine.len (i : Nat) : f (i + w.posts.length) - f i = w'.posts.length := by
  rw [F.per, Nat.add_sub_cancel_left]
theorem Fine.nets (i : Nat) : ∀ n, w'.nets (f i) (f (i + n) - f i) = w.nets i n
  | 0 => by
    rw [Nat.add_zero, Nat.sub_self]
    rfl
  | n + 1 => by
    have ih := Fine.nets i n
    have m := F.mono n i
    rcases F.next (i + n) with ⟨h, e⟩ | ⟨h, c, c1, c2, e1, e2⟩
    · rw [← Nat.add_assoc, h, show f (i + n) + 1 - f i = (f (i + n) - f i) + 1 by omega]
      simp only [Wy.nets, Wy.net]
      rw [ih, show f i + (f (i + n) - f i) = f (i + n) by omega, e]
    · rw [← Nat.add_assoc, h, show f (i + n) + 2 - f i = (f (i + n) - f i) + 1 + 1 by omega]
      simp only [Wy.nets, Wy.net]
      rw [ih, show f i + (f (i + n) - f i + 1) = f (i + n) + 1 by omega, show f i + (f (i + n) - f i) = f (i + n) by omega, e1, e2]
      show w.nets i n + ((w.at (i + n)).1 - c) + (0 - ((w.at (i + n)).2 - c)) = _
      omega
theorem Fine.surplus : w'.surplus = w.surplus := by
  rw [← nets_surplus w' (f 0), ← nets_surplus w 0, ← F.len 0]
  exact F.nets 0 _
theorem Fine.endless (ok : w.ok) (ok' : w'.ok) (i : Nat) {o : Int} (ho : 0 ≤ o) : w'.endless (f i) o = w.endless i o := by
  unfold Wy.endless
  have e : f (i + w.posts.length * 2) - f i = 2 * w'.posts.length := by
    rw [F.per2]
    omega
  rw [F.surplus, ← e, F.walk ok ok' i _ ho, Nat.mul_comm]
theorem Fine.lst (ok : w.ok) (i : Nat) : w'.lst (f i) = w.lst i := by
  unfold Wy.lst
  have e : f (i + w.posts.length * 2) - f i = 2 * w'.posts.length := by
    rw [F.per2]
    omega
  have n := ok.n1
  rw [F.surplus, ← e, F.st ok i _ (by omega), Nat.mul_comm]
theorem Fine.sett (ok : w.ok) (ok' : w'.ok) (i : Nat) {o : Int} (ho : 0 ≤ o) : w'.sett (f i) o = w.sett i o := by
  unfold Wy.sett
  have n := ok.n1
  rw [F.endless ok ok' i ho, F.surplus, ← F.len i, F.st ok i _ n]
theorem Fine.lack (i : Nat) : ∀ n, 1 ≤ n → w'.lack (f i) (f (i + n) - f i) = w.lack i n
  | 0, h => absurd h (by decide)
  | 1, _ => by
    rcases F.next i with ⟨h, e⟩ | ⟨h, c, c1, c2, e1, e2⟩
    · rw [h, Nat.add_sub_cancel_left, lack_one, lack_one, e]
    · rw [h, Nat.add_sub_cancel_left, lack_succ w' (f i) (Nat.le_refl 1), lack_one, lack_one, e1, e2]
      show c + ((w.at i).2 - c - 0) = _
      omega
  | n + 2, _ => by
    have ih := Fine.lack i (n + 1) (by omega)
    have m := F.mono (n + 1) i
    rw [lack_succ w i (by omega), ← ih]
    rcases F.next (i + (n + 1)) with ⟨h, e⟩ | ⟨h, c, c1, c2, e1, e2⟩
    · rw [show i + (n + 2) = i + (n + 1) + 1 by omega, h, show f (i + (n + 1)) + 1 - f i = (f (i + (n + 1)) - f i) + 1 by omega, lack_succ w' (f i) (by omega), show f i + (f (i + (n + 1)) - f i) = f (i + (n + 1)) by omega, e]
    · rw [show i + (n + 2) = i + (n + 1) + 1 by omega, h, show f (i + (n + 1)) + 2 - f i = (f (i + (n + 1)) - f i) + 1 + 1 by omega, lack_succ w' (f i) (by omega), lack_succ w' (f i) (by omega), show f i + (f (i + (n + 1)) - f i + 1) = f (i + (n + 1)) + 1 by omega, show f i + (f (i + (n + 1)) - f i) = f (i + (n + 1)) by omega, e1, e2]
      show _ + (c - (w.at (i + (n + 1))).1) + ((w.at (i + (n + 1))).2 - c - 0) = _
      omega
/-- each place stands at an old post or in the middle of a leg -/
theorem Fine.place : ∀ x, ∃ i, x = f i ∨ (x = f i + 1 ∧ f (i + 1) = f i + 2)
  | 0 => ⟨0, .inl F.zero.symm⟩
  | x + 1 => by
    obtain ⟨i, h | ⟨h, h2⟩⟩ := Fine.place x
    · rcases F.next i with ⟨h3, _⟩ | ⟨h3, _⟩
      · exact ⟨i + 1, .inl (by omega)⟩
      · exact ⟨i, .inr ⟨by omega, h3⟩⟩
    · exact ⟨i + 1, .inl (by omega)⟩
/-- from an old post on: a stretch lacks no more than one that ends at an old post -/
theorem Fine.ends (ok : w.ok) (i : Nat) {m : Nat} (hm : 1 ≤ m) : ∃ n, 1 ≤ n ∧ f (i + (n - 1)) < f i + m ∧ w'.lack (f i) m ≤ w.lack i n := by
  obtain ⟨j, hj⟩ := F.place (f i + m)
  have hij : i ≤ j := by
    rcases Nat.lt_or_ge j i with h | h
    · exfalso
      have h1 := F.mono (i - (j + 1)) (j + 1)
      rw [show j + 1 + (i - (j + 1)) = i by omega] at h1
      have h2 := F.lt j
      rcases hj with e | ⟨e, e2⟩ <;> omega
    · exact h
  rcases hj with e | ⟨e, e2⟩
  · have hne : i ≠ j := fun h => by
      subst h
      omega
    refine ⟨j - i, by omega, ?_, ?_⟩
    · have := F.lt (i + (j - i - 1))
      rw [show i + (j - i - 1) + 1 = j by omega] at this
      omega
    rw [← F.lack i (j - i) (by omega), show i + (j - i) = j by omega, show f j - f i = m by omega]
    exact Int.le_refl _
  · refine ⟨j + 1 - i, by omega, by rw [show i + (j + 1 - i - 1) = j by omega]; omega, ?_⟩
    rw [← F.lack i (j + 1 - i) (by omega), show i + (j + 1 - i) = j + 1 by omega, e2, show f j + 2 - f i = m + 1 by omega, lack_succ w' (f i) hm, e]
    rcases F.next j with ⟨h, _⟩ | ⟨h, c, c1, c2, e1, e3⟩
    · omega
    · rw [e3]
      show _ ≤ _ + ((w.at j).2 - c - 0)
      omega
theorem Fine.most (ok : w.ok) {x m : Nat} (h1 : 1 ≤ m) (h2 : m ≤ w'.posts.length) : ∃ p n, p < w.posts.length ∧ 1 ≤ n ∧ n ≤ w.posts.length ∧ w'.lack x m ≤ w.lack p n := by
  have hL := ok.n1
  have fin : ∀ i n, 1 ≤ n → n ≤ w.posts.length → w'.lack x m ≤ w.lack i n → ∃ p n, p < w.posts.length ∧ 1 ≤ n ∧ n ≤ w.posts.length ∧ w'.lack x m ≤ w.lack p n := fun i n a b c =>
    ⟨i % w.posts.length, n, Nat.mod_lt _ hL, a, b, by rw [lack_mod]; exact c⟩
  have far : ∀ i n, w.posts.length < n → f i + w'.posts.length ≤ f (i + (n - 1)) := fun i n h => by
    have a := F.mono (n - 1 - w.posts.length) (i + w.posts.length)
    rw [F.per, show i + w.posts.length + (n - 1 - w.posts.length) = i + (n - 1) by omega] at a
    omega
  obtain ⟨i, rfl | ⟨rfl, hi⟩⟩ := F.place x
  · obtain ⟨n, n1, a, c⟩ := F.ends ok i h1
    by_cases hn : n ≤ w.posts.length
    · exact fin i n n1 hn c
    · have := far i n (by omega)
      omega
  · obtain ⟨n, n1, a, c⟩ := F.ends ok i (m := m + 1) (by omega)
    rcases F.next i with ⟨h, _⟩ | ⟨h, cc, c1, c2, e1, e2⟩
    · omega
    · have e3 := lack_front w' (f i) h1
      rw [e1, e2] at e3
      have e4 : w'.lack (f i) (m + 1) = w'.lack (f i + 1) m + (cc - 0) := e3
      by_cases hn : n ≤ w.posts.length
      · exact fin i n n1 hn (by omega)
      · have := far i n (by omega)
        have hm : m = w'.posts.length := by omega
        -- a whole round from the middle of a leg
        have e5 := F.lack i w.posts.length hL
        rw [F.len] at e5
        have e6 := lack_front w' (f i) (n := w'.posts.length) (by omega)
        have e7 := lack_round w' (f i) (Nat.le_refl 1)
        rw [Nat.add_comm 1] at e7
        rw [e1, e2] at e6
        have e8 : w'.lack (f i) (w'.posts.length + 1) = w'.lack (f i + 1) w'.posts.length + (cc - 0) := e6
        rw [lack_one, e1] at e7
        have e9 : w'.lack (f i) (w'.posts.length + 1) = cc - w'.surplus := e7
        have l2 : w'.posts.length = (w'.posts.length - 1) + 1 := by omega
        refine fin i w.posts.length hL (Nat.le_refl _) ?_
        rw [hm]
        -- the round from the old post lacks as much more as there is oil
        have r1 : w.lack i w.posts.length = (w.at i).1 - w.surplus := by
          have a1 := lack_round w i (Nat.le_refl 1)
          rw [Nat.add_comm 1, lack_succ w i hL, lack_one] at a1
          have a2 : w.at (i + w.posts.length) = w.at i := at_cong (by rw [Nat.add_mod_right])
          rw [a2] at a1
          omega
        have k1 := (ok.at_ok i).1
        rw [r1, ← F.surplus]
        omega
theorem Fine.worst (ok : w.ok) (ok' : w'.ok) {p n p' n' : Nat} (a : Worst w p n) (b : Worst w' p' n') : w'.lack p' n' = w.lack p n := by
  obtain ⟨q, m, hq, m1, m2, h⟩ := F.most ok (x := p') b.n1 b.n2
  have h2 := a.le hq m1 m2
  have hL' := ok'.n1
  have e := F.lack p n a.n1
  have k1 := F.mono n p
  have n1 := a.n1
  have k2 : f (p + n) - f p ≤ w'.posts.length := by
    have h3 := F.mono (w.posts.length - n) (p + n)
    have h4 := a.n2
    rw [show p + n + (w.posts.length - n) = p + w.posts.length by omega, F.per] at h3
    omega
  have h5 := b.le (q := f p % w'.posts.length) (m := f (p + n) - f p) (Nat.mod_lt _ hL') (by omega) k2
  rw [lack_mod, e] at h5
  omega
end
/-! ### by lists -/
/-- the first j posts, some told as two; g: where they stand -/
structure Cut (ps : List (Int × Int)) (j : Nat) (g : Nat → Nat) (qs : List (Int × Int)) : Prop where
  zero : g 0 = 0
  len : g j = qs.length
  next : ∀ k p, k < j → ps[k]? = some p → (g (k + 1) = g k + 1 ∧ qs[g k]? = some p) ∨ (g (k + 1) = g k + 2 ∧ ∃ c, 1 ≤ c ∧ c < p.2 ∧ qs[g k]? = some (p.1, c) ∧ qs[g k + 1]? = some (0, p.2 - c))
theorem cut_nil (ps : List (Int × Int)) : Cut ps 0 (fun _ => 0) [] := ⟨rfl, rfl, fun _ _ h => absurd h (by omega)⟩
section
variable {ps qs : List (Int × Int)} {j : Nat} {g : Nat → Nat}
theorem Cut.up (C : Cut ps j g qs) (hj : j ≤ ps.length) : ∀ k, k ≤ j → g k + (j - k) ≤ qs.length := fun k hk => by
  obtain ⟨m, rfl⟩ : ∃ m, j = k + m := ⟨j - k, by omega⟩
  induction m generalizing k with
  | zero => rw [← C.len]; simp
  | succ m ih =>
    have h := ih (k + 1) (by rw [show k + 1 + m = k + (m + 1) by omega]; exact C) (by omega) (by omega)
    rcases C.next k ps[k] (by omega) (List.getElem?_eq_getElem (by omega)) with ⟨e, _⟩ | ⟨e, _⟩ <;> omega
/-- the next post, whole or as two -/
theorem Cut.more (C : Cut ps j g qs) (hj : j < ps.length) {more : List (Int × Int)} (h : more = [ps[j]] ∨ ∃ c, 1 ≤ c ∧ c < ps[j].2 ∧ more = [(ps[j].1, c), (0, ps[j].2 - c)]) :
    Cut ps (j + 1) (fun k => if k ≤ j then g k else (qs ++ more).length) (qs ++ more) := by
  refine ⟨by rw [if_pos (Nat.zero_le _)]; exact C.zero, by rw [if_neg (by omega)], fun k p hk hp => ?_⟩
  rw [if_pos (show k ≤ j by omega)]
  by_cases e : k = j
  · subst e
    rw [if_neg (by omega), C.len, List.length_append]
    rw [List.getElem?_eq_getElem hj] at hp
    cases hp
    rcases h with rfl | ⟨c, c1, c2, rfl⟩
    · refine .inl ⟨rfl, ?_⟩
      rw [List.getElem?_append_right (Nat.le_refl _), Nat.sub_self]
      rfl
    · refine .inr ⟨rfl, c, c1, c2, ?_, ?_⟩
      · rw [List.getElem?_append_right (Nat.le_refl _), Nat.sub_self]
        rfl
      · rw [List.getElem?_append_right (by omega), Nat.add_sub_cancel_left]
        rfl
  · rw [if_pos (show k + 1 ≤ j by omega)]
    have u := C.up (by omega) k (by omega)
    have u2 := C.up (by omega) (k + 1) (by omega)
    rcases C.next k p (by omega) hp with ⟨e1, e2⟩ | ⟨e1, c, c1, c2, e2, e3⟩
    · exact .inl ⟨e1, by rw [List.getElem?_append_left (by omega)]; exact e2⟩
    · exact .inr ⟨e1, c, c1, c2, by rw [List.getElem?_append_left (by omega)]; exact e2, by rw [List.getElem?_append_left (by omega)]; exact e3⟩
end
def posOf (L L' : Nat) (g : Nat → Nat) (i : Nat) : Nat := L' * (i / L) + g (i % L)
theorem fine_of {w : Wy} {g : Nat → Nat} {qs : List (Int × Int)} (hn : 1 ≤ w.posts.length) (C : Cut w.posts w.posts.length g qs) : Fine w ⟨w.cap, qs⟩ (posOf w.posts.length qs.length g) := by
  have step : ∀ i, posOf w.posts.length qs.length g (i + 1) = qs.length * (i / w.posts.length) + g (i % w.posts.length + 1) := fun i => by
    unfold posOf
    have hr : i % w.posts.length < w.posts.length := Nat.mod_lt _ hn
    have hd := Nat.div_add_mod i w.posts.length
    by_cases h : i % w.posts.length + 1 < w.posts.length
    · have e1 : (i + 1) / w.posts.length = i / w.posts.length := by
        rw [← hd, Nat.add_assoc, Nat.mul_add_div hn, Nat.mul_add_div hn, Nat.div_eq_of_lt h, Nat.div_eq_of_lt hr]
      have e2 : (i + 1) % w.posts.length = i % w.posts.length + 1 := by
        rw [← Nat.mod_add_mod, Nat.mod_eq_of_lt h]
      rw [e1, e2]
    · have hl : i % w.posts.length + 1 = w.posts.length := by omega
      have e0 : i + 1 = w.posts.length * (i / w.posts.length + 1) := by
        rw [Nat.mul_succ]
        omega
      have e1 : (i + 1) / w.posts.length = i / w.posts.length + 1 := by
        rw [e0, Nat.mul_div_cancel_left _ hn]
      have e2 : (i + 1) % w.posts.length = 0 := by
        rw [e0, Nat.mul_mod_right]
      rw [e1, e2, hl, C.len, C.zero, Nat.mul_succ]
      rfl
  have at_ : ∀ (q x : Nat) (p : Int × Int), qs[x]? = some p → (⟨w.cap, qs⟩ : Wy).at (qs.length * q + x) = p := fun q x p h => by
    rw [Nat.add_comm]
    have e := at_per (⟨w.cap, qs⟩ : Wy) x q
    rw [show (⟨w.cap, qs⟩ : Wy).posts.length = qs.length from rfl] at e
    rw [e]
    exact at_opt h
  refine ⟨rfl, ?_, fun i => ?_, fun i => ?_⟩
  · unfold posOf
    rw [Nat.zero_div, Nat.zero_mod, C.zero]
    simp
  · have hr : i % w.posts.length < w.posts.length := Nat.mod_lt _ hn
    have hp : w.posts[i % w.posts.length]? = some (w.at i) := by
      rw [← at_mod w i]
      exact opt_at hr
    rw [step i]
    unfold posOf
    rcases C.next _ _ hr hp with ⟨e1, e2⟩ | ⟨e1, c, c1, c2, e2, e3⟩
    · exact .inl ⟨by rw [e1, Nat.add_assoc], at_ _ _ _ e2⟩
    · exact .inr ⟨by rw [e1, Nat.add_assoc], c, c1, c2, at_ _ _ _ e2, by rw [Nat.add_assoc]; exact at_ _ _ _ e3⟩
  · unfold posOf
    rw [Nat.add_div_right _ hn, Nat.add_mod_right, Nat.mul_succ]
    show _ = _ + qs.length
    omega
theorem posOf_lt {L L' : Nat} {g : Nat → Nat} {i : Nat} (h : i < L) : posOf L L' g i = g i := by
  unfold posOf
  rw [Nat.div_eq_of_lt h, Nat.mod_eq_of_lt h]
  simp
end Oil
set_option Elab.async false
set_option linter.all false
set_option maxRecDepth 100000
set_option maxHeartbeats 2000000
/-! Comprehensions of plain values; members of lists of ints; lists of numbers or None as data. -/
namespace Oil
open PySem PySem.Spec PyProof.Rows L2
theorem inV_ints (z : Int) (ns : List Int) : inV (.int z) (ns.map V.int) = decide (z ∈ ns) := by
  induction ns with
  | nil => simp [inV]
  | cons n ns ih =>
    have e : inV (.int z) ((n :: ns).map V.int) = (eqV (.int n) (.int z) || inV (.int z) (ns.map V.int)) := by simp [inV]
    rw [e, ih]
    have e2 : eqV (.int n) (.int z) = decide (n = z) := by simp [eqV, Bool.beq_eq_decide_eq]
    rw [e2]
    by_cases h : n = z
    · subst h
      simp
    · have h' : ¬ z = n := fun k => h k.symm
      simp [h, h']
theorem flat_ints : ∀ ns : List Int, (ns.map V.int).all flatV = true
  | [] => rfl
  | n :: ns => by
    rw [List.map_cons, List.all_cons, flat_ints ns]
    rfl
/-- z in l, as a test -/
theorem tinL {K : PySem.W.Frag} {H : Hp} {z : Int} {p : Addr} {ns : List Int} {Qt Qf : Hp → Prop} (h : SqL K H p (ns.map V.int)) (ht : z ∈ ns → Qt H) (hf : z ∉ ns → Qf H) : rIn K false (.int z) (.ref p) H (fun z H3 => ∃ k, z = .bl k ∧ br Qt Qf k H3) := by
  refine ⟨p, _, rfl, .inl h, rfl, flat_ints ns, _, rfl, ?_⟩
  show br Qt Qf (inV (.int z) (ns.map V.int)) H
  rw [inV_ints]
  exact br_dec ht hf
section
variable {X : Cx} {σ : L2.St} {H : Hp} {Q : VK} {D : Ends} {pos cpos p p2 : Pos} {tg iter elt c e a b : Expr} {scope : Scope} {own : List (Str × Nat)}
/-- [elt for x in range(n)], by values -/
theorem lc_rngV {H1 : Hp} (m : Nat) (g : Nat → V) (n : Nat) (hn : n ≤ 1000)
    (hg : ∀ Y, IsBlk X scope Y → ∀ (v : V) (σ : L2.St) (H : Hp) (R : L2.St → Hp → Prop), R (σ.set m (some v)) H → GV Y tg v σ H R)
    (he : ∀ Y, IsBlk X scope Y → ∀ (z : Nat) (H' : Hp) (R : VK), z < n → Same H1 H' → (∀ H2, Same H' H2 → R (g z) H2) → EV Y elt ((wipe σ (own.map (·.2))).set m (some (.int (z : Nat)))) H' R)
    (q : ∀ H' D, Same H1 H' → H1 D = none → H' D = some (.lst ((List.range n).map g)) → Q (.ref D) H')
    (hw : ∀ v : V, wipe ((wipe σ (own.map (·.2))).set m (some v)) (own.map (·.2)) = wipe σ (own.map (·.2)) := by intro _; rfl) : LcR X scope own tg elt σ Q n H1 := by
  intro D zD
  refine ⟨fun i H' => Same H1 H' ∧ H' D = some (.lst ((List.range i).map g)), ⟨same_upd' (Same.refl _) zD, upd_same⟩, fun i H' hi hp => ?_, fun H' hp => q H' D hp.1 zD hp.2⟩
  obtain ⟨S, hD⟩ := hp
  intro Y hY
  refine hg Y hY _ _ _ _ ⟨hw _, fun Y2 hY2 => he Y2 hY2 i _ _ hi S fun H2 S2 => ⟨_, S2 _ _ hD, by rw [sizeLine_eq]; simp; omega, same_upd' (Same.trans S S2) zD, ?_⟩⟩
  rw [upd_same, List.range_succ, List.map_append]
  rfl
/-- [x for x in ns if c], c by g -/
theorem lc_filtI {x : Str} {q1 q2 : Pos} {ns : List Int} {H1 : Hp} {K0 : Hp → Prop} (m : Nat) (g : Int → Bool) (hn : ns.length ≤ 1000) (hK : ∀ H', Same H1 H' → K0 H')
    (ht : ∀ Y (z : Int) H', IsBlk X scope Y → z ∈ ns → Same H1 H' → TV Y c ((wipe σ (own.map (·.2))).set m (some (.int z))) H' (fun H3 => g z = true ∧ Same H' H3) (fun H3 => g z = false ∧ Same H' H3))
    (q : ∀ H' D, Same H1 H' → H1 D = none → H' D = some (.lst ((ns.filter g).map V.int)) → Q (.ref D) H')
    (hg : ∀ Y, IsBlk X scope Y → ∀ (v : V) (σ : L2.St) (H : Hp) (R : L2.St → Hp → Prop), R (σ.set m (some v)) H → GV Y (.Name x q1) v σ H R)
    (he : ∀ Y, IsBlk X scope Y → ∀ (v : V) (H : Hp) (R : VK), R v H → EV Y (.Name x q2) ((wipe σ (own.map (·.2))).set m (some v)) H R)
    (hw : ∀ v : V, wipe ((wipe σ (own.map (·.2))).set m (some v)) (own.map (·.2)) = wipe σ (own.map (·.2)) := by intro _; rfl) : LcLi X scope own (.Name x q1) c (.Name x q2) σ Q (ns.map V.int) K0 H1 := by
  intro D zD
  have len : ∀ i, ((ns.take i).filter g).length ≤ ns.length := fun i => Nat.le_trans (List.length_filter_le _ _) (by rw [List.length_take]; omega)
  refine ⟨fun i H' => Same H1 H' ∧ H' D = some (.lst (((ns.take i).filter g).map V.int)), ⟨same_upd' (Same.refl _) zD, upd_same⟩, fun i H' _ hp => hK _ hp.1, fun i x H' hx hp => ?_, fun H' hp => q H' D hp.1 zD (by have h := hp.2; rw [List.length_map, List.take_length] at h; exact h)⟩
  obtain ⟨S, hD⟩ := hp
  have hi : i < ns.length := by
    have := (List.getElem?_eq_some_iff.mp hx).1
    rw [List.length_map] at this
    exact this
  have ex : x = .int ns[i] := by
    rw [List.getElem?_map, List.getElem?_eq_getElem hi] at hx
    exact (Option.some.inj hx).symm
  subst ex
  intro Y hY
  refine hg Y hY _ _ _ _ ⟨hw _, fun Y2 hY2 => ?_⟩
  have e : (ns.take (i + 1)).filter g = (ns.take i).filter g ++ if g ns[i] = true then [ns[i]] else [] := by
    rw [List.take_succ, List.getElem?_eq_getElem hi, List.filter_append]
    show _ ++ [ns[i]].filter g = _
    rw [List.filter_cons, List.filter_nil]
  refine BV.mono (ht Y2 ns[i] H' hY2 (List.getElem_mem hi) S) fun b H3 z => ?_
  cases b with
  | true =>
    obtain ⟨z1, z2⟩ : g ns[i] = true ∧ Same H' H3 := z
    intro Y3 hY3
    refine he Y3 hY3 _ _ _ ⟨_, z2 _ _ hD, by have := len i; rw [sizeLine_eq, List.length_map]; omega, same_upd' (Same.trans S z2) zD, ?_⟩
    rw [upd_same, e, if_pos z1, List.map_append]
    rfl
  | false =>
    obtain ⟨z1, z2⟩ : g ns[i] = false ∧ Same H' H3 := z
    have goal : Same H1 H3 ∧ H3 D = some (.lst (((ns.take (i + 1)).filter g).map V.int)) := by
      refine ⟨Same.trans S z2, ?_⟩
      rw [e, z1, if_neg Bool.false_ne_true, List.append_nil]
      exact z2 _ _ hD
    exact goal
end
/-! ### lists of numbers or None -/
def dNs (xs : List (Option Int)) : PyData := .list (xs.map dN)
theorem dp_nsA {K : PySem.W.Frag} {H : Hp} : ∀ xs : List (Option Int), DpAll K H (xs.map vN) (xs.map dN)
  | [] => .nil
  | x :: xs => .cons (dp_vN x) (dp_nsA xs)
theorem dp_ns {K : PySem.W.Frag} {H : Hp} {a : Addr} {xs : List (Option Int)} (h : SqL K H a (xs.map vN)) : Dp K H (.ref a) (dNs xs) := .lst h (dp_nsA xs)
theorem ns_lay : ∀ xs : List (Option Int), PyData.canLayAll0 (xs.map dN) = true
  | [] => by simp [PyData.canLayAll0]
  | none :: xs => by simp [PyData.canLayAll0, dN, PyData.canLay0, ns_lay xs]
  | some _ :: xs => by simp [PyData.canLayAll0, dN, PyData.canLay0, ns_lay xs]
theorem ns_depth : ∀ xs : List (Option Int), PyData.depthAll (xs.map dN) = 0
  | [] => by simp [PyData.depthAll]
  | none :: xs => by
    have h := ns_depth xs
    simp only [List.map_cons, PyData.depthAll, dN, PyData.depth]
    omega
  | some _ :: xs => by
    have h := ns_depth xs
    simp only [List.map_cons, PyData.depthAll, dN, PyData.depth]
    omega
theorem shaped_ns (xs : List (Option Int)) : SeqAt.shaped (dNs xs) = true := by
  have h1 := ns_depth xs
  have h2 : PyData.depth (dNs xs) ≤ 64 := by
    simp only [dNs, PyData.depth]
    omega
  show (PyData.canLay0 (dNs xs) && decide (PyData.depth (dNs xs) ≤ 64)) = true
  rw [Bool.and_eq_true]
  exact ⟨by simp only [dNs, PyData.canLay0]; exact ns_lay xs, decide_eq_true h2⟩
theorem nsA_eqv : ∀ xs : List (Option Int), PyData.eqvAll (xs.map dN) (xs.map dN) = true
  | [] => by simp [PyData.eqvAll]
  | none :: xs => by simp [PyData.eqvAll, dN, PyData.eqv, nsA_eqv xs]
  | some _ :: xs => by simp [PyData.eqvAll, dN, PyData.eqv, nsA_eqv xs]
theorem eqv_ns (xs : List (Option Int)) : PyData.eqv (dNs xs) (dNs xs) = true := by
  simp only [dNs, PyData.eqv]
  exact nsA_eqv xs
end Oil
set_option Elab.async false
set_option linter.all false
set_option maxRecDepth 100000
set_option maxHeartbeats 2000000
/-! Plain laws: the fewest stops. -/
namespace Oil
open PySem PySem.Spec PyProof.Rows L2
/-- one leg, with a stop or without -/
def Wy.stopLeg (w : Wy) (i : Nat) (s : Bool) (u : Int) : Option Int :=
  if (if s = true then min w.cap (u + (w.at i).1) else u) < (w.at i).2 then none else some ((if s = true then min w.cap (u + (w.at i).1) else u) - (w.at i).2)
/-- n legs from i, with stops ahead of the legs that S tells -/
def Wy.stp (w : Wy) (i : Nat) (o : Int) (S : List Int) : Nat → Option Int
  | 0 => some o
  | n + 1 => (w.stp i o S n).bind (w.stopLeg (i + n) (decide ((n : Int) ∈ S)))
theorem stp_cong {w : Wy} {i : Nat} {o : Int} {S T : List Int} : ∀ {n : Nat}, (∀ m : Nat, m < n → ((m : Int) ∈ S ↔ (m : Int) ∈ T)) → w.stp i o S n = w.stp i o T n
  | 0, _ => rfl
  | n + 1, h => by
    have e : decide ((n : Int) ∈ S) = decide ((n : Int) ∈ T) := decide_eq_decide.mpr (h n (by omega))
    simp only [Wy.stp, stp_cong (n := n) fun m hm => h m (by omega), e]
/-- c ascending numbers below n -/
structure Asc (n c : Nat) (S : List Int) : Prop where
  up : S.Pairwise (· < ·)
  lo : ∀ z ∈ S, 0 ≤ z ∧ z < n
  len : S.length = c
theorem asc_nil : Asc 0 0 [] := ⟨.nil, fun z h => (by cases h), rfl⟩
theorem Asc.wider {n c : Nat} {S : List Int} (h : Asc n c S) : Asc (n + 1) c S := ⟨h.up, fun z hz => by have := h.lo z hz; omega, h.len⟩
theorem Asc.more {n c : Nat} {S : List Int} (h : Asc n c S) : Asc (n + 1) (c + 1) (S ++ [(n : Int)]) := by
  refine ⟨List.pairwise_append.mpr ⟨h.up, List.pairwise_singleton _ _, fun x hx y hy => ?_⟩, fun z hz => ?_, by rw [List.length_append, h.len]; rfl⟩
  · rw [List.mem_singleton.mp hy]
    exact (h.lo x hx).2
  · rcases List.mem_append.mp hz with h2 | h2
    · have := h.lo z h2
      omega
    · rw [List.mem_singleton.mp h2]
      omega
theorem Asc.notin {n c : Nat} {S : List Int} (h : Asc n c S) : (n : Int) ∉ S := fun hz => by
  have := h.lo _ hz
  omega
/-- the last one off, if it is n -/
theorem Asc.split {n c : Nat} {S : List Int} (h : Asc (n + 1) c S) : ((n : Int) ∉ S ∧ Asc n c S) ∨ ∃ S0 c0, c = c0 + 1 ∧ S = S0 ++ [(n : Int)] ∧ Asc n c0 S0 := by
  by_cases hn : (n : Int) ∈ S
  · right
    have hne : S ≠ [] := fun e => by
      rw [e] at hn
      cases hn
    have hS := List.dropLast_concat_getLast hne
    have hl : S.getLast hne = (n : Int) := by
      have a := (h.lo _ (List.getLast_mem hne)).2
      rw [← hS] at hn
      rcases List.mem_append.mp hn with h2 | h2
      · have hp := h.up
        rw [← hS] at hp
        have := (List.pairwise_append.mp hp).2.2 _ h2 _ (List.mem_singleton.mpr rfl)
        omega
      · exact (List.mem_singleton.mp h2).symm
    rw [hl] at hS
    have hp := h.up
    have hlo := h.lo
    have hle := h.len
    rw [← hS] at hp hlo hle
    rw [List.length_append] at hle
    obtain ⟨p1, _, p3⟩ := List.pairwise_append.mp hp
    refine ⟨S.dropLast, S.dropLast.length, ?_, hS.symm, p1, fun z hz => ⟨(hlo z (List.mem_append_left _ hz)).1, p3 z hz _ (List.mem_singleton.mpr rfl)⟩, rfl⟩
    rw [← hle]
    rfl
  · exact .inl ⟨hn, h.up, fun z hz => by
      have a := h.lo z hz
      have b : z ≠ (n : Int) := fun e => hn (by rw [← e]; exact hz)
      omega, h.len⟩
theorem Asc.le {n c : Nat} : ∀ {S : List Int}, Asc n c S → c ≤ n := fun {S} h => by
  induction n generalizing c S with
  | zero =>
    have : S = [] := by
      cases S with
      | nil => rfl
      | cons z zs =>
        have := h.lo z List.mem_cons_self
        omega
    rw [← h.len, this]
    exact Nat.le_refl 0
  | succ n ih =>
    rcases h.split with ⟨_, h2⟩ | ⟨S0, c0, rfl, _, h2⟩
    · have := ih h2
      omega
    · have := ih h2
      omega
/-! ### tables: numbers of stops, the most oil, the stops -/
abbrev Ent := Nat × Int × List Int
def look (T : List Ent) (c : Nat) : Option (Int × List Int) := (T.find? fun e => decide (e.1 = c)).map (·.2)
def put (T : List Ent) (c : Nat) (x : Int × List Int) : List Ent := if (T.any fun e => decide (e.1 = c)) = true then T.map (fun e => if e.1 = c then (e.1, x) else e) else T ++ [(c, x)]
theorem look_mem {T : List Ent} {c : Nat} {x : Int × List Int} (h : look T c = some x) : (c, x) ∈ T := by
  unfold look at h
  cases e : T.find? fun e => decide (e.1 = c) with
  | none =>
    rw [e] at h
    cases h
  | some y =>
    rw [e] at h
    have h1 := List.find?_some e
    have h2 := List.mem_of_find?_eq_some e
    have h3 : y.2 = x := Option.some.inj h
    have h4 : y.1 = c := of_decide_eq_true h1
    obtain ⟨a, b⟩ := y
    simp only at h3 h4
    rw [← h3, ← h4]
    exact h2
theorem look_none {T : List Ent} {c : Nat} : look T c = none ↔ ∀ e ∈ T, e.1 ≠ c := by
  unfold look
  rw [Option.map_eq_none_iff, List.find?_eq_none]
  constructor
  · intro h e he k
    exact h e he (decide_eq_true k)
  · intro h e he k
    exact h e he (of_decide_eq_true k)
theorem look_map (T : List Ent) (c : Nat) (x : Int × List Int) (c' : Nat) : look (T.map fun e => if e.1 = c then (e.1, x) else e) c' = if c' = c then (look T c').map fun _ => x else look T c' := by
  induction T with
  | nil => simp [look]
  | cons e T ih =>
    unfold look at ih ⊢
    rw [List.map_cons, List.find?_cons, List.find?_cons]
    by_cases h : e.1 = c
    · rw [if_pos h]
      by_cases h2 : e.1 = c'
      · have h3 : c' = c := by omega
        rw [decide_eq_true h2, if_pos h3]
        rfl
      · rw [decide_eq_false h2]
        exact ih
    · rw [if_neg h]
      by_cases h2 : e.1 = c'
      · have h3 : ¬ c' = c := by omega
        rw [decide_eq_true h2, if_neg h3]
      · rw [decide_eq_false h2]
        exact ih
theorem look_app (T : List Ent) (e : Ent) (c' : Nat) : look (T ++ [e]) c' = match look T c' with
    | some x => some x
    | none => if e.1 = c' then some e.2 else none := by
  unfold look
  rw [List.find?_append]
  cases h : T.find? fun e => decide (e.1 = c') with
  | some y => rfl
  | none =>
    rw [Option.none_or, List.find?_cons, List.find?_nil]
    by_cases h2 : e.1 = c'
    · simp [h2]
    · simp [h2]
theorem look_put (T : List Ent) (c : Nat) (x : Int × List Int) (c' : Nat) : look (put T c x) c' = if c' = c then some x else look T c' := by
  unfold put
  by_cases h : (T.any fun e => decide (e.1 = c)) = true
  · rw [if_pos h, look_map]
    by_cases e : c' = c
    · rw [if_pos e, if_pos e]
      cases h2 : look T c' with
      | some y => rfl
      | none =>
        exfalso
        obtain ⟨y, hy, k⟩ := List.any_eq_true.mp h
        exact look_none.mp h2 y hy (by rw [e]; exact of_decide_eq_true k)
    · rw [if_neg e, if_neg e]
  · rw [if_neg h, look_app]
    have hn : look T c = none := look_none.mpr fun y hy k => h (List.any_eq_true.mpr ⟨y, hy, decide_eq_true k⟩)
    by_cases e : c' = c
    · subst e
      rw [hn, if_pos rfl]
    · rw [if_neg e]
      cases look T c' with
      | some y => rfl
      | none =>
        show (if c = c' then _ else _) = _
        rw [if_neg (fun k => e k.symm)]
theorem put_mem {T : List Ent} {c : Nat} {x : Int × List Int} {e : Ent} (h : e ∈ put T c x) : e = (c, x) ∨ e ∈ T := by
  unfold put at h
  split at h
  · obtain ⟨y, hy, rfl⟩ := List.mem_map.mp h
    by_cases k : y.1 = c
    · rw [if_pos k]
      exact .inl (by rw [k])
    · rw [if_neg k]
      exact .inr hy
  · rcases List.mem_append.mp h with h | h
    · exact .inr h
    · exact .inl (List.mem_singleton.mp h)
theorem put_keys {T : List Ent} {c : Nat} {x : Int × List Int} (h : (T.map (·.1)).Nodup) : ((put T c x).map (·.1)).Nodup := by
  unfold put
  split
  · rw [List.map_map]
    have e : ((fun e : Ent => e.1) ∘ fun e => if e.1 = c then (e.1, x) else e) = fun e : Ent => e.1 := by
      funext e
      show (if e.1 = c then (e.1, x) else e : Ent).1 = e.1
      split <;> rfl
    rw [e]
    exact h
  · rename_i k
    rw [List.map_append]
    refine List.nodup_append.mpr ⟨h, List.nodup_cons.mpr ⟨fun z => (by cases z), List.nodup_nil⟩, fun a ha b hb => ?_⟩
    rw [List.mem_singleton.mp hb]
    obtain ⟨y, hy, rfl⟩ := List.mem_map.mp ha
    intro e
    exact k (List.any_eq_true.mpr ⟨y, hy, decide_eq_true e⟩)
theorem put_len (T : List Ent) (c : Nat) (x : Int × List Int) : (put T c x).length ≤ T.length + 1 := by
  unfold put
  split
  · rw [List.length_map]
    omega
  · rw [List.length_append]
    exact Nat.le_refl _
section
variable (w : Wy) (i : Nat) (o : Int)
/-- an entry after n legs: so many stops, these, leave so much -/
def Valid (n : Nat) (e : Ent) : Prop := Asc n e.1 e.2.2 ∧ w.stp i o e.2.2 n = some e.2.1
def Dom (T : List Ent) (c : Nat) (g : Int) : Prop := ∃ f r, look T c = some (f, r) ∧ g ≤ f
/-- the table after n legs -/
structure Tab (n : Nat) (T : List Ent) : Prop where
  keys : (T.map (·.1)).Nodup
  ok : ∀ e ∈ T, Valid w i o n e
  all : ∀ c S g, Asc n c S → w.stp i o S n = some g → Dom T c g
end
theorem nodup_lt : ∀ (m : Nat) {l : List Nat}, l.Nodup → (∀ x ∈ l, x < m) → l.length ≤ m
  | 0, l, _, h => by
    cases l with
    | nil => exact Nat.le_refl 0
    | cons x xs => exact absurd (h x List.mem_cons_self) (by omega)
  | m + 1, l, hn, h => by
    have ih := nodup_lt m (hn.erase m) fun x hx => by
      have a := (hn.mem_erase_iff).mp hx
      have b := h x a.2
      have c := a.1
      omega
    have e := List.length_erase (a := m) (l := l)
    split at e <;> omega
section
variable {w : Wy} {i : Nat} {o : Int} {n : Nat}
theorem tab_zero : Tab w i o 0 [(0, o, [])] := by
  refine ⟨List.nodup_cons.mpr ⟨fun z => (by cases z), List.nodup_nil⟩, fun e he => ?_, fun c S g hS hg => ?_⟩
  · rw [List.mem_singleton.mp he]
    exact ⟨asc_nil, rfl⟩
  · have hc := hS.le
    have e : c = 0 := by omega
    subst e
    have hg : some o = some g := hg
    exact ⟨o, [], rfl, by injection hg with hg; omega⟩
theorem Tab.len {T : List Ent} (h : Tab w i o n T) : T.length ≤ n + 1 := by
  have h1 : (T.map (·.1)) ⊆ List.range (n + 1) := fun c hc => by
    obtain ⟨e, he, rfl⟩ := List.mem_map.mp hc
    have := (h.ok e he).1.le
    exact List.mem_range.mpr (by omega)
  have h2 := nodup_lt (n + 1) h.keys fun c hc => List.mem_range.mp (h1 hc)
  rw [List.length_map] at h2
  exact h2
theorem Dom.put {T : List Ent} {c c' : Nat} {g f : Int} {r : List Int} (h : Dom T c g) (hf : ∀ f0 r0, look T c' = some (f0, r0) → f0 ≤ f) : Dom (put T c' (f, r)) c g := by
  obtain ⟨f0, r0, e, k⟩ := h
  unfold Dom
  rw [look_put]
  by_cases hc : c = c'
  · subst hc
    rw [if_pos rfl]
    exact ⟨f, r, rfl, by have := hf f0 r0 e; omega⟩
  · rw [if_neg hc]
    exact ⟨f0, r0, e, k⟩
theorem dom_new {T : List Ent} {c : Nat} {f : Int} {r : List Int} : Dom (put T c (f, r)) c f := ⟨f, r, by rw [look_put, if_pos rfl], Int.le_refl _⟩
/-- what one leg makes of an entry -/
theorem valid_go {e : Ent} (h : Valid w i o n e) {f : Int} (hf : w.stopLeg (i + n) false e.2.1 = some f) : Valid w i o (n + 1) (e.1, f, e.2.2) := by
  refine ⟨h.1.wider, ?_⟩
  show (w.stp i o e.2.2 n).bind _ = some f
  rw [h.2, decide_eq_false h.1.notin]
  exact hf
theorem valid_stop {e : Ent} (h : Valid w i o n e) {f : Int} (hf : w.stopLeg (i + n) true e.2.1 = some f) : Valid w i o (n + 1) (e.1 + 1, f, e.2.2 ++ [(n : Int)]) := by
  refine ⟨h.1.more, ?_⟩
  show (w.stp i o (e.2.2 ++ [(n : Int)]) n).bind _ = some f
  have e1 : w.stp i o (e.2.2 ++ [(n : Int)]) n = w.stp i o e.2.2 n := stp_cong fun m hm => by
    rw [List.mem_append, List.mem_singleton]
    constructor
    · rintro (k | k)
      · exact k
      · omega
    · exact .inl
  rw [e1, h.2, decide_eq_true (List.mem_append_right _ (List.mem_singleton.mpr rfl))]
  exact hf
theorem stopLeg_mono {s : Bool} {u v g : Int} (h : w.stopLeg (i + n) s u = some g) (k : u ≤ v) : ∃ f, w.stopLeg (i + n) s v = some f ∧ g ≤ f := by
  unfold Wy.stopLeg at h ⊢
  cases s with
  | true =>
    rw [if_pos rfl] at h ⊢
    split at h
    · cases h
    · injection h with h
      rw [if_neg (by omega)]
      exact ⟨_, rfl, by omega⟩
  | false =>
    rw [if_neg Bool.false_ne_true] at h ⊢
    split at h
    · cases h
    · injection h with h
      rw [if_neg (by omega)]
      exact ⟨_, rfl, by omega⟩
/-- both candidates of an entry are covered -/
def Cov (w : Wy) (i n : Nat) (T : List Ent) (e : Ent) : Prop := (∀ f, w.stopLeg (i + n) false e.2.1 = some f → Dom T e.1 f) ∧ ∀ f, w.stopLeg (i + n) true e.2.1 = some f → Dom T (e.1 + 1) f
theorem tab_next {T N : List Ent} (h : Tab w i o n T) (hk : (N.map (·.1)).Nodup) (hv : ∀ e ∈ N, Valid w i o (n + 1) e) (hc : ∀ e ∈ T, Cov w i n N e) : Tab w i o (n + 1) N := by
  refine ⟨hk, hv, fun c S g hS hg => ?_⟩
  have hg : (w.stp i o S n).bind (w.stopLeg (i + n) (decide ((n : Int) ∈ S))) = some g := hg
  have up : ∀ {c f g}, Dom N c f → g ≤ f → Dom N c g := fun ⟨f0, r, e, k⟩ h => ⟨f0, r, e, by omega⟩
  rcases hS.split with ⟨hn, h2⟩ | ⟨S0, c0, rfl, rfl, h2⟩
  · cases hu : w.stp i o S n with
    | none =>
      rw [hu] at hg
      cases hg
    | some u =>
      rw [hu, decide_eq_false hn] at hg
      obtain ⟨f, r, e, k⟩ := h.all c S u h2 hu
      obtain ⟨f2, hf, k2⟩ := stopLeg_mono (w := w) (i := i) (n := n) (show w.stopLeg (i + n) false u = some g from hg) k
      exact up ((hc _ (look_mem e)).1 f2 hf) k2
  · have e1 : w.stp i o (S0 ++ [(n : Int)]) n = w.stp i o S0 n := stp_cong fun m hm => by
      rw [List.mem_append, List.mem_singleton]
      constructor
      · rintro (k | k)
        · exact k
        · omega
      · exact .inl
    rw [e1] at hg
    cases hu : w.stp i o S0 n with
    | none =>
      rw [hu] at hg
      cases hg
    | some u =>
      rw [hu, decide_eq_true (List.mem_append_right _ (List.mem_singleton.mpr rfl))] at hg
      obtain ⟨f, r, e, k⟩ := h.all c0 S0 u h2 hu
      obtain ⟨f2, hf, k2⟩ := stopLeg_mono (w := w) (i := i) (n := n) (show w.stopLeg (i + n) true u = some g from hg) k
      exact up ((hc _ (look_mem e)).2 f2 hf) k2
/-! ### stops at all posts are best -/
theorem stp_cap (hc : o ≤ w.cap) (okw : w.ok) (S : List Int) : ∀ {n : Nat} {g : Int}, w.stp i o S n = some g → g ≤ w.cap
  | 0, g, h => by
    injection h with h
    omega
  | n + 1, g, h => by
    have h : (w.stp i o S n).bind _ = some g := h
    cases hu : w.stp i o S n with
    | none =>
      rw [hu] at h
      cases h
    | some u =>
      rw [hu] at h
      have ih := stp_cap hc okw S hu
      have h : w.stopLeg (i + n) (decide ((n : Int) ∈ S)) u = some g := h
      have k := (okw.at_ok (i + n)).2.2.1
      generalize decide ((n : Int) ∈ S) = s at h
      unfold Wy.stopLeg at h
      cases s with
      | true =>
        rw [if_pos rfl] at h
        split at h
        · cases h
        · injection h with h
          omega
      | false =>
        rw [if_neg Bool.false_ne_true] at h
        split at h
        · cases h
        · injection h with h
          omega
theorem stp_walk (hc : o ≤ w.cap) (okw : w.ok) (S : List Int) : ∀ {n : Nat} {g : Int}, w.stp i o S n = some g → ∃ u, w.walk i o n = some u ∧ g ≤ u
  | 0, g, h => by
    injection h with h
    exact ⟨o, rfl, by omega⟩
  | n + 1, g, h => by
    have h : (w.stp i o S n).bind _ = some g := h
    cases hu : w.stp i o S n with
    | none =>
      rw [hu] at h
      cases h
    | some v =>
      rw [hu] at h
      obtain ⟨u, hw, k⟩ := stp_walk hc okw S hu
      have vc := stp_cap hc okw S hu
      have h : w.stopLeg (i + n) (decide ((n : Int) ∈ S)) v = some g := h
      obtain ⟨k1, _, k3, _⟩ := okw.at_ok (i + n)
      have e : w.walk i o (n + 1) = w.step (i + n) u := by
        show (w.walk i o n).bind _ = _
        rw [hw]
        rfl
      rw [e]
      generalize decide ((n : Int) ∈ S) = s at h
      unfold Wy.stopLeg at h
      unfold Wy.step
      cases s with
      | true =>
        rw [if_pos rfl] at h
        split at h
        · cases h
        · injection h with h
          rw [if_neg (by omega)]
          exact ⟨_, rfl, by omega⟩
      | false =>
        rw [if_neg Bool.false_ne_true] at h
        split at h
        · cases h
        · injection h with h
          rw [if_neg (by omega)]
          exact ⟨_, rfl, by omega⟩
theorem walk_stp : ∀ {n : Nat} {S : List Int}, (∀ m : Nat, m < n → (m : Int) ∈ S) → w.stp i o S n = w.walk i o n
  | 0, _, _ => rfl
  | n + 1, S, h => by
    show (w.stp i o S n).bind _ = (w.walk i o n).bind _
    rw [walk_stp fun m hm => h m (by omega)]
    congr 1
    funext u
    rw [decide_eq_true (h n (by omega))]
    unfold Wy.stopLeg Wy.step
    rw [if_pos rfl]
/-- all ascending numbers below n -/
theorem asc_all : ∀ n, Asc n n ((List.range n).map fun z : Nat => (z : Int))
  | 0 => asc_nil
  | n + 1 => by
    rw [List.range_succ, List.map_append]
    exact (asc_all n).more
theorem walk_some {n : Nat} {u : Int} (h : w.walk i o n = some u) : ∃ S, Asc n n S ∧ w.stp i o S n = some u :=
  ⟨_, asc_all n, by rw [walk_stp fun m hm => List.mem_map.mpr ⟨m, List.mem_range.mpr hm, rfl⟩]; exact h⟩
end
/-- the fewest stops with which n legs can be walked: c -/
def Fewest (w : Wy) (i : Nat) (o : Int) (n : Nat) : Option Nat → Prop
  | none => ∀ c S, Asc n c S → w.stp i o S n = none
  | some c => (∃ S g, Asc n c S ∧ w.stp i o S n = some g) ∧ ∀ c' S g, Asc n c' S → w.stp i o S n = some g → c ≤ c'
theorem fewest_one {w : Wy} {i : Nat} {o : Int} {n : Nat} : ∀ {a b : Option Nat}, Fewest w i o n a → Fewest w i o n b → a = b
  | none, none, _, _ => rfl
  | none, some c, h, k => by
    obtain ⟨⟨S, g, hS, hg⟩, _⟩ := k
    rw [h c S hS] at hg
    cases hg
  | some c, none, h, k => by
    obtain ⟨⟨S, g, hS, hg⟩, _⟩ := h
    rw [k c S hS] at hg
    cases hg
  | some c, some d, h, k => by
    obtain ⟨⟨S, g, hS, hg⟩, h2⟩ := h
    obtain ⟨⟨S', g', hS', hg'⟩, k2⟩ := k
    have a := h2 _ _ _ hS' hg'
    have b := k2 _ _ _ hS hg
    congr 1
    omega
theorem fewest_walk {w : Wy} {i : Nat} {o : Int} {n : Nat} {a : Option Nat} (h : Fewest w i o n a) (hc : o ≤ w.cap) (ok : w.ok) : (w.walk i o n).isSome = a.isSome := by
  cases a with
  | none =>
    cases e : w.walk i o n with
    | none => rfl
    | some u =>
      obtain ⟨S, hS, hg⟩ := walk_some e
      rw [h n S hS] at hg
      cases hg
  | some c =>
    obtain ⟨⟨S, g, hS, hg⟩, _⟩ := h
    obtain ⟨u, hu, _⟩ := stp_walk hc ok S hg
    rw [hu]
    rfl
end Oil
set_option Elab.async false
set_option linter.all false
set_option maxRecDepth 100000
set_option maxHeartbeats 2000000
/-! Dicts with ints as keys, at a point. -/
namespace Oil
open PySem PySem.Spec PyProof.Rows L2
section
variable {X : Cx} {σ : L2.St} {H : Hp} {Q : VK} {D : Ends} {pos cpos p apos tpos : Pos} {o i e k v : Expr} {Qt Qf : Hp → Prop} {kk : Nat} {E : XK}
theorem ev_dnew (q : ∀ p, H p = none → Q (.ref p) (upd H p (.dK []))) : EV X (.Dict [] [] pos) σ H Q := EV.of pe_dnewK q
/-- {k: v} -/
theorem ev_disp1 (q : ∀ p, H p = none → EV X k σ (upd H p (.dK [])) fun x H1 => EV X v σ H1 fun y H2 => ∃ n : Int, x = .int n ∧ H2 p = some (.dK []) ∧ Q (.ref p) (upd H2 p (.dK [(.inl n, y)]))) : EV X (.Dict [some k] [v] pos) σ H Q := by
  refine EV.of (pe_disp (pps_cons pe_ev pe_ev pps_nil) rfl rfl (fun z => by cases z) (by show 1 ≤ 15; decide)) fun p hp => EV.mono (q p hp) fun x H1 q1 => EV.mono q1 fun y H2 ⟨n, ex, h, q2⟩ => ?_
  exact ⟨h, [(.inl n, y)], by rw [ex]; rfl, by show 1 ≤ 15; decide, q2⟩
theorem ev_dget (C : Cal X kk E) (q : EV X o σ H fun x H1 => EV X i σ H1 fun y H2 => ∃ a v kvs, ∃ n : Int, x = .ref a ∧ y = .int n ∧ H2 a = some (.dK kvs) ∧ valV kvs (.inl n) = some v ∧ Q v H2) (hs : NoSl i := by intro _ _; rfl) : EV X (.Subscript o i pos) σ H Q :=
  EV.of (pe_dget (by have := C.hr.units; omega) pe_ev pe_ev hs) (EV.mono q fun x H1 q1 => EV.mono q1 fun y H2 ⟨a, v, kvs, n, ex, ey, h, hv, q2⟩ => ⟨a, v, ex, .inl ⟨kvs, .inl n, .inl h, ey, hv.symm⟩, q2⟩)
/-- n not in d -/
theorem tv_dnotin (C : Cal X kk E) (q : EV X i σ H fun y H1 => EV X o σ H1 fun x H2 => ∃ a kvs, ∃ n : Int, x = .ref a ∧ y = .int n ∧ H2 a = some (.dK kvs) ∧ br Qt Qf (!(valV kvs (.inl n)).isSome) H2) (hm : behindInMarks .NotIn o = false := by rfl) : TV X (.Compare i [.NotIn] [o] pos) σ H Qt Qf :=
  BV.of (pt_cmp (pc_dnotin (by have := C.hr.units; omega) pe_ev pe_ev) hm) (EV.mono q fun y H1 q1 => EV.mono q1 fun x H2 ⟨a, kvs, n, ex, ey, h, q2⟩ => ⟨a, _, ex, .inl ⟨kvs, .inl n, .inl h, ey, rfl⟩, _, rfl, q2⟩)
/-- d[n] = v -/
theorem sv_dput (C : Cal X kk E) (q : EV X v σ H fun z H1 => EV X o σ H1 fun x H2 => EV X i σ H2 fun y H3 => ∃ a kvs, ∃ n : Int, x = .ref a ∧ y = .int n ∧ H3 a = some (.dK kvs) ∧ kvs.length < sizeLine ∧ D.nx σ (upd H3 a (.dK (putK kvs (.inl n) z))))
    (hs : swapsWith v (some (.Subscript o i apos)) pos.line X.env = pure false := by rfl) : SV X (.Assign [.Subscript o i apos] v pos) σ H D :=
  SV.of (ps_dput (by have := C.hr.units; omega) pe_ev pe_ev pe_ev hs) (EV.mono q fun z H1 q1 => EV.mono q1 fun x H2 q2 => EV.mono q2 fun y H3 ⟨a, kvs, n, ex, ey, h, hl, q3⟩ => ⟨a, _, ex, .inl ⟨kvs, .inl n, h, ey, hl, rfl⟩, q3⟩)
/-- min(d) -/
theorem ev_minD (C : Cal X kk E) (hm : X.mg "min" = none) (q : EV X e σ H fun x H1 => ∃ a kvs, ∃ ns : List Int, x = .ref a ∧ H1 a = some (.dK kvs) ∧ kvs.map (·.1) = ns.map Sum.inl ∧ ns ≠ [] ∧ ∀ m, m ∈ ns → (∀ j ∈ ns, m ≤ j) → Q (.int m) H1) (hg : Gl X "min" := by rfl)
    (he : starEach [e] X.env = (false, eval e X.env) :: starEach [] X.env := by rfl) (hpl : (backTo pos (starEach [] X.env)).any (·.1) = false := by rfl) : EV X (.Call (.Name "min" p) [e] [] pos) σ H Q :=
  ev_callB C.calm (cr_minK C.calm) hm (av_cons (EV.mono q fun x H1 ⟨a, kvs, ns, ex, h, hk, hn, q⟩ => av_nil ⟨a, kvs, ns, by rw [ex], h, hk, hn, q⟩) he) (hg := hg) (he := he) (hpl := hpl)
/-- d != {} -/
theorem op_neE (C : Cal X kk E) : OpR X (compareOp .NotEq) (fun x y H Q => ∃ a b ks, x = .ref a ∧ y = .ref b ∧ H a = some (.dK ks) ∧ H b = some (.dK []) ∧ Q (.bl (!ks.isEmpty)) H) := by
  intro pins s σ H x y v u Q I rx ry h
  obtain ⟨a, b, ks, rfl, rfl, ea, eb, q⟩ := h
  cases ks with
  | nil => exact op_ne_dictA C.hr.units0 pins s σ H _ _ v u Q I rx ry ⟨a, b, [], [], rfl, rfl, ea, eb, rfl, (fun p hp => (by cases hp)), q⟩
  | cons z zs =>
    cases (show v = Value.ref a from rx)
    cases (show u = Value.ref b from ry)
    obtain ⟨_, ya, va, ra, da⟩ := (show ObjOk X.prog X.w H s.heap a (.dK (z :: zs)) from I.hok a _ ea)
    obtain ⟨_, yb, vb, rb, db⟩ := (show ObjOk X.prog X.w H s.heap b (.dK []) from I.hok b _ eb)
    have la : va.length = zs.length + 1 := by rw [← ra.length]; rfl
    have lb : vb.length = 0 := by rw [← rb.length]; rfl
    have z0 : (!(va.length == vb.length && true)) = true := by
      rw [la, lb]
      rfl
    refine PySem.W.keq_ne (knd := mixKind X.prog X.w) (r := true) ya yb da db C.hr.units0 (fun h => by omega) ?_
    rw [z0]
    exact ⟨.bl true, H, I, rfl, q⟩
/-- for t in d.items(), d a dict that the body leaves -/
theorem sv_forItems {elts : List Expr} {body : List Stmt} (hc : X.calm = true) (hp : PassesOwn (model X.prog X.w) X.A X.env X.xe) (d : Addr) (kvs : List (Key × V)) (hd : H d = some (.dK kvs))
    (q : ∀ od, EV X o σ (upd H d (.frz od (.dK kvs))) fun x H1 => x = .ref d ∧ H1 d = some (.frz od (.dK kvs)) ∧ ∃ Pv : Nat → L2.St → Hp → Prop, Pv 0 σ H1 ∧ (∀ i σ' H', i ≤ kvs.length → Pv i σ' H' → H' d = some (.frz od (.dK kvs))) ∧
      (∀ (i : Nat) k v σ' H' T H'', kvs[i]? = some (k, v) → Pv i σ' H' → Same H' H'' → H'' T = some (.tup [kV k, v]) → GV X (.Tuple elts kk tpos) (.ref T) σ' H'' fun σ2 H2 => LV X body σ2 H2
        { nx := fun σ' H' => H' d = some (.frz od (.dK kvs)) ∧ Pv (i + 1) σ' H', ct := fun σ' H' => H' d = some (.frz od (.dK kvs)) ∧ Pv (i + 1) σ' H', bk := fun σ' H' => H' d = some (.frz od (.dK kvs)) ∧ D.nx σ' (upd H' d (.dK kvs)), rt := fun v H' => H' d = some (.frz od (.dK kvs)) ∧ D.rt v (upd H' d (.dK kvs)) }) ∧
      ∀ σ' H', Pv kvs.length σ' H' → D.nx σ' (upd H' d (.dK kvs)))
    (hs : ∀ x, foldedSetIterable (.Call (.Attribute o "items" apos) [] [] cpos) X.env x = pure x := by intro _; rfl) (hb : attributeBase o "items" X.env (eval o X.env) = eval o X.env := by rfl) (hl : (apos.endLine == cpos.line) = true := by rfl) : SV X (.For (.Tuple elts kk tpos) (.Call (.Attribute o "items" apos) [] [] cpos) body [] pos) σ H D := by
  refine SV.of (ps_lock (ps_for hp hc (pi_items pe_ev hb hl) pg_gv pss_lv hs)) ⟨d, .dK kvs, hd, trivial, fun od => ?_⟩
  refine EV.mono (q od) fun x H1 ⟨ex, h1, Pv, h0, hk, ht, hf⟩ => ⟨d, od, kvs, ex, h1, ?_⟩
  refine ⟨fun i m σ H => m = kvs.length - i ∧ i ≤ kvs.length ∧ Pv i σ H, ⟨kvs.length, by simp, Nat.zero_le _, h0⟩, ?_⟩
  rintro i m σ H ⟨rfl, hi, pv⟩
  have hq := hk i σ H hi pv
  by_cases hlt : i < kvs.length
  · refine .inr ⟨⟨hq, hlt⟩, fun σ' H' => H' d = some (.frz od (.dK kvs)) ∧ Pv (i + 1) σ' H', fun σ' H' p' => ⟨kvs.length - (i + 1), by omega, rfl, hlt, p'.2⟩, ?_⟩
    rintro v H' ⟨T, k, u, e1, rfl, hT, rfl⟩
    exact ht i k u σ H T _ e1 pv (same_upd hT) upd_same
  · have e : i = kvs.length := by omega
    subst e
    exact .inl ⟨⟨hq, Nat.le_refl _⟩, hq, hf σ H pv⟩
end
end Oil
set_option Elab.async false
set_option linter.all false
set_option maxRecDepth 100000
set_option maxHeartbeats 2000000
/-! Plain laws: an endless walk comes to what settled tells. -/
namespace Oil
open PySem PySem.Spec PyProof.Rows L2
theorem walk_capped {w : Wy} (ok : w.ok) (i : Nat) {o r : Int} : ∀ {n : Nat}, w.walk i o (n + 1) = some r → r ≤ w.cap := fun {n} h => by
  cases e : w.walk i o n with
  | none =>
    simp only [Wy.walk, e] at h
    cases h
  | some u =>
    simp only [Wy.walk, e] at h
    have h : w.step (i + n) u = some r := h
    obtain ⟨a1, a2, a3, a4⟩ := ok.at_ok (i + n)
    unfold Wy.step at h
    split at h
    · cases h
    · injection h with h
      omega
theorem walk_round (w : Wy) (i : Nat) (u : Int) (k n : Nat) : w.walk (i + w.posts.length * k) u n = w.walk i u n := walk_per w i k u n
/-- every round of an endless walk -/
theorem rounds {w : Wy} (ok : w.ok) {i : Nat} {o : Int} (ho : 0 ≤ o) (he : w.endless i o = true) : 0 ≤ w.surplus ∧ ∀ k : Nat, w.walk i o (w.posts.length * (k + 1)) = some (min (w.st i w.posts.length).top (o + (k + 1 : Nat) * w.surplus)) := by
  have hn := ok.n1
  unfold Wy.endless at he
  rw [Bool.and_eq_true, decide_eq_true_eq] at he
  obtain ⟨hs, h2⟩ := he
  refine ⟨hs, ?_⟩
  have f : ∀ {u : Int}, 0 ≤ u → w.walk i u w.posts.length = (w.st i w.posts.length).call u := fun hu => (st_call ok i hu hn).symm
  rw [Nat.two_mul, walk_add] at h2
  cases h1 : w.walk i o w.posts.length with
  | none =>
    rw [h1] at h2
    cases h2
  | some r1 =>
    rw [h1] at h2
    have h2 : (w.walk (i + w.posts.length) r1 w.posts.length).isSome = true := h2
    have p := walk_per w i 1 r1 w.posts.length
    rw [Nat.mul_one] at p
    rw [p] at h2
    have p1 := walk_nonneg ho h1
    obtain ⟨r2, h2'⟩ := Option.isSome_iff_exists.mp h2
    rw [f p1] at h2'
    have hc := h1
    rw [f ho] at hc
    have e1 := round_gain hn hc
    suffices H : ∀ k : Nat, w.walk i o (w.posts.length * (k + 1)) = some (min (w.st i w.posts.length).top (o + (k + 1 : Nat) * w.surplus)) ∧ r1 ≤ min (w.st i w.posts.length).top (o + (k + 1 : Nat) * w.surplus) from fun k => (H k).1
    intro k
    induction k with
    | zero =>
      refine ⟨?_, ?_⟩
      · rw [Nat.zero_add, Nat.mul_one, h1, e1]
        simp
      · rw [e1]
        simp
    | succ k ih =>
      obtain ⟨ih1, ih2⟩ := ih
      generalize hx : min (w.st i w.posts.length).top (o + (k + 1 : Nat) * w.surplus) = x at ih1 ih2
      have px : 0 ≤ x := by omega
      obtain ⟨y, hy, hle⟩ := call_mono h2' ih2
      have e2 := round_gain hn hy
      have em : ((k + 1 + 1 : Nat) : Int) * w.surplus = ((k + 1 : Nat) : Int) * w.surplus + w.surplus := by
        rw [Int.natCast_add (k + 1) 1, Int.add_mul, Int.natCast_one, Int.one_mul]
      rw [em]
      generalize ((k + 1 : Nat) : Int) * w.surplus = m at hx
      have ey : y = min (w.st i w.posts.length).top (o + (m + w.surplus)) := by omega
      refine ⟨?_, by omega⟩
      rw [Nat.mul_add, Nat.mul_one, walk_add, ih1]
      show w.walk (i + w.posts.length * (k + 1)) x w.posts.length = _
      rw [walk_round, f px, hy, ey]
/-- what settled tells is what walking comes to, and not a round before -/
theorem sett_law {w : Wy} (ok : w.ok) {i : Nat} {o : Int} (ho : 0 ≤ o) {a : Int × Int} (hs : w.sett i o = some a) : ∃ r : Nat, a.1 = r ∧ r ≤ 1000000000 ∧ w.walk i o (w.posts.length * r) = some a.2 ∧ w.walk i o (w.posts.length * 10 ^ 17) = some a.2 ∧
    (r = 0 ∨ ∃ s, r = s + 1 ∧ w.walk i o (w.posts.length * s) ≠ some a.2) := by
  unfold Wy.sett at hs
  by_cases he : w.endless i o = true
  · rw [if_pos he] at hs
    obtain ⟨g0, R⟩ := rounds ok ho he
    have n1 := ok.n1
    have c1 := ok.c1
    have c2 := ok.c2
    generalize hT : (w.st i w.posts.length).top = t at hs R
    generalize hg : w.surplus = g at hs R g0
    have z : w.walk i o (w.posts.length * 0) = some o := rfl
    have big := R (10 ^ 17 - 1)
    rw [show 10 ^ 17 - 1 + 1 = 10 ^ 17 by decide, show ((10 ^ 17 : Nat) : Int) = 100000000000000000 by decide] at big
    by_cases h : g = 0 ∨ t ≤ o
    · rw [if_pos h] at hs
      by_cases e : min o t = o
      · rw [if_pos e] at hs
        injection hs with hs
        subst hs
        refine ⟨0, rfl, by decide, ?_, ?_, .inl rfl⟩
        · rw [z]
          exact congrArg some e.symm
        · rw [big]
          refine congrArg some ?_
          show _ = min o t
          rcases h with h | h
          · subst h
            omega
          · have : 0 ≤ 100000000000000000 * g := by omega
            omega
      · rw [if_neg e] at hs
        injection hs with hs
        subst hs
        have r0 := R 0
        rw [show ((0 + 1 : Nat) : Int) * g = g by simp] at r0
        refine ⟨1, rfl, by decide, ?_, ?_, .inr ⟨0, rfl, ?_⟩⟩
        · rw [r0]
          refine congrArg some ?_
          show _ = min o t
          omega
        · rw [big]
          refine congrArg some ?_
          show _ = min o t
          omega
        · rw [z]
          intro h2
          injection h2 with h2
          exact e h2.symm
    · rw [if_neg h] at hs
      injection hs with hs
      subst hs
      have hgp : 0 < g := by omega
      have hlt : o < t := by omega
      -- t is at most the lantern
      have htc : t ≤ w.cap := by
        have e : t ≤ o + 100000000000000000 * g ∨ o + 100000000000000000 * g < t := by omega
        have hcap : min t (o + 100000000000000000 * g) ≤ w.cap := by
          refine walk_capped ok i (o := o) (n := w.posts.length * 10 ^ 17 - 1) ?_
          rw [show w.posts.length * 10 ^ 17 - 1 + 1 = w.posts.length * 10 ^ 17 by omega]
          exact big
        omega
      -- the number of rounds
      obtain ⟨q, hq⟩ : ∃ q : Int, q = (t - o + g - 1) / g := ⟨_, rfl⟩
      have hd := Int.emod_add_mul_ediv (t - o + g - 1) g
      have hm0 := Int.emod_nonneg (t - o + g - 1) (b := g) (by omega)
      have hm1 := Int.emod_lt_of_pos (t - o + g - 1) hgp
      rw [← hq] at hd
      have hq1 : 1 ≤ q := by
        rw [hq]
        exact Int.le_ediv_of_mul_le hgp (by omega)
      have hq2 : q ≤ t - o := by
        have : q ≤ g * q - (g - 1) := by
          have h3 : 0 ≤ (g - 1) * (q - 1) := Int.mul_nonneg (by omega) (by omega)
          rw [Int.sub_mul, Int.mul_sub, Int.one_mul, Int.mul_one] at h3
          omega
        omega
      obtain ⟨s, rfl⟩ : ∃ s : Nat, q = (s : Int) + 1 := ⟨(q - 1).toNat, by omega⟩
      rw [Int.mul_add, Int.mul_one] at hd
      have hsg : (s : Int) * g = g * s := Int.mul_comm _ _
      refine ⟨s + 1, ?_, ?_, ?_, ?_, .inr ⟨s, rfl, ?_⟩⟩
      · show (t - o + g - 1) / g = _
        rw [← hq]
        rfl
      · omega
      · rw [R s]
        refine congrArg some ?_
        show _ = t
        rw [Int.natCast_add, Int.add_mul, Int.natCast_one, Int.one_mul]
        omega
      · rw [big]
        refine congrArg some ?_
        show _ = t
        omega
      · cases s with
        | zero =>
          rw [z]
          intro h2
          injection h2 with h2
          exact absurd (h2 : o = t) (by omega)
        | succ s =>
          rw [R s]
          intro h2
          injection h2 with h2
          have h2 : min t (o + ((s + 1 : Nat) : Int) * g) = t := h2
          omega
  · rw [if_neg he] at hs
    cases hs
theorem endl_lst {wy : Wy} (ok : wy.ok) (i : Nat) {o : Int} (ho : 0 ≤ o) : wy.endless i o = match wy.lst i with
    | none => false
    | some m => decide (m ≤ o) := by
  have hn := ok.n1
  unfold Wy.endless Wy.lst
  by_cases hs : 0 ≤ wy.surplus
  · rw [decide_eq_true hs, Bool.true_and, if_pos hs, ← st_call ok i ho (by omega)]
    generalize wy.st i (2 * wy.posts.length) = s
    obtain ⟨n, g, t⟩ := s
    cases n with
    | none => rfl
    | some n =>
      show (if o < n then none else some _ : Option Int).isSome = decide (n ≤ o)
      by_cases h : o < n
      · rw [if_pos h, decide_eq_false (by omega)]
        rfl
      · rw [if_neg h, decide_eq_true (by omega)]
        rfl
  · rw [decide_eq_false hs, Bool.false_and, if_neg hs]
theorem walk_turnd {w : Wy} {k i : Nat} (hk : k < w.posts.length) (o : Int) (n : Nat) : (w.turn k).walk ((i + (w.posts.length - k)) % w.posts.length) o n = w.walk i o n := by
  rw [turn_walk w hk]
  exact walk_cong (by rw [Nat.mod_add_mod, show i + (w.posts.length - k) + k = i + w.posts.length by omega, Nat.add_mod_right]) o n
theorem cmul_small {z f : Int} (h0 : 0 ≤ f) (h1 : f ≤ 1000000000) : CMul z f := by
  have p : (2 : Int) ^ 64 = 18446744073709551616 := by decide
  exact Or.inr ⟨by omega, by omega⟩
/-- a new list of values that are told by φ -/
theorem lc_pair {X : Cx} {tg elt : Expr} {scope : Scope} {own : List (Str × Nat)} {σ : L2.St} {Q : VK} {H1 : Hp} {K0 : Hp → Prop} {x y : V} (m : Nat) (φ : Hp → V → Prop) (up : ∀ H H' v, φ H v → (∀ b xs, H b = some (.tup xs) → H' b = some (.tup xs)) → φ H' v) (hK : ∀ H', Same H1 H' → K0 H')
    (hg : ∀ Y, IsBlk X scope Y → ∀ (v : V) (σ : L2.St) (H : Hp) (R : L2.St → Hp → Prop), R (σ.set m (some v)) H → GV Y tg v σ H R)
    (he : ∀ Y, IsBlk X scope Y → ∀ (z : V) (H' : Hp) (R : VK), (z = x ∨ z = y) → Same H1 H' → (∀ H2 v, Same H' H2 → φ H2 v → R v H2) → EV Y elt ((wipe σ (own.map (·.2))).set m (some z)) H' R)
    (q : ∀ H' D a b, Same H1 H' → H1 D = none → H' D = some (.lst [a, b]) → φ H' a → φ H' b → Q (.ref D) H')
    (hw : ∀ v : V, wipe ((wipe σ (own.map (·.2))).set m (some v)) (own.map (·.2)) = wipe σ (own.map (·.2)) := by intro _; rfl) : LcL X scope own tg elt σ Q [x, y] K0 H1 := by
  intro D zD
  refine ⟨fun i H' => Same H1 H' ∧ ∃ ys, H' D = some (.lst ys) ∧ ys.length = i ∧ ∀ v ∈ ys, φ H' v, ⟨same_upd' (Same.refl _) zD, [], upd_same, rfl, fun v hv => nomatch hv⟩, fun i H' _ hp => hK _ hp.1, fun i z H' hz hp => ?_, fun H' hp => ?_⟩
  · obtain ⟨S, ys, hD, hl, hys⟩ := hp
    have hi : i < 2 := (List.getElem?_eq_some_iff.mp hz).1
    intro Y hY
    refine hg Y hY _ _ _ _ ⟨hw _, fun Y2 hY2 => he Y2 hY2 z _ _ ?_ S fun H2 v S2 hv => ⟨_, S2 _ _ hD, by rw [sizeLine_eq]; omega, same_upd' (Same.trans S S2) zD, ys ++ [v], upd_same, by rw [List.length_append, hl]; rfl, fun u hu => ?_⟩⟩
    · have := List.mem_of_getElem? hz
      simpa using this
    · have kt : ∀ b xs, H2 b = some (.tup xs) → upd H2 D (.lst (ys ++ [v])) b = some (.tup xs) := fun b xs e => by
        have nb : b ≠ D := fun e2 => by
          rw [e2, S2 _ _ hD] at e
          cases e
        rw [upd_ne nb]
        exact e
      rcases List.mem_append.mp hu with h | h
      · exact up _ _ _ (up _ _ _ (hys u h) fun b xs e => S2 _ _ e) kt
      · rw [List.mem_singleton.mp h]
        exact up _ _ _ hv kt
  · obtain ⟨S, ys, hD, hl, hys⟩ := hp
    match ys, hl with
    | [a, b], _ => exact q H' D a b S zD hD (hys a (by simp)) (hys b (by simp))
end Oil
set_option Elab.async false
set_option linter.all false
set_option maxRecDepth 100000
set_option maxHeartbeats 2000000
/-! Lambdas as values: made, tracked as objects of their own. -/
namespace Oil
open PySem PySem.Spec PyProof.Rows L2 LamX
/-- the object of a lambda made with the cells clo and the default values dv -/
abbrev lamObj (q : Str) (params : Arguments) (body : Expr) (scope : Scope) (clo : List (Str × Addr)) (pm : Value) (c' : Addr) (ctv dv : Value) : Obj :=
  { cls := .type "function", data := .func { name := "<lambda>", qualname := q, params, body := .expr body, scope, globals := mainGlobals, closure := clo, defaults := dv, kwdefaults := .none, doc := .none, pyModule := pm, annotations := none, code := .ref c', closureTuple := ctv, builtins := builtinsNs } }
/-- a lambda at f -/
def LamO (f : Addr) (q : Str) (params : Arguments) (body : Expr) (scope : Scope) (clo : List (Str × Addr)) (c' : Addr) (dv : Value) : HO := .ext fun h => ∃ pm ctv, h.get? f = some (lamObj q params body scope clo pm c' ctv dv)
section
variable {X : Cx} {pins : List (Addr × Obj)} {σ : L2.St} {H : Hp} {s : Shared}
/-- the code of a lambda: new, or found in its maker's table -/
theorem lam_code {T : List (Addr × Str)} {c P : Addr} {q name : Str} {params : Arguments} {body : FuncBody} {scope : Scope} {pos : Pos} {fl : Nat} {E : Value → Shared → Prop} {Q : Value → Shared → Prop} (I : Inv X pins σ H s) (TB : TabB X.base X.mg c P)
    (hcode : X.env.code = .ref c) (hm : (P, q) ∈ T) (hu : ∀ p ∈ T, p.1 = P → p.2 = q) (hT : Tabs T H)
    (h : ∀ (c' : Addr) (H1 : Hp) (s' : Shared), Inv X pins σ H1 s' → ExtN H H1 → (∀ b, H1 b = none → H b = none) → Tabs T H1 → H1 c' = some (CodeO c' q) → Q (.ref c') s') :
    wpAny (model X.prog X.w) X.A (functionCode X.env pos fl name q params scope body) Q E s := by
  obtain ⟨ps, hP, ht, ha⟩ := hT _ hm
  have hP' : s.heap.get? P = some { cls := .none, data := .fields ps } := I.hok P _ hP
  have CH := TB.code.keeps I.bk
  cases hc : codeAmong pos ps.toList with
  | some cv =>
    obtain ⟨c', e, hco⟩ := ha pos cv hc
    subst e
    exact wpAny_functionCode_hit hcode (CH.code hP' ht) hc (h c' H s I (ExtN.refl H) (fun _ e => e) hT hco)
  | none =>
    refine wpAny_functionCodeX hcode (CH.code hP' ht) (CH.tab hP') hc fun c' h' tk hx hge hlt _ hrec htb _ => ?_
    obtain ⟨c2, oc, vs, t, e2, hoc, hd, hv⟩ := hrec
    cases e2
    have nC : H c' = none := I.hok.fresh hge
    have I1 := inv_table (t' := tk) (more := #[rawInt pos.line, rawInt pos.col, .ref c']) (h' := h') I hP (fun b o hb e => hx b o hb e) htb.2 hge ⟨oc, vs, t, hoc, hd, hv⟩
    have hE : ExtN H (upd (upd H P (.tbl (ps ++ #[rawInt pos.line, rawInt pos.col, .ref c']))) c' (CodeO c' q)) := fun b o e n => by
      have h1 : b ≠ c' := ne_of_none e nC
      have h2 : b ≠ P := fun z => by
        subst z
        exact n ps (Option.some.inj (e.symm.trans hP))
      rw [upd_ne h1, upd_ne h2]
      exact e
    have eL : (ps ++ #[rawInt pos.line, rawInt pos.col, .ref c']).toList = ps.toList ++ [rawInt pos.line, rawInt pos.col, .ref c'] := by simp
    refine h c' _ _ I1 hE (fun b e => NdefX.upd_none (NdefX.upd_none e)) (fun p hp => ?_) upd_same
    obtain ⟨ps', a1, a2, a3⟩ := hT p hp
    by_cases hb : p.1 = P
    · rw [hu p hp hb, hb]
      refine ⟨_, by rw [upd_ne (ne_of_none hP nC), upd_same], by rw [eL]; exact PySem.TriplesOk_snoc _ _ _ _ ht, fun p' cv hcv => ?_⟩
      rw [eL] at hcv
      rcases among_app _ ht hcv with z | z
      · obtain ⟨c0, e1, e2⟩ := ha p' cv z
        exact ⟨c0, e1, hE _ _ e2 codeO_ne⟩
      · exact ⟨c', z, upd_same⟩
    · refine ⟨ps', by rw [upd_ne (ne_of_none a1 nC), upd_ne hb]; exact a1, a2, fun p' cv hcv => ?_⟩
      obtain ⟨c0, e1, e2⟩ := a3 p' cv hcv
      exact ⟨c0, e1, hE _ _ e2 codeO_ne⟩
/-- the rest of its making, its default values dv at hand -/
theorem lam_tail {T : List (Addr × Str)} {c P : Addr} {q : Str} {params : Arguments} {body : Expr} {scope : Scope} {pos : Pos} {fl : Nat} {dv : Value} {E : Value → Shared → Prop} {Q : Value → Shared → Prop} (I : Inv X pins σ H s) (TB : TabB X.base X.mg c P)
    (hcode : X.env.code = .ref c) (hm : (P, q) ∈ T) (hu : ∀ p ∈ T, p.1 = P → p.2 = q) (hT : Tabs T H) (hfree : ∀ y ∈ scope.names, y.2 = .free → ∃ c, X.env.cells.lookup y.1 = some c)
    (h : ∀ (f c' : Addr) (H1 H2 : Hp) (s' : Shared), Inv X pins σ H2 s' → ExtN H H1 → (∀ b, H1 b = none → H b = none) → Tabs T H1 → H1 c' = some (CodeO c' q) → H1 f = none → H2 = upd H1 f (LamO f q params body scope (cloFrom X.env.cells scope.names []) c' dv) → Q (.ref f) s') :
    wpAny (model X.prog X.w) X.A (makeTail "<lambda>" q params (.expr body) scope X.env dv .none none pos fl) Q E s := by
  have rest : ∀ (ctv : Value) (s1 : Shared), Inv X pins σ H s1 → wpAny (model X.prog X.w) X.A (do
      let fd : FuncData := { name := "<lambda>", qualname := q, params, body := .expr body, scope, globals := X.env.globals, closure := cloFrom X.env.cells scope.names [], closureTuple := ctv,
                             code := ← functionCode X.env pos fl "<lambda>" q params scope (.expr body), builtins := ← builtinsFor X.env.globals X.env.builtins,
                             defaults := dv, kwdefaults := .none, annotations := none, pyModule := (← nsGet X.env.globals "__name__").getD .none, doc := ← pure .none }
      newObj (.type "function") (.func fd)) Q E s1 := fun ctv s1 I1 => by
    refine wpAny_bind (lam_code I1 TB hcode hm hu hT fun c' H1 s2 I2 eN nN T1 hc' => ?_)
    obtain ⟨bm, ob, hbm, hne0, _, hneP, hbo, hcls, hdict, hdata⟩ := TB.bm.keeps I2.bk
    have hg := I2.mod.glob.keeps I2.bk
    have hge0 : X.env.globals = mainGlobals := I2.ok.glob
    rw [hge0]
    refine wpAny_bind (wpAny_builtinsFor hg hbm hne0 hbo hcls hdict hdata ?_)
    refine wpAny_bind (wpAny_nsGet hg ?_)
    refine wpAny_bind (wpAny_pure (wpAny_newObj_type ?_ (by size_fits)))
    have hn : H1 s2.heap.objs.size = none := I2.hok.fresh (Nat.le_refl _)
    refine h _ c' H1 _ _ (I2.laid (o := LamO s2.heap.objs.size q params body scope (cloFrom X.env.cells scope.names []) c' dv) (fun b u e => Heap.get?_push_of_some _ e) (Nat.le_refl _) ?_) eN nN T1 hc' hn rfl
    have hp : (s2.heap.push (lamObj q params body scope (cloFrom X.env.cells scope.names []) ((X.mg "__name__").getD .none) c' ctv dv)).get? s2.heap.objs.size = some (lamObj q params body scope (cloFrom X.env.cells scope.names []) ((X.mg "__name__").getD .none) c' ctv dv) := Heap.get?_push_size _ rfl
    exact ⟨⟨_, ctv, hp⟩, ⟨_, hp⟩, fun h1 h2 ⟨pm, ct, e⟩ st => ⟨pm, ct, st _ e⟩⟩
  unfold makeTail
  rw [closure_ok hfree]
  refine wpAny_bind (wpAny_pure ?_)
  by_cases he : (cloFrom X.env.cells scope.names []).isEmpty = true
  · rw [if_pos he]
    exact wpAny_bind (wpAny_pure (rest _ s I))
  · rw [if_neg he]
    exact wpAny_bind (wpAny_newTextTuple (rest _ _ (I.kept fun b o e => Heap.get?_push_of_some _ e)))
/-- what the making of lambdas in a def leans on: its code object c, the table P, the tables T, the lambda's scope -/
structure Makes (X : Cx) (T : List (Addr × Str)) (c P : Addr) (scope : Scope) : Prop where
  tb : TabB X.base X.mg c P
  code : X.env.code = .ref c
  mem : (P, X.env.qual ++ "<lambda>") ∈ T
  one : ∀ p ∈ T, p.1 = P → p.2 = X.env.qual ++ "<lambda>"
  free : ∀ y ∈ scope.names, y.2 = .free → ∃ c, X.env.cells.lookup y.1 = some c
/-- lambda: e -/
theorem ev_lam0 {T : List (Addr × Str)} {c P : Addr} {params : Arguments} {body : Expr} {scope : Scope} {pos : Pos} {Q : VK} (M : Makes X T c P scope) (hT : Tabs T H)
    (q : ∀ (f c' : Addr) (H1 : Hp), ExtN H H1 → (∀ b, H1 b = none → H b = none) → Tabs T H1 → H1 c' = some (CodeO c' (X.env.qual ++ "<lambda>")) → H1 f = none → Q (.ref f) (upd H1 f (LamO f (X.env.qual ++ "<lambda>") params body scope (cloFrom X.env.cells scope.names []) c' .none)))
    (hdef : defaultsOf params X.env = ([], []) := by rfl) : EV X (.Lambda params body scope pos) σ H Q := fun pins s I => by
  rw [arm_eval_Lambda, hdef]
  show wpAny _ _ (do let dv ← evalAll []; let kdv ← holding dv (evalAllOpt []); makeFunction "<lambda>" (X.env.qual ++ "<lambda>") params (.expr body) scope X.env dv kdv [] pos pos.line) _ _ _
  refine wpAny_bind (wpAny_pure (wpAny_bind (wpAny_holding (wpAny_pure ?_))))
  rw [makeFunction_eq]
  simp only [List.zip_nil_right, List.filterMap_nil, List.isEmpty_nil, if_true, pure_bind]
  refine lam_tail I M.tb M.code M.mem M.one hT M.free fun f c' H1 H2 s' I2 eN nN T1 hc' hf e => ⟨.ref f, H2, I2, rfl, ?_⟩
  rw [e]
  exact q f c' H1 eN nN T1 hc' hf
/-- lambda x=n: e, n a displayed number -/
theorem ev_lam1 {T : List (Addr × Str)} {c P : Addr} {params : Arguments} {body : Expr} {scope : Scope} {pos : Pos} {Q : VK} {n : Int} {j : Nat} {pn : Pos} (M : Makes X T c P scope) (hT : Tabs T H)
    (q : ∀ (f c' t : Addr) (H0 H1 : Hp), H t = none → H0 = upd H t (.tup [.int n]) → ExtN H0 H1 → (∀ b, H1 b = none → H0 b = none) → Tabs T H1 → H1 c' = some (CodeO c' (X.env.qual ++ "<lambda>")) → H1 f = none → Q (.ref f) (upd H1 f (LamO f (X.env.qual ++ "<lambda>") params body scope (cloFrom X.env.cells scope.names []) c' (.ref t))))
    (hdef : defaultsOf params X.env = ([eval (.Constant (.int n) j pn) X.env], []) := by rfl) : EV X (.Lambda params body scope pos) σ H Q := fun pins s I => by
  rw [arm_eval_Lambda, hdef]
  show wpAny _ _ (do let dv ← evalAll [eval (.Constant (.int n) j pn) X.env]; let kdv ← holding dv (evalAllOpt []); makeFunction "<lambda>" (X.env.qual ++ "<lambda>") params (.expr body) scope X.env dv kdv [] pos pos.line) _ _ _
  refine wpAny_bind ?_
  simp only [evalAll]
  refine wpAny_bind (thn (ev_int (Q := fun v H1 => v = .int n ∧ H1 = H) ⟨rfl, rfl⟩ pins s I) fun u s1 ⟨v, H1, I1, r, ev, eH⟩ => ?_)
  subst ev eH
  refine wpAny_bind (wpAny_holding (wpAny_pure (wpAny_pure (wpAny_bind (wpAny_holding (wpAny_pure ?_))))))
  rw [makeFunction_eq]
  simp only [List.zip_nil_right, List.filterMap_nil, List.isEmpty_nil, List.isEmpty_cons, if_true, pure_bind, Bool.false_eq_true, if_false]
  refine wpAny_bind (wpAny_newTextTuple ?_)
  have hn : H1 s1.heap.objs.size = none := I1.hok.fresh (Nat.le_refl _)
  have I2 : Inv X pins σ (upd H1 s1.heap.objs.size (.tup [.int n])) { s1 with heap := s1.heap.push { cls := .type "tuple", data := .seq [u].toArray } } :=
    I1.laid (fun b u e => Heap.get?_push_of_some _ e) (Nat.le_refl _) ⟨by show 1 ≤ sizeLine; decide, [u], .cons r .nil, ⟨_, Heap.get?_push_size _ rfl, rfl, _, rfl⟩⟩
  refine lam_tail I2 M.tb M.code M.mem M.one (hT.ext fun b o e => by rw [upd_ne (ne_of_none e hn)]; exact e) M.free fun f c' H2 H3 s' I3 eN nN T1 hc' hf e => ⟨.ref f, H3, I3, rfl, ?_⟩
  rw [e]
  exact q f c' _ _ H2 hn rfl eN nN T1 hc' hf
/-! ### what stays at the making of a lambda -/
theorem kp_extN {K : PySem.W.Frag} {H H' : Hp} (k : ExtN H H') : Kp K H H' := fun c u hu e => k c u e fun ps z => by
  subst z
  exact hu
theorem extN_same {H H1 H' : Hp} (k : ExtN H H1) (S : Same H1 H') : ExtN H H' := fun b o e n => S b o (k b o e n)
theorem same_extN {H H1 H' : Hp} (S : Same H H1) (k : ExtN H1 H') : ExtN H H' := fun b o e n => k b o (S b o e) n
theorem lst_extN {H H' : Hp} {a : Addr} {xs : List V} (k : ExtN H H') (e : H a = some (.lst xs)) : H' a = some (.lst xs) := k a _ e nofun
theorem tup_extN {H H' : Hp} {a : Addr} {xs : List V} (k : ExtN H H') (e : H a = some (.tup xs)) : H' a = some (.tup xs) := k a _ e nofun
theorem sql_extN {K : PySem.W.Frag} {H H' : Hp} {a : Addr} {xs : List V} (k : ExtN H H') (h : SqL K H a xs) : SqL K H' a xs := by
  rcases h with h | h
  · refine .inl ?_
    rcases h with h | ⟨o, h⟩
    · exact .inl (k a _ h nofun)
    · exact .inr ⟨o, k a _ h nofun⟩
  · exact .inr h
theorem lamO_ne {f : Addr} {q : Str} {params : Arguments} {body : Expr} {scope : Scope} {clo : List (Str × Addr)} {c' : Addr} {dv : Value} (ps : Array Value) : LamO f q params body scope clo c' dv ≠ .tbl ps := fun z => by
  unfold LamO at z
  cases z
/-- the lambda at f, in the heap -/
theorem lamO_at {P : Program} {w : World} {H : Hp} {h : Heap} {f : Addr} {q : Str} {params : Arguments} {body : Expr} {scope : Scope} {clo : List (Str × Addr)} {c' : Addr} {dv : Value} (hok : HOk P w H h) (e : H f = some (LamO f q params body scope clo c' dv)) : ∃ pm ctv, h.get? f = some (lamObj q params body scope clo pm c' ctv dv) := (hok f _ e).1
end
end Oil
set_option Elab.async false
set_option linter.all false
set_option maxRecDepth 100000
set_option maxHeartbeats 2000000
/-! Cells of a def, frozen while others run; a lambda as a value: its promise at a heap, its call. -/
namespace Oil
open PySem PySem.Spec PyProof.Rows L2 LamX
/-- anything -/
abbrev uT : HO := .ext fun _ => True
/-- the object o, read alone -/
abbrev Fz (o : Obj) : HO := .frz o uT
theorem fz_ok {P : Program} {w : World} {H : Hp} {h : Heap} {a : Addr} {o : Obj} (e : h.get? a = some o) : ObjOk P w H h a (Fz o) := ⟨e, trivial, ⟨o, e⟩, fun _ _ _ _ => trivial⟩
/-- b is one of the cells -/
def isC (cl : List (Str × Addr)) (b : Addr) : Bool := cl.any fun p => decide (cl.lookup p.1 = some b)
theorem isC_of {cl : List (Str × Addr)} {x : Str} {b : Addr} (h : cl.lookup x = some b) : isC cl b = true := List.any_eq_true.mpr ⟨(x, b), PySem.mem_of_lookup h, decide_eq_true h⟩
theorem of_isC {cl : List (Str × Addr)} {b : Addr} (h : isC cl b = true) : ∃ x, cl.lookup x = some b := by
  obtain ⟨p, _, e⟩ := List.any_eq_true.mp h
  exact ⟨p.1, of_decide_eq_true e⟩
/-- the cells frozen; the cells forgotten; the cells as they were in H -/
def fzC (cl : List (Str × Addr)) (h : Heap) (H : Hp) : Hp := fun b => if isC cl b = true then (h.get? b).map Fz else H b
def thw (cl : List (Str × Addr)) (H : Hp) : Hp := fun b => if isC cl b = true then none else H b
def fil (cl : List (Str × Addr)) (H H' : Hp) : Hp := fun b => if isC cl b = true then H b else H' b
section
variable {cl : List (Str × Addr)} {H H' : Hp} {h h' B : Heap} {b : Addr}
theorem fzC_t {o : Obj} (c : isC cl b = true) (e : h.get? b = some o) : fzC cl h H b = some (Fz o) := by
  unfold fzC
  rw [if_pos c, e]
  rfl
theorem fzC_f (c : isC cl b = false) : fzC cl h H b = H b := if_neg (by rw [c]; exact Bool.false_ne_true)
theorem thw_t (c : isC cl b = true) : thw cl H b = none := if_pos c
theorem thw_f (c : isC cl b = false) : thw cl H b = H b := if_neg (by rw [c]; exact Bool.false_ne_true)
theorem fil_t (c : isC cl b = true) : fil cl H H' b = H b := if_pos c
theorem fil_f (c : isC cl b = false) : fil cl H H' b = H' b := if_neg (by rw [c]; exact Bool.false_ne_true)
theorem isC_no {o : HO} (nf : ∀ b, isC cl b = true → H b = none) (e : H b = some o) : isC cl b = false := by
  cases c : isC cl b with
  | false => rfl
  | true =>
    rw [nf b c] at e
    cases e
theorem isC_nz {o : HO} (fr : ∀ b, isC cl b = true → ∃ o, H b = some (Fz o)) (e : H b = some o) (n : ∀ z, o ≠ Fz z) : isC cl b = false := by
  cases c : isC cl b with
  | false => rfl
  | true =>
    obtain ⟨z, hz⟩ := fr b c
    rw [hz] at e
    exact (n z (Option.some.inj e).symm).elim
section
variable {P : Program} {w : World}
theorem hok_fz (nf : ∀ b, isC cl b = true → H b = none ∧ ∃ o, h.get? b = some o) (ok : HOk P w H h) : HOk P w (fzC cl h H) h := fun b u e => by
  cases c : isC cl b with
  | true =>
    obtain ⟨o, ho⟩ := (nf b c).2
    rw [fzC_t c ho] at e
    cases e
    exact fz_ok ho
  | false =>
    rw [fzC_f c] at e
    have back : ∀ d z, H d = some z → fzC cl h H d = some z := fun d z q => by rw [fzC_f (isC_no (fun b c => (nf b c).1) q)]; exact q
    exact (ok b u e).stay (fun _ _ _ q => q) (fun d q => back d _ q) fun d xs q => back d _ q
theorem hok_thw (fr : ∀ b, isC cl b = true → ∃ o, H b = some (Fz o)) (ok : HOk P w H h) : HOk P w (thw cl H) h := fun b u e => by
  cases c : isC cl b with
  | true =>
    rw [thw_t c] at e
    cases e
  | false =>
    rw [thw_f c] at e
    exact (ok b u e).stay (fun _ _ _ q => q) (fun d q => by rw [thw_f (isC_nz fr q fun z => by simp)]; exact q) fun d xs q => by rw [thw_f (isC_nz fr q fun z => by simp)]; exact q
end
/-- behind what ran with the cells frozen -/
theorem un_thw {P : Program} {w : World} {fs ex : List Addr} (nf : ∀ b, isC cl b = true → H b = none ∧ (∃ o, h.get? b = some o)) (u : Un fs ex (fzC cl h H) H' h h') (ok : HOk P w H' h') : Un fs ex H (thw cl H') h h' where
  keep := fun b o e n hb hx => by
    cases c : isC cl b with
    | true => exact (ok b _ (u.frzs b o uT (fzC_t c e))).1
    | false => exact u.keep b o e (by rw [fzC_f c]; exact n) hb hx
  slot := fun b o e n hb hx => by
    cases c : isC cl b with
    | true => exact ⟨o.slots, (ok b _ (u.frzs b o uT (fzC_t c e))).1⟩
    | false => exact u.slot b o e (by rw [fzC_f c]; exact n) hb hx
  free := fun b o e n hx => by
    cases c : isC cl b with
    | true => exact thw_t c
    | false => rw [thw_f c]; exact u.free b o e (by rw [fzC_f c]; exact n) hx
  there := u.there
  tups := fun b xs e => by
    have c := isC_no (fun b c => (nf b c).1) e
    rw [thw_f c]
    exact u.tups b xs (by rw [fzC_f c]; exact e)
  frzs := fun b o z e => by
    have c := isC_no (fun b c => (nf b c).1) e
    rw [thw_f c]
    exact u.frzs b o z (by rw [fzC_f c]; exact e)
  tbls := fun b ps e => by
    have c := isC_no (fun b c => (nf b c).1) e
    rw [thw_f c]
    exact u.tbls b ps (by rw [fzC_f c]; exact e)
theorem frz_behind {fs ex : List Addr} (nf : ∀ b, isC cl b = true → H b = none ∧ (∃ o, h.get? b = some o)) (u : Un fs ex (fzC cl h H) H' h h') : ∀ b, isC cl b = true → ∃ o, H' b = some (Fz o) := fun b c => by
  obtain ⟨o, e⟩ := (nf b c).2
  exact ⟨o, u.frzs b o uT (fzC_t c e)⟩
theorem ce_thw {P : Program} {w : World} {outer : List Env} {s s' : Shared} {Q : VK} {u : Value} (nf : ∀ b, isC cl b = true → H b = none ∧ (∃ o, s.heap.get? b = some o)) (q : CE outer P w (fzC cl s.heap H) s (fun v H' => Q v (thw cl H')) u s') : CE outer P w H s Q u s' := by
  obtain ⟨v, H', os, ba, un, ok, r, q⟩ := q
  exact ⟨v, thw cl H', os, ba, un_thw nf un ok, hok_thw (frz_behind nf un) ok, r, q⟩
/-- behind what ran with the cells as its own -/
theorem un_fil {fs : List Addr} (fr : ∀ b, isC cl b = true → ∃ o, H b = some (Fz o)) (u : Un fs [] (thw cl H) H' h h') : Un fs [] H (fil cl H H') h h' where
  keep := fun b o e n hb hx => u.keep b o e (by
    cases c : isC cl b with
    | true => exact thw_t c
    | false => rw [thw_f c]; exact n) hb hx
  slot := fun b o e n hb hx => u.slot b o e (by
    cases c : isC cl b with
    | true => exact thw_t c
    | false => rw [thw_f c]; exact n) hb hx
  free := fun b o e n hx => by
    cases c : isC cl b with
    | true => rw [fil_t c]; exact n
    | false => rw [fil_f c]; exact u.free b o e (by rw [thw_f c]; exact n) hx
  there := u.there
  tups := fun b xs e => by
    have c := isC_nz fr e fun z => by simp
    rw [fil_f c]
    exact u.tups b xs (by rw [thw_f c]; exact e)
  frzs := fun b o z e => by
    cases c : isC cl b with
    | true => rw [fil_t c]; exact e
    | false => rw [fil_f c]; exact u.frzs b o z (by rw [thw_f c]; exact e)
  tbls := fun b ps e => by
    have c := isC_nz fr e fun z => by simp
    rw [fil_f c]
    exact u.tbls b ps (by rw [thw_f c]; exact e)
theorem hok_fil {P : Program} {w : World} (fr : ∀ b, isC cl b = true → ∃ o, H b = some (Fz o)) (kc : ∀ b o, isC cl b = true → H b = some (Fz o) → B.get? b = some o) (nn : ∀ b, isC cl b = true → H' b = none) (ok : HOk P w H' B) : HOk P w (fil cl H H') B := fun b u e => by
  cases c : isC cl b with
  | true =>
    obtain ⟨o, ho⟩ := fr b c
    rw [fil_t c, ho] at e
    cases e
    exact fz_ok (kc b o c ho)
  | false =>
    rw [fil_f c] at e
    have back : ∀ d z, H' d = some z → fil cl H H' d = some z := fun d z q => by rw [fil_f (isC_no nn q)]; exact q
    exact (ok b u e).stay (fun _ _ _ q => q) (fun d q => back d _ q) fun d xs q => back d _ q
theorem ce_fil {P : Program} {w : World} {outer : List Env} {s s' : Shared} {Q : VK} {u : Value} (ok0 : HOk P w H s.heap) (ff : ∀ b ∈ frs outer, H b = none) (fr : ∀ b, isC cl b = true → ∃ o, H b = some (Fz o)) (q : CE outer P w (thw cl H) s (fun v H' => Q v (fil cl H H')) u s') : CE outer P w H s Q u s' := by
  obtain ⟨v, H', os, ba, un, ok, r, q⟩ := q
  refine ⟨v, fil cl H H', os, ba, un_fil fr un, hok_fil fr (fun b o c e => ?_) (fun b c => ?_) ok, r, q⟩
  · refine un.keep b o (ok0 b _ e).1 (thw_t c) (fun z => ?_) (by simp)
    rw [ff b z] at e
    cases e
  · obtain ⟨o, e⟩ := fr b c
    exact un.free b o (ok0 b _ e).1 (thw_t c) (by simp)
theorem cx_fil {P : Program} {w : World} {outer : List Env} {s s' : Shared} {E : XK} {u : Value} (ok0 : HOk P w H s.heap) (ff : ∀ b ∈ frs outer, H b = none) (fr : ∀ b, isC cl b = true → ∃ o, H b = some (Fz o)) (q : L2.CX P w outer (thw cl H) s (fun c d H' => E c d (fil cl H H')) u s') : L2.CX P w outer H s E u s' := by
  obtain ⟨a, B, H', cls, d, rfl, fl, ok, ub, na, os, ag, q⟩ := q
  have kc : ∀ b o, isC cl b = true → H b = some (Fz o) → B.get? b = some o := fun b o c e => by
    refine ub.keep b o (ok0 b _ e).1 (thw_t c) fun z => ?_
    rw [ff b z] at e
    cases e
  have nt : ∀ b, H b = none → thw cl H b = none := fun b n => by
    cases c : isC cl b with
    | true => exact thw_t c
    | false => rw [thw_f c]; exact n
  refine ⟨a, B, fil cl H H', cls, d, rfl, fl, hok_fil fr kc (fun b c => ?_) ok, ⟨fun b o e n hb => ub.keep b o e (nt b n) hb, ub.slot, fun b o e n => ?_, ub.there, fun b xs e => ?_, fun b o z e => ?_, fun b ps e => ?_⟩, ?_, os, ag, q⟩
  · obtain ⟨o, e⟩ := fr b c
    exact ub.free b o (ok0 b _ e).1 (thw_t c)
  · cases c : isC cl b with
    | true => rw [fil_t c]; exact n
    | false => rw [fil_f c]; exact ub.free b o e (nt b n)
  · have c := isC_nz fr e fun z => by simp
    rw [fil_f c]
    exact ub.tups b xs (by rw [thw_f c]; exact e)
  · cases c : isC cl b with
    | true => rw [fil_t c]; exact e
    | false => rw [fil_f c]; exact ub.frzs b o z (by rw [thw_f c]; exact e)
  · have c := isC_nz fr e fun z => by simp
    rw [fil_f c]
    exact ub.tbls b ps (by rw [thw_f c]; exact e)
  · cases c : isC cl a with
    | true =>
      obtain ⟨o, e⟩ := fr a c
      have z := kc a o c e
      rw [fl.2.1] at z
      cases z
    | false => rw [fil_f c]; exact na
end
/-! ### the cells of a context, frozen -/
structure Frz (X : Cx) (σ : L2.St) (H1 H2 : Hp) : Prop where
  off : ∀ b, isC X.env.cells b = false → H2 b = H1 b
  out : ∀ b, isC X.env.cells b = true → H1 b = none
  cel : ∀ b, isC X.env.cells b = true → ∃ o v, H2 b = some (Fz o) ∧ o.data = .cell v
  loc : ∀ (i : Nat) (x : Str) (v : V) (c : Addr), X.N[i]? = some x → σ[i]? = some (some v) → X.env.cells.lookup x = some c → X.env.scope.names.lookup x = some .cell ∨ X.env.scope.names.lookup x = some .free → ∃ o u, H2 c = some (Fz o) ∧ o.data = .cell (some u) ∧ RelV v u
  has : ∀ x, X.env.scope.names.lookup x = some .cell ∨ X.env.scope.names.lookup x = some .free → ∃ c, X.env.cells.lookup x = some c
  inj : ∀ x y c, X.env.cells.lookup x = some c → X.env.cells.lookup y = some c → x = y
  len : σ.length = X.N.length
section
variable {X : Cx} {pins : Pins} {σ : L2.St} {H H1 H2 : Hp} {s : Shared}
theorem cell_nf (I : Inv X pins σ H s) (hfn : ∀ x, X.fn x = true) {b : Addr} (c : isC X.env.cells b = true) : H b = none ∧ b ∉ frs X.stack ∧ X.base.get? b = none ∧ ∃ o v, s.heap.get? b = some o ∧ o.data = .cell v := by
  obtain ⟨x, hx⟩ := of_isC c
  obtain ⟨v, o, ho, hd⟩ := I.cell x b hx
  have hge := I.ok.cab x b (hfn x) hx
  refine ⟨I.freeC x b hx, fun z => ?_, ?_, o, v, ho, hd⟩
  · rcases List.mem_cons.mp (I.stkSub b z) with e | e
    · exact I.cne x b hx e
    · obtain ⟨_, o', ho', _⟩ := I.ok.funs.mem e
      exact absurd (Nat.lt_of_lt_of_le (Heap.lt_size ho') hge) (Nat.lt_irrefl _)
  · exact Heap.get?_none_of_le (Nat.le_trans I.ok.bsz hge)
theorem frz_of (I : Inv X pins σ H s) (hfn : ∀ x, X.fn x = true) : Frz X σ H (fzC X.env.cells s.heap H) where
  off := fun b c => fzC_f c
  out := fun b c => (cell_nf I hfn c).1
  cel := fun b c => by
    obtain ⟨_, _, _, o, v, e, d⟩ := cell_nf I hfn c
    exact ⟨o, v, fzC_t c e, d⟩
  loc := fun i x v c e1 e2 e3 e4 => by
    obtain ⟨m, hn, hl⟩ := I.loc
    obtain ⟨u, r, q⟩ := hl i x v e1 e2 (.inr e4)
    rcases q with ⟨k, _⟩ | ⟨_, c', e', o, ho, hd⟩
    · have k : X.env.scope.names.lookup x = some .local := k
      rcases e4 with z | z <;> rw [z] at k <;> cases k
    · rw [e3] at e'
      cases e'
      exact ⟨o, u, fzC_t (isC_of e3) ho, hd, r⟩
  has := fun x h => I.ok.has x h
  inj := I.ok.inj
  len := I.len
theorem Frz.same (F : Frz X σ H1 H2) : Same H1 H2 := fun b o e => by
  rw [F.off b (isC_no F.out e)]
  exact e
theorem env0_fz (I : Inv X pins σ H s) (hfn : ∀ x, X.fn x = true) : Env0 X.prog X.w X.K X.mg X.base X.A X.stack s (fzC X.env.cells s.heap H) := by
  have e0 := I.env0
  have off : ∀ b, isC X.env.cells b = false → fzC X.env.cells s.heap H b = H b := fun b c => fzC_f c
  refine ⟨e0.frames, e0.mod, fun b o e => ⟨(e0.bs b o e).1, ?_⟩, e0.bsz, e0.funs, fun b hb => ?_, hok_fz (fun b c => ⟨(cell_nf I hfn c).1, let ⟨_, _, _, o, _, e, _⟩ := cell_nf I hfn c; ⟨o, e⟩⟩) e0.hok, e0.bare⟩
  · cases c : isC X.env.cells b with
    | true =>
      rw [(cell_nf I hfn c).2.2.1] at e
      cases e
    | false => rw [off b c]; exact (e0.bs b o e).2
  · cases c : isC X.env.cells b with
    | true => exact ((cell_nf I hfn c).2.1 hb).elim
    | false => rw [off b c]; exact e0.frf b hb
/-- f(e, ..) while the cells of the caller are frozen; f lets no exception out -/
theorem ev_callF {e : Expr} {es : List Expr} {Q : VK} {k j : Nat} {E : XK} {x : Str} {p pos : Pos} {sp : Sp} {f : Addr} (C : Cal X k E) (hfn : ∀ x, X.fn x = true) (F : FnR X.prog X.w X.K X.mg X.base (L2.CX X.prog X.w) j f sp) (hj : j ≤ k) (hm : X.mg x = some (.ref f)) (hk : PySem.W.keepIn X.K (.ref f) = true)
    (q : AV X (e :: es) σ H fun vs H1 => ∀ H2, Frz X σ H1 H2 → sp vs H2 (fun v H' => Q v (thw X.env.cells H')) E0)
    (hg : Gl X x := by rfl) (hd : (x == ("__debug__" : Str)) = false := by decide)
    (he : starEach (e :: es) X.env = (false, eval e X.env) :: starEach es X.env := by rfl) (hpl : (backTo pos (starEach es X.env)).any (·.1) = false := by rfl) : EV X (.Call (.Name x p) (e :: es) [] pos) σ H Q := by
  intro pins s I
  refine wpAny_Call_Name_kw (ld_glob I hg hm ?_ hd)
  refine PySem.W.callWith_K (h₀ := X.base) I.ok.mod.kin hk (thn (q pos pins s I) fun us s1 ⟨vs, H1, I1, r, q⟩ => ⟨I1.kIn, ?_⟩) he hpl
  refine wpAny_call (codeAny_mono (F X.A X.stack s1 _ us vs _ E0 (C.hr.mono hj) (env0_fz I1 hfn) r (q _ (frz_of I1 hfn))) fun r s' hq => ?_)
  cases r with
  | error e =>
    obtain ⟨_, _, _, _, _, _, _, _, _, _, _, _, hE⟩ := hq
    exact hE.elim
  | ok fl =>
    cases fl with
    | ret u => exact I1.after (ce_thw (fun b c => ⟨(cell_nf I1 hfn c).1, let ⟨_, _, _, o, _, e, _⟩ := cell_nf I1 hfn c; ⟨o, e⟩⟩) hq)
    | next => exact False.elim hq
    | brk => exact False.elim hq
    | cont => exact False.elim hq
end
/-! ### a thing that is called without arguments: its promise at a heap -/
def Cb (P : Program) (w : World) (K : PySem.W.Frag) (mg : Str → Option Value) (base : Heap) (k : Nat) (f : Addr) (H : Hp) (R : VK → XK → Prop) : Prop :=
  ∀ (A : Around) (outer : List Env) (s : Shared) (Q : VK) (E : XK), Room k A → Env0 P w K mg base A outer s H → R Q E → codeAny (model P w) A (.call (.ref f) ⟨[], []⟩) (CR (L2.CX P w) outer P w H s Q E) s
theorem Cb.imp {P : Program} {w : World} {K : PySem.W.Frag} {mg : Str → Option Value} {base : Heap} {k j : Nat} {f : Addr} {H : Hp} {R R' : VK → XK → Prop} (c : Cb P w K mg base k f H R) (hj : k ≤ j) (h : ∀ Q E, R' Q E → R Q E) : Cb P w K mg base j f H R' := fun A outer s Q E hr e0 q => c A outer s Q E (hr.mono hj) e0 (h Q E q)
def IsFn (f : Addr) (H : Hp) : Prop := ∃ q params body scope cl c' dv, H f = some (LamO f q params body scope cl c' dv)
/-- x(), x a local that holds such a thing -/
theorem ev_callV {X : Cx} {σ : L2.St} {H : Hp} {Q : VK} {W : WX} {k : Nat} {x : Str} {p pos : Pos} {f : Addr} {R : VK → XK → Prop} (i : Nat) (hr : Room k X.A) (tk : Takes X W) (hs : σ[i]? = some (some (.ref f))) (c : Cb X.prog X.w X.K X.mg X.base k f H R) (hf : IsFn f H) (q : R Q (fun cls d H' => W cls d σ H'))
    (hN : X.N[i]? = some x := by rfl) (hv : Vis X.env.scope x := by first | exact Or.inl rfl | exact Or.inr (Or.inl rfl) | exact Or.inr (Or.inr rfl)) (hd : (x == ("__debug__" : Str)) = false := by decide) (hcd : (x == ("__classdict__" : Str)) = false := by decide) : EV X (.Call (.Name x p) [] [] pos) σ H Q := by
  intro pins s I
  refine wpAny_Call_Name_kw (thn ((pe_var (pos := p) hN hv hd hcd).run pins s σ H (fun v H1 => v = .ref f ∧ H1 = H) I ⟨.ref f, hs, rfl, rfl⟩) fun u s1 ⟨v, H1, I1, r1, q1⟩ => ?_)
  obtain ⟨rfl, rfl⟩ := q1
  cases r1
  obtain ⟨_, _, _, _, _, _, _, hf⟩ := hf
  obtain ⟨pm, ctv, of1⟩ := lamO_at I1.hok hf
  refine PySem.W.callWith_F0 ⟨_, _, _, _, of1⟩ (wpAny_call (codeAny_mono (c X.A X.stack s1 Q _ hr I1.env0 q) fun r s' hq => ?_))
  cases r with
  | error e => exact tk _ _ (XE.of_call I1 (fun cls d H' h => h) hq)
  | ok fl =>
    cases fl with
    | ret u => exact I1.after hq
    | next => exact False.elim hq
    | brk => exact False.elim hq
    | cont => exact False.elim hq
end Oil
set_option Elab.async false
set_option linter.all false
set_option maxRecDepth 100000
set_option maxHeartbeats 2000000
/-! A lambda that was made: what its call promises while the maker's cells are frozen. -/
namespace Oil
open PySem PySem.Spec PyProof.Rows L2 LamX
/-- a lambda's names: its parameters ps, captured ones, globals -/
structure LamS2 (N : List Str) (sc scope : Scope) (ps : List Str) : Prop where
  kind : scope.kind = .function
  co : scope.isCoroutine = false
  gen : scope.isGenerator = false
  own : ∀ y ∈ scope.names, y.2 ≠ .cell ∧ (y.2 = .local → y.1 ∉ N)
  free : ∀ y ∈ scope.names, y.2 = .free → sc.names.lookup y.1 = some .cell ∨ sc.names.lookup y.1 = some .free
  par : ∀ a ∈ ps, scope.names.lookup a = some .local
def lamS2B (N : List Str) (sc scope : Scope) (ps : List Str) : Bool :=
  (decide (scope.kind = .function) && (!scope.isCoroutine && !scope.isGenerator)) && ((scope.names.all fun y => !decide (y.2 = .cell) && (!decide (y.2 = .local) || !decide (y.1 ∈ N))) &&
    ((scope.names.all fun y => !decide (y.2 = .free) || (decide (sc.names.lookup y.1 = some .cell) || decide (sc.names.lookup y.1 = some .free))) && ps.all fun a => decide (scope.names.lookup a = some .local)))
theorem lamS2_by {N : List Str} {sc scope : Scope} {ps : List Str} (h : lamS2B N sc scope ps = true) : LamS2 N sc scope ps := by
  obtain ⟨h1, h⟩ := He.ba h
  obtain ⟨h1, h2⟩ := He.ba h1
  obtain ⟨h2, h3⟩ := He.ba h2
  obtain ⟨h4, h⟩ := He.ba h
  obtain ⟨h5, h6⟩ := He.ba h
  refine ⟨of_decide_eq_true h1, by simpa using h2, by simpa using h3, fun y hy => ?_, fun y hy e => ?_, fun a ha => of_decide_eq_true (List.all_eq_true.mp h6 a ha)⟩
  · obtain ⟨z1, z2⟩ := He.ba (List.all_eq_true.mp h4 y hy)
    refine ⟨by simpa using z1, fun e => ?_⟩
    rw [e] at z2
    simpa using z2
  · have z := List.all_eq_true.mp h5 y hy
    rw [e] at z
    simpa using z
/-- the cells that a lambda of X holds -/
abbrev clo (X : Cx) (scope : Scope) : List (Str × Addr) := cloFrom X.env.cells scope.names []
section
variable {X : Cx} {σ : L2.St} {H1 H2 : Hp} {scope : Scope} {ps : List Str}
theorem clo_up (F : Frz X σ H1 H2) (L : LamS2 X.N X.env.scope scope ps) {y : Str} {c : Addr} (e : (clo X scope).lookup y = some c) : X.env.cells.lookup y = some c := by
  rcases cloFrom_mem (PySem.mem_of_lookup e) with hm | ⟨h1, h2⟩
  · cases hm
  · obtain ⟨c1, hc⟩ := F.has y (L.free _ h1 rfl)
    rw [hc] at h2
    rw [hc, h2]
    rfl
theorem clo_isC (F : Frz X σ H1 H2) (L : LamS2 X.N X.env.scope scope ps) {b : Addr} (c : isC (clo X scope) b = true) : isC X.env.cells b = true := by
  obtain ⟨x, hx⟩ := of_isC c
  exact isC_of (clo_up F L hx)
theorem clo_fr (F : Frz X σ H1 H2) (L : LamS2 X.N X.env.scope scope ps) : ∀ b, isC (clo X scope) b = true → ∃ o, H2 b = some (Fz o) := fun b c => by
  obtain ⟨o, _, e, _⟩ := F.cel b (clo_isC F L c)
  exact ⟨o, e⟩
theorem lam_inv {A : Around} {outer : List Env} {s : Shared} {E : XK} {f c' : Addr} {h₁ : Heap} {tk : Nat} {binds : List (Str × Value)} (F : Frz X σ H1 H2) (L : LamS2 X.N X.env.scope scope ps) (e0 : Env0 X.prog X.w X.K X.mg X.base A outer s H2) (hd : A.handled = none)
    (hns : h₁.Ns s.heap.objs.size fun y => binds.reverse.lookup y) (kp : ∀ b o, s.heap.get? b = some o → h₁.get? b = some o) :
    Inv (lamCx X A outer s (thw (clo X scope) H2) E scope f c') [] σ (thw (clo X scope) H2) { s with heap := h₁, toks := tk } := by
  have none_ : ∀ b, H2 b = none → thw (clo X scope) H2 b = none := fun b n => by
    cases c : isC (clo X scope) b with
    | true => exact thw_t c
    | false => rw [thw_f c]; exact n
  have hok : HOk X.prog X.w (thw (clo X scope) H2) s.heap := hok_thw (clo_fr F L) e0.hok
  have look : ∀ {y}, scope.names.lookup y = some .free → ∃ c, (clo X scope).lookup y = some c := fun {y} hl => mem_lookup (cloFrom_has (cells := X.env.cells) (acc := []) (PySem.mem_of_lookup hl))
  have noA : ∀ b : Addr, b ∉ ([] : List Addr) := fun b => by simp
  have okX : (lamCx X A outer s (thw (clo X scope) H2) E scope f c').Ok := by
    refine ⟨e0.mod, L.kind, rfl, rfl, Nat.le_refl _, fun y z c q1 q2 => F.inj y z c (clo_up F L q1) (clo_up F L q2), fun y hy => ?_, fun y c z _ => ?_, fun _ => hd, Around.frames_deeper e0.frames, .inr ⟨rfl, rfl⟩, fun b z => absurd z (noA b), fun b o q => ⟨(e0.bs b o q).1, none_ b (e0.bs b o q).2⟩, e0.bsz, fun b _ _ => noA b,
      fun b z => absurd z (noA b), e0.funs, fun b hb => none_ b (e0.frf b hb)⟩
    · have hy : scope.names.lookup y = some .cell ∨ scope.names.lookup y = some .free := hy
      rcases hy with q | q
      · exact ((L.own _ (PySem.mem_of_lookup q)).1 rfl).elim
      · exact look q
    · exact absurd (show false = true from z) Bool.false_ne_true
  refine ⟨okX, rfl, e0.bare, Un.kept kp, ⟨_, hns, fun i y v e1 e2 e3 => ?_⟩, fun y c e => ?_, hok.fresh (Nat.le_refl _), fun y c e => thw_t (isC_of e), fun q hq => absurd (show q ∈ ([] : List (Addr × Obj)) ++ [] from hq) (by simp), hok.kept kp, F.len⟩
  · have e1 : X.N[i]? = some y := e1
    have e3 : Vis scope y := e3
    rcases e3 with k | k | k
    · exact ((L.own _ (PySem.mem_of_lookup k)).2 rfl (List.mem_of_getElem? e1)).elim
    · exact ((L.own _ (PySem.mem_of_lookup k)).1 rfl).elim
    · obtain ⟨c, hc⟩ := look k
      obtain ⟨o, u, q1, q2, q3⟩ := F.loc i y v c e1 e2 (clo_up F L hc) (L.free _ (PySem.mem_of_lookup k) rfl)
      exact ⟨u, q3, .inr ⟨.inr k, c, hc, o, kp _ _ (e0.hok c _ q1).1, q2⟩⟩
  · obtain ⟨o, v, q1, q2⟩ := F.cel c (clo_isC F L (isC_of e))
    exact ⟨v, o, kp _ _ (e0.hok c _ q1).1, q2⟩
end
/-- Y is the context of such a lambda's body -/
def IsLam (X : Cx) (scope : Scope) (k : Nat) (E : XK) (Y : Cx) : Prop := ∃ A outer s H f c', Room k (A.deeper (lamEnv X scope s.heap.objs.size f c')) ∧ Y = lamCx X A outer s H E scope f c'
theorem Cal.lam {X : Cx} {scope : Scope} {k : Nat} {E : XK} {A : Around} {outer : List Env} {s : Shared} {H : Hp} {f c' : Addr} (hr : Room k (A.deeper (lamEnv X scope s.heap.objs.size f c'))) : Cal (lamCx X A outer s H E scope f c') k E :=
  ⟨hr, passes_call (takes_of rfl rfl rfl rfl) fun _ _ _ _ h => h, rfl, takes_of rfl rfl rfl rfl, passes_of rfl⟩
section
variable {X : Cx} {σ : L2.St} {H1 H2 : Hp} {scope : Scope} {ps : List Str}
theorem cb_lam {k : Nat} {params : Arguments} {body : Expr} {f c' : Addr} {dv : Value} (F : Frz X σ H1 H2) (L : LamS2 X.N X.env.scope scope ps)
    (hf : H2 f = some (LamO f (X.env.qual ++ "<lambda>") params body scope (clo X scope) c' dv)) (hc : H2 c' = some (CodeO c' (X.env.qual ++ "<lambda>")))
    (hb : ∀ (s : Shared) (pm ctv : Value), HOk X.prog X.w H2 s.heap → ∃ us : List Value, ∀ (M : Model) (A : Around) (Q : List (Str × Value) → Shared → Prop) (E : Value → Shared → Prop), Q (ps.zip us) s →
      wpAny M A (bindArgs { name := "<lambda>", qualname := X.env.qual ++ "<lambda>", params, body := .expr body, scope, globals := mainGlobals, closure := clo X scope, defaults := dv, kwdefaults := .none, doc := .none, pyModule := pm, annotations := none, code := .ref c', closureTuple := ctv, builtins := builtinsNs } ⟨[], []⟩) Q E s) :
    Cb X.prog X.w X.K X.mg X.base (k + 1) f H2 (fun Q E => ∀ Y, IsLam X scope k (fun c d H' => E c d (fil (clo X scope) H2 H')) Y → EV Y body σ (thw (clo X scope) H2) fun v H' => Q v (fil (clo X scope) H2 H')) := by
  intro A outer s Q E hr e0 q
  obtain ⟨pm, ctv, of1⟩ := lamO_at e0.hok hf
  obtain ⟨⟨oc, vs, t, hoc, hdc, hvc⟩, _, _⟩ := e0.hok c' _ hc
  obtain ⟨us, hb⟩ := hb s pm ctv e0.hok
  have nolim : s.heap.NoLimit := e0.mod.nolimit.keeps fun b o e => (e0.bs b o e).1
  refine PySem.W.kla_callFunE hr.depth of1 rfl L.co L.gen rfl ⟨c', oc, vs, t, rfl, hoc, hdc, hvc⟩ (hb _ _ _ _ ?_)
  refine wpAny_newFunctionEnv (fun y hy => (L.own y hy).1) (fun y hy => L.par y.1 (List.of_mem_zip (show (y.1, y.2) ∈ ps.zip us from hy)).1) (fun h₁ hns hsb => ⟨nolim.fresh _ hsb, ?_⟩) L.kind
  show codeAny _ _ (.expr body (lamEnv X scope s.heap.objs.size f c')) _ _
  have kp : ∀ b o, s.heap.get? b = some o → h₁.get? b = some o := fun b o e => hsb.extBut b o (Nat.ne_of_lt (Heap.lt_size e)) (Heap.get?_push_of_some _ e)
  have J := lam_inv (E := fun c d H' => E c d (fil (clo X scope) H2 H')) (f := f) (c' := c') (tk := s.toks + (ps.zip us).length) F L e0 hr.hd hns kp
  refine PySem.W.kla_codeExpr (wpAny_mono (q _ ⟨A, outer, s, thw (clo X scope) H2, f, c', hr.deeper _, rfl⟩ [] _ J) (fun v s' hq => ?_) fun e s' hq => ?_)
  · obtain ⟨w', H', J', rv, q⟩ := hq
    exact ce_fil e0.hok e0.frf (clo_fr F L) ⟨w', H', J'.os, J'.bare, J'.base, J'.hok, rv, q⟩
  · exact wpAny_mono hq (fun _ s'' z => cx_fil e0.hok e0.frf (clo_fr F L) z) fun _ s'' z => cx_fil e0.hok e0.frf (clo_fr F L) z
end
/-! ### binding no arguments -/
theorem bind_none {M : Model} {A : Around} {Q : List (Str × Value) → Shared → Prop} {E : Value → Shared → Prop} {s : Shared} {fd : FuncData} (hd : fd.defaults = .none) (h1 : fd.params.posonlyargs = []) (h2 : fd.params.args = []) (h3 : fd.params.kwonlyargs = []) (h4 : fd.params.vararg = none) (h5 : fd.params.kwarg = none) (q : Q [] s) : wpAny M A (bindArgs fd ⟨[], []⟩) Q E s := by
  have e : bindArgs fd ⟨[], []⟩ = pure [] := by
    simp only [bindArgs, hd, h1, h2, h3, h4, h5]
    rfl
  rw [e]
  exact wpAny_pure q
theorem bind_one {M : Model} {A : Around} {Q : List (Str × Value) → Shared → Prop} {E : Value → Shared → Prop} {s : Shared} {fd : FuncData} {t : Addr} {a : Str} {v : Value} {o : Obj} {n : Nat} (hd : fd.defaults = .ref t) (ht : s.heap.get? t = some o) (ho : o.data = .seq #[v] n) (h1 : fd.params.posonlyargs = []) (h2 : fd.params.args.map (·.arg) = [a]) (h3 : fd.params.kwonlyargs = []) (h4 : fd.params.vararg = none) (h5 : fd.params.kwarg = none) (q : Q [(a, v)] s) : wpAny M A (bindArgs fd ⟨[], []⟩) Q E s := by
  simp only [bindArgs, hd, h1, h2, h3, h4, h5, List.map_nil, List.nil_append, List.forIn_nil, pure_bind, seqItems?, List.zip_nil_right, List.append_nil]
  refine wpAny_bind (wpAny_bind (wpAny_load ht ?_))
  rw [ho]
  refine wpAny_pure ?_
  refine wpAny_of_eq (a := [(a, v)]) ?_ q
  simp [List.lookup, beq_self_eq_true]
end Oil
set_option Elab.async false
set_option linter.all false
set_option maxRecDepth 100000
set_option maxHeartbeats 2000000
/-! A comprehension over a list whose block runs while the cells of its def are frozen. -/
namespace Oil
open PySem PySem.Spec PyProof.Rows L2 LamX
section
variable {X : Cx} {pins : Pins} {σ σ' : L2.St} {H : Hp} {s s' : Shared}
theorem blk_frz {scope : Scope} {ce : Env} {fp : List Addr} (I : Inv X pins σ H s) (hfn : ∀ x, X.fn x = true) (B : Inv (X.blk s H scope ce fp) [] σ' H s') (hcl : ∀ x c, ce.cells.lookup x = some c → isC X.env.cells c = false) (hL : isC X.env.cells ce.locals = false)
    (kp : ∀ b o, s.heap.get? b = some o → s'.heap.get? b = some o) : Inv (X.blk s (fzC X.env.cells s.heap H) scope ce fp) [] σ' (fzC X.env.cells s.heap H) s' := by
  have e0 := env0_fz I hfn
  have K := B.ok
  refine ⟨⟨K.mod, K.kind, K.glob, K.blt, K.above, K.inj, K.has, K.cab, K.hd, K.frames, K.stk, K.exf, e0.bs, K.bsz, K.noex, K.exfs, K.funs, e0.frf⟩, B.os, B.bare, Un.kept kp, B.loc, B.cell, ?_, fun x c e => ?_, fun p hp => ?_, e0.hok.kept kp, B.len⟩
  · exact (fzC_f hL).trans B.free
  · exact (fzC_f (hcl x c e)).trans (B.freeC x c e)
  · exact absurd (show p ∈ ([] : List (Addr × Obj)) ++ [] from hp) (by simp)
variable {Q : VK} {tg iter elt : Expr} {scope : Scope} {pos : Pos}
theorem ev_lcF (own : List (Str × Nat)) (hfn : ∀ x, X.fn x = true) (hc : X.calm = true) (hN : X.N.Nodup) (hno : ∀ y ∈ scope.names, y.2 ≠ .free ∧ y.2 ≠ .cell)
    (q : EV X iter σ H fun x H1 => ∃ a xs, x = .ref a ∧ SqL X.K H1 a xs ∧ ∀ D, H1 D = none → ∀ H2, Frz X σ (upd H1 D (.lst [])) H2 → ∃ Pv : Nat → Hp → Prop, Pv 0 H2 ∧ (∀ i H', i ≤ xs.length → Pv i H' → SqL X.K H' a xs) ∧
      (∀ i x H', xs[i]? = some x → Pv i H' → LcT X scope own tg elt σ D x H' (Pv (i + 1))) ∧ ∀ H', Pv xs.length H' → Q (.ref D) (thw X.env.cells H'))
    (ok : BlkOk X.N X.env.scope scope own := by exact blkOk_by (by kernel_rfl)) (hs : ∀ x, foldedSetIterable iter X.env x = pure x := by intro _; rfl) : EV X (.ListComp elt [⟨tg, iter, [], 0⟩] scope pos) σ H Q := by
  intro pins s I
  have nofree : ∀ y ∈ scope.names, y.2 = .free → ∃ c, X.env.cells.lookup y.1 = some c := fun y hy e => absurd e (hno y hy).1
  have hpi := (pi_list (X := X) (tg := tg) (l := iter) pe_ev).run pins s σ H (fun J H1 => ∃ a xs, J = Itl X.K a ∧ SqL X.K H1 a xs ∧ ∀ D, H1 D = none → ∀ H2, Frz X σ (upd H1 D (.lst [])) H2 → ∃ Pv : Nat → Hp → Prop, Pv 0 H2 ∧ (∀ i H', i ≤ xs.length → Pv i H' → SqL X.K H' a xs) ∧
      (∀ i x H', xs[i]? = some x → Pv i H' → LcT X scope own tg elt σ D x H' (Pv (i + 1))) ∧ ∀ H', Pv xs.length H' → Q (.ref D) (thw X.env.cells H')) I
    (EV.mono q fun x H1 ⟨a, xs, ex, hl, k⟩ => ⟨a, ex, ⟨xs, hl⟩, a, xs, rfl, hl, k⟩)
  rw [eval_ListComp]
  refine wpAny_comprehension_free rfl hs (closure_ok nofree) ok.kind (fun y hy e => (ok.uniq y hy).trans (congrArg some e)) (thn hpi fun xv s1 hx => thn hx fun itv s2 ⟨it, fp, tn, J, H2, eit, I2, T, st2, f2, a, xs, eJ, hl, k⟩ => ?_)
  subst eit
  subst eJ
  refine wpAny_newObj_type (newEnv_comp ?_) (by show 0 ≤ sizeLine; decide)
  obtain ⟨D, hD⟩ : ∃ D, D = s2.heap.objs.size := ⟨_, rfl⟩
  have nD : H2 D = none := I2.hok.fresh (Nat.le_of_eq hD.symm)
  -- the list that is filled
  obtain ⟨s3, e3⟩ : ∃ t : Shared, t = { s2 with heap := s2.heap.push { cls := .type "list", data := .seq ([] : List Value).toArray } } := ⟨_, rfl⟩
  have h3 : s3.heap = s2.heap.push { cls := .type "list", data := .seq ([] : List Value).toArray } := congrArg Shared.heap e3
  have I3 : Inv X pins σ (upd H2 D (.lst [])) s3 := by
    rw [e3]
    refine I2.laid (fun b o e => Heap.get?_push_of_some _ e) (Nat.le_of_eq hD.symm) ⟨Nat.zero_le _, [], 0, .nil, ?_⟩
    rw [hD]
    exact Heap.get?_push_size _ rfl
  have sz : ∀ b ∈ fp, b < s2.heap.objs.size := fun b hb => by
    obtain ⟨o, e, _⟩ := T.obj _ _ st2 b hb
    exact Heap.lt_size e
  have neD : ∀ b ∈ fp, b ≠ D := fun b hb => by
    rw [hD]
    exact Nat.ne_of_lt (sz b hb)
  have f3 : ∀ b ∈ fp, FpOk X pins (upd H2 D (.lst [])) b ∧ b < s3.heap.objs.size := fun b hb => by
    refine ⟨⟨(upd_ne (neD b hb)).trans (f2 b hb).1, (f2 b hb).2⟩, ?_⟩
    rw [h3, Heap.size_push]
    exact Nat.lt_succ_of_lt (sz b hb)
  have st3 : tn 0 s3.heap := T.keep _ _ _ st2 fun b _ o e => (congrArg (fun z : Heap => z.get? b) h3).trans (Heap.get?_push_of_some _ e)
  obtain ⟨ce, hce⟩ : ∃ c, c = compEnvC scope (cellsFrom (s3.heap.objs.size + 1) scope.names (cloFrom X.env.cells scope.names [])) s3.heap.objs.size X.env := ⟨_, rfl⟩
  have B0 := block_start I3 ok hN f3
  rw [← hce] at B0
  show codeAny _ _ (.compStart (.ListComp elt [⟨tg, iter, [], 0⟩] scope pos) 0 (.ref it) (.ref s2.heap.objs.size) (compEnvC scope (cellsFrom ((s2.heap.push { cls := .type "list", data := .seq #[] }).objs.size + 1) scope.names (cloFrom X.env.cells scope.names [])) (s2.heap.push { cls := .type "list", data := .seq #[] }).objs.size X.env)) (compPost (model X.prog X.w) X.A X.xe none (EP X pins σ Q) (.ref s2.heap.objs.size) (s2.heap.push { cls := .type "list", data := .seq #[] }).objs.size) _
  have hce' : ce = compEnvC scope (cellsFrom ((s2.heap.push { cls := .type "list", data := .seq #[] }).objs.size + 1) scope.names (cloFrom X.env.cells scope.names [])) (s2.heap.push { cls := .type "list", data := .seq #[] }).objs.size X.env := by rw [hce, h3] <;> rfl
  rw [← hce', ← hD]
  have cL : ce.locals = s3.heap.objs.size := by rw [hce] <;> rfl
  have cC : ce.cells = cellsFrom (s3.heap.objs.size + 1) scope.names (cloFrom X.env.cells scope.names []) := by rw [hce] <;> rfl
  have clt : ∀ b, isC X.env.cells b = true → b < s3.heap.objs.size := fun b c => by
    obtain ⟨x, hx⟩ := of_isC c
    obtain ⟨v, z⟩ := I3.cell x b hx
    exact z.lt
  have notC : ∀ b, s3.heap.objs.size ≤ b → isC X.env.cells b = false := fun b hb => by
    cases c : isC X.env.cells b with
    | false => rfl
    | true => exact absurd (Nat.lt_of_lt_of_le (clt b c) hb) (Nat.lt_irrefl _)
  have nocl : ∀ x c, ce.cells.lookup x = some c → isC X.env.cells c = false := fun x c e => by
    rw [cC] at e
    have e' : (cellsFrom ((s3.heap.push { cls := .type "dict", data := .dict #[] }).objs.size) scope.names (cloFrom X.env.cells scope.names [])).lookup x = some c := by
      rw [Heap.size_push]
      exact e
    rcases cells_mem (PySem.mem_of_lookup e') with hm | ⟨h1, _, _⟩
    · rcases cloFrom_mem hm with hm | ⟨h1, _⟩
      · cases hm
      · exact absurd rfl (hno _ h1).1
    · exact absurd rfl (hno _ h1).2
  obtain ⟨s4, e4⟩ : ∃ t : Shared, t = { s3 with heap := pushCells (s3.heap.push { cls := .type "dict", data := .dict #[] }) scope.names } := ⟨_, rfl⟩
  have kp4 : ∀ b o, s3.heap.get? b = some o → s4.heap.get? b = some o := fun b o e => by
    rw [e4]
    exact pushCells_keeps _ _ _ _ (Heap.get?_push_of_some _ e)
  rw [← e4] at B0
  have B4 := blk_frz I3 hfn B0 nocl (notC _ (Nat.le_of_eq cL.symm)) kp4
  have F := frz_of I3 hfn
  obtain ⟨Pv, p0, pk, ps, pd⟩ := k D nD _ F
  obtain ⟨H3, eH3⟩ : ∃ G, G = fzC X.env.cells s3.heap (upd H2 D (.lst [])) := ⟨_, rfl⟩
  rw [← eH3] at B4 F p0
  have st4 : tn 0 s4.heap := T.keep _ _ _ st3 fun b _ o e => kp4 b o e
  have nfp : ∀ b ∈ fp, H3 b = none := fun b hb => by
    have c : isC X.env.cells b = false := by
      cases c : isC X.env.cells b with
      | false => rfl
      | true =>
        obtain ⟨x, hx⟩ := of_isC c
        exact ((f3 b hb).1.2.2.2.2.1 x b hx rfl).elim
    exact (F.off b c).trans (f3 b hb).1.1
  have stat : ∀ {σ' : L2.St} {H' : Hp} {s' : Shared}, Inv (X.blk s3 H3 scope ce fp) [] σ' H' s' → (∀ b ∈ fp, H' b = none) → ∀ b ∈ fp, FpOk (X.blk s3 H3 scope ce fp) [] H' b := fun {σ' H' s'} J hn b hb =>
    ⟨hn b hb, (J.ok.exf b hb).1, J.ok.exfs b hb, .inl hb, fun x c e => (J.ok.exf b hb).2 x c e, fun p hp => (List.not_mem_nil (show p ∈ ([] : List (Addr × Obj)) from hp)).elim⟩
  have es4 : ({ s2 with heap := pushCells ((s2.heap.push { cls := .type "list", data := .seq #[] }).push { cls := .type "dict", data := .dict #[] }) scope.names } : Shared) = s4 := by
    rw [e4, e3] <;> rfl
  rw [show (s2.heap.push { cls := .type "list", data := .seq #[] }).objs.size = ce.locals by rw [cL, h3] <;> rfl]
  show codeAny _ _ _ _ ({ s2 with heap := pushCells ((s2.heap.push { cls := .type "list", data := .seq #[] }).push { cls := .type "dict", data := .dict #[] }) scope.names } : Shared)
  rw [es4]
  have loop : codeAny (model X.prog X.w) X.A (.compLoop (.ListComp elt [⟨tg, iter, [], 0⟩] scope pos) 0 (.ref it) (.ref D) ce) (compPost (model X.prog X.w) X.A X.xe none (EP X pins σ Q) (.ref D) ce.locals) s4 := by
    refine compLoop_any (fun n s' => ∃ i H', n = xs.length - i ∧ i ≤ xs.length ∧ Inv (X.blk s3 H3 scope ce fp) [] (wipe σ (own.map (·.2))) H' s' ∧ tn i s'.heap ∧ (∀ b ∈ fp, H' b = none) ∧ Pv i H') ?_ xs.length ⟨0, H3, rfl, Nat.zero_le _, B4, st4, nfp, p0⟩
    rintro n s5 ⟨i, H5, en, hi, J5, st5, n5, w5⟩
    have hxs := pk i H5 hi w5
    by_cases hlt : i < xs.length
    · have go : (Itl X.K a).go i H5 := ⟨xs, xs[i], hxs, List.getElem?_eq_getElem hlt⟩
      refine thnF (T.item (X.blk s3 H3 scope ce fp) rfl rfl rfl hc i [] s5 _ H5 (fun _ _ => False) J5 (stat J5 n5) st5 go) fun r s6 ⟨u, hr, h6⟩ => ?_
      subst hr
      refine thnF h6 fun _ s7 ⟨x, H7, J7, r7, y7, st7, n7⟩ => ?_
      obtain ⟨e7, hx7⟩ := y7
      subst e7
      have hx : xs[i]? = some x := hx7 xs hxs
      have P7 := J7.pinned (stat J7 n7) (T.obj _ _ st7)
      refine thnF (ps i x H7 hx w5 _ ⟨s3, H3, _, _, fp, by rw [hce]⟩ _ s7 u P7 r7) fun _ s8 ⟨σ8, H8, J8, hw8, q8⟩ => ?_
      refine wpAny_tests_nil ?_
      show wpAny _ _ _ _ _ _
      refine thnF (q8 _ ⟨s3, H3, _, _, fp, by rw [hce]⟩ _ s8 J8) fun z s10 ⟨yv, H10, J10, r10, acc, hD10, hz10, nx⟩ => ?_
      refine app_ok (X := X.blk s3 H3 scope ce fp) J10 hD10 hz10 r10 fun s11 J11 => ?_
      have pin' : ∀ b ∈ fp, ∀ o, s7.heap.get? b = some o → s11.heap.get? b = some o ∧ upd H10 D (.lst (acc ++ [yv])) b = none := fun b hb o e =>
        let z := J11.pin (b, o) (List.mem_append_right _ (List.mem_append_right _ (mem_pinsAt hb e)))
        ⟨z.1, z.2.1⟩
      have hl8 : (wipe σ (own.map (·.2))).length = σ8.length := by rw [← hw8, wipe_length]
      refine ⟨xs.length - (i + 1), by omega, i + 1, _, rfl, hlt, (J11.unpinned (pins := [])).weak hl8 (fun j v e => ?_), T.keep _ _ _ st7 fun b hb o e => (pin' b hb o e).1, fun b hb => ?_, nx⟩
      · rw [← hw8] at e
        exact (wipe_some e).1
      · obtain ⟨o, e, _⟩ := T.obj _ _ st7 b hb
        exact (pin' b hb o e).2
    · have stop : (Itl X.K a).stop i H5 := ⟨xs, hxs, Nat.le_of_not_lt hlt⟩
      refine thnF (T.done (X.blk s3 H3 scope ce fp) rfl rfl rfl hc i [] s5 _ H5 (fun _ _ => False) J5 (stat J5 n5) st5 stop) fun r s6 ⟨hr, J6⟩ => ?_
      subst hr
      have ei : i = xs.length := by omega
      subst ei
      have nf : ∀ b, isC X.env.cells b = true → (upd H2 D (.lst [])) b = none ∧ ∃ o, s3.heap.get? b = some o := fun b c => ⟨(cell_nf I3 hfn c).1, let ⟨_, _, _, o, _, e, _⟩ := cell_nf I3 hfn c; ⟨o, e⟩⟩
      have u6 : Un (frs X.stack) fp (fzC X.env.cells s3.heap (upd H2 D (.lst []))) H5 s3.heap s6.heap := by
        rw [← eH3]
        exact J6.base
      have ch : ∀ b ∈ fp, (b ∈ X.ex ∨ X.s_0.heap.objs.size ≤ b) ∧ b ≠ X.env.locals ∧ (∀ x c, X.env.cells.lookup x = some c → c ≠ b) ∧ ∀ p ∈ X.pn ++ pins, p.1 ≠ b := fun b hb =>
        let z := (f3 b hb).1
        ⟨z.2.2.2.1, z.2.1, z.2.2.2.2.1, z.2.2.2.2.2⟩
      have I7 : Inv X pins σ (thw X.env.cells H5) s6 := I3.call' (ch := fp) J6.os (un_thw (P := X.prog) (w := X.w) nf u6 J6.hok) (hok_thw (frz_behind nf u6) J6.hok) J6.bare ch
      have nC : thw X.env.cells H5 ce.locals = none := (thw_f (notC _ (Nat.le_of_eq cL.symm))).trans J6.free
      obtain ⟨m, hn, _⟩ := J6.loc
      have fpo := I3.fpOk (b := ce.locals) (Nat.le_of_eq cL.symm) nC
      refine ⟨m, hn, fun h'' sb => ?_⟩
      exact ⟨.ref D, _, I7.turned (t' := s6.toks) (fun b o hb e => (sb.2 b hb).trans e) fpo.1 fpo.2.1 fpo.2.2.2.1 fpo.2.2.2.2.1 fpo.2.2.2.2.2, rfl, pd H5 w5⟩
  exact codeAny_compStart_list loop (T.self X.A 0 _ _ _ st4 loop)
end
end Oil
set_option Elab.async false
set_option linter.all false
set_option maxRecDepth 100000
set_option maxHeartbeats 2000000
/-! try: .. except C as e: ..; isinstance of what was caught; xs.count(y), xs.index(y) of flat items. -/
namespace Oil
open PySem PySem.Spec PyProof.Rows L2 LamX
section
variable {X : Cx} {σ : L2.St} {H : Hp} {Q : VK} {D : Ends} {pos cpos apos : Pos}
/-- what the suite of `except c as n` is to do, n in slot i -/
abbrev suiteT (X : Cx) (sts : List Stmt) (a : Addr) (cls : Value) (d : Option Addr) : TS := fun D σ H => ∀ (oe : Obj) (pn : Pins), Zc cls d oe → (∃ vs, oe.data = .fields vs) → LV (X.suite a ((a, oe) :: pn)) sts σ H D
theorem sv_tryAs {x n : Str} {c : Value} {body suite : List Stmt} {b₀ : Stmt} {np pos' : Pos} {Wout : WX} (i : Nat) (hs : X.stack = X.env :: X.outer) (hf : X.env.frame = some X.env.locals) (hN : X.N.Nodup) (hc : Names X x c) (tk : Takes X Wout)
    (q : ∀ (pn : Pins) (xe : Value → Shared → Prop), Takes (X.tr pn xe) (wAs X.K c i (suiteT X (b₀ :: suite)) Wout D) → PassesOwn (model X.prog X.w) X.A X.env xe → LV (X.tr pn xe) body σ H D)
    (hi : X.N[i]? = some n := by rfl) (hln : X.env.kindOf n = some .local := by rfl) : SV X (.Try body [.ExceptHandler (some (.Name x np)) (some n) (b₀ :: suite) pos'] [] [] pos) σ H D :=
  SV.of (ps_try_as (tb := fun W => fun D σ H => ∀ (pn : Pins) (xe : Value → Shared → Prop), Takes (X.tr pn xe) W → PassesOwn (model X.prog X.w) X.A X.env xe → LV (X.tr pn xe) body σ H D) (ts := suiteT X (b₀ :: suite)) hs hf hN hi hln hc tk
    (fun W pn xe t p => ⟨fun pins s _ _ _ I h => h pn xe t p pins s I⟩) fun a oe cls d pn z f => ⟨fun pins s _ _ _ I h => h oe pn z f pins s I⟩) q
/-- isinstance(e, c), e what was caught: an exception of an own class without fields -/
theorem ev_isE {a D' : Addr} {oe : Obj} {pn : Pins} {e1 e2 : Expr} {p : Pos} (C : ExcC X.K D') (hz : Zc (.ref D') none oe) (hf : ∃ vs, oe.data = .fields vs) (hm : X.mg "isinstance" = none)
    (q : EV (X.suite a ((a, oe) :: pn)) e1 σ H fun x H1 => EV (X.suite a ((a, oe) :: pn)) e2 σ H1 fun c H2 => ∃ (cv : Value) (b : Bool), x = .ref a ∧ (∀ u, RelV c u → u = cv) ∧ PySem.W.kitOne X.K (.ref D') cv = some b ∧ Q (.bl b) H2) (hg : Gl X "isinstance" := by rfl)
    (he : starEach [e1, e2] X.env = (false, eval e1 X.env) :: starEach [e2] X.env := by rfl) (he2 : starEach [e2] X.env = (false, eval e2 X.env) :: starEach [] X.env := by rfl) (hpl : (backTo pos (starEach [e2] X.env)).any (·.1) = false := by rfl) :
    EV (X.suite a ((a, oe) :: pn)) (.Call (.Name "isinstance" p) [e1, e2] [] pos) σ H Q := by
  refine EV.of (pe_callB (X := X.suite a ((a, oe) :: pn)) (call_isE C hz hf) hg hm (by decide +kernel) (pa_cons pe_ev (pa_cons pe_ev pa_nil he2) he) (by decide) (by decide) he hpl) ?_
  refine EV.mono q fun x H1 q1 => EV.mono q1 fun c H2 ⟨cv, b, ex, hc, hk, q⟩ => ⟨c, cv, b, by rw [ex], hc, hk, q⟩
/-- xs.count(y), flat items -/
def rCntF (K : PySem.W.Frag) : V → List V → Hp → VK → Prop := fun x xs H Q => ∃ (a : Addr) (ys : List V) (y : V), x = V.ref a ∧ xs = [y] ∧ SqL K H a ys ∧ flatV y = true ∧ ys.all flatV = true ∧ Q (.int ((ys.countP fun z => eqV z y) : Nat)) H
theorem cntF_eq {y : V} : ∀ {xs : List V} {us : List Value}, Vals xs us → xs.all flatV = true → us.countP (eqU y) = xs.countP fun z => eqV z y
  | _, _, .nil, _ => rfl
  | x :: xs, u :: us, .cons r t, f => by
    obtain ⟨f1, f2⟩ := He.ba (show (flatV x && xs.all flatV) = true by rw [← List.all_cons]; exact f)
    rw [List.countP_cons, List.countP_cons, cntF_eq t f2, eqU_of r f1]
theorem mt_cntF : MtR X "list.count" (rCntF X.K) := by
  intro pins s σ H x xs v us Q I rx rxs h
  obtain ⟨a, ys, y, rfl, rfl, hs, fy, fys, q⟩ := h
  cases rx
  cases rxs with
  | cons ry rt =>
    rename_i uy ut
    cases rt
    obtain ⟨its, rv, ⟨⟨cls, dd, data, sl⟩, n, ho, hc, hdn, hd⟩, hlen⟩ := I.list hs
    simp only at hc hd
    subst hc hd
    refine call_meets F.slot_list_count ⟨_, ho, rfl⟩ F.entry_list_count (F.args_list_count_2 _ _) (SeqAt.list_countAt a its.toArray n dd sl uy (eqU y)) ⟨ho, fun u hu => mem_eqAt ry fy rv fys u (by simpa using hu), ?_⟩
    have ec : its.toArray.toList.countP (eqU y) = ys.countP fun z => eqV z y := cntF_eq rv fys
    exact ⟨.int ((ys.countP fun z => eqV z y) : Nat), H, I.tok _, ⟨s.toks, by rw [ec]⟩, q⟩
theorem ev_lcount {o e : Expr} (q : EV X o σ H fun x H1 => ∃ a ys, x = .ref a ∧ SqL X.K H1 a ys ∧ EV X e σ H1 fun y H2 => SqL X.K H2 a ys ∧ flatV y = true ∧ ys.all flatV = true ∧ Q (.int ((ys.countP fun z => eqV z y) : Nat)) H2)
    (hbase : attributeBase o "count" X.env (eval o X.env) = eval o X.env := by rfl)
    (hfew : ((backTo cpos (starEach [e] X.env)).all (fun x => !x.1) && (backToKw cpos (keywordEach [] X.env)).all (fun x => x.1.isSome) && decide (([e] : List Expr).length + ([] : List Keyword).length + (if ([] : List Keyword).isEmpty then 0 else 1) < 30)) = true := by rfl)
    (hline : (apos.endLine == cpos.line) = true := by rfl) (hs : starEach [e] X.env = (false, eval e X.env) :: starEach [] X.env := by rfl) (hplain : (backTo cpos (starEach [] X.env)).any (·.1) = false := by rfl) : EV X (.Call (.Attribute o "count" apos) [e] [] cpos) σ H Q := by
  intro pins s I
  refine (pe_bm (r := rCntF X.K) (to := fun σ H Q => EV X o σ H Q) F.plainAttrs_list F.slot_list_count F.type_list_count mt_cntF pe_ev (pa_cons pe_ev pa_nil hs) hbase hfew hline hs hplain).run pins s σ H Q I ?_
  exact EV.mono q fun x H1 ⟨a, ys, ex, hl, q⟩ => ⟨by rw [ex]; exact .inl ⟨rfl, _, hl⟩, EV.mono q fun y H2 ⟨h1, h2, h3, q⟩ => ⟨a, ys, y, ex, rfl, h1, h2, h3, q⟩⟩
/-- xs.index(y), flat items, y among them -/
theorem ev_lindex {o e : Expr} (q : EV X o σ H fun x H1 => ∃ a ys, x = .ref a ∧ SqL X.K H1 a ys ∧ EV X e σ H1 fun y H2 => SqL X.K H2 a ys ∧ flatV y = true ∧ ys.all flatV = true ∧ ∃ j z, ys[j]? = some z ∧ eqV z y = true ∧ (∀ (m : Nat) (z' : V), m < j → ys[m]? = some z' → eqV z' y = false) ∧ Q (.int (j : Nat)) H2)
    (hbase : attributeBase o "index" X.env (eval o X.env) = eval o X.env := by rfl)
    (hfew : ((backTo cpos (starEach [e] X.env)).all (fun x => !x.1) && (backToKw cpos (keywordEach [] X.env)).all (fun x => x.1.isSome) && decide (([e] : List Expr).length + ([] : List Keyword).length + (if ([] : List Keyword).isEmpty then 0 else 1) < 30)) = true := by rfl)
    (hline : (apos.endLine == cpos.line) = true := by rfl) (hs : starEach [e] X.env = (false, eval e X.env) :: starEach [] X.env := by rfl) (hplain : (backTo cpos (starEach [] X.env)).any (·.1) = false := by rfl) : EV X (.Call (.Attribute o "index" apos) [e] [] cpos) σ H Q := by
  intro pins s I
  refine (pe_bm (r := rIndex X.K) (to := fun σ H Q => EV X o σ H Q) F.plainAttrs_list F.slot_list_index F.type_list_index mt_index pe_ev (pa_cons pe_ev pa_nil hs) hbase hfew hline hs hplain).run pins s σ H Q I ?_
  exact EV.mono q fun x H1 ⟨a, ys, ex, hl, q⟩ => ⟨by rw [ex]; exact .inl ⟨rfl, _, hl⟩, EV.mono q fun y H2 ⟨h1, h2, h3, j, z, h4, h5, h6, q⟩ => ⟨a, ys, y, j, z, ex, rfl, h1, h2, h3, h4, h5, h6, q⟩⟩
end
/-! ### facts of exception classes -/
def excCF (x : Str) : Fact := fun K => He.eqO (PySem.W.findIn K (.ref (He.ga K x)) "__getattribute__") (some (some (.builtin "BaseException.__getattribute__"))) && (He.eqO (PySem.W.findIn K (.ref (He.ga K x)) "__getattr__") (some none) && (decide (PySem.W.subIn K (.ref (He.ga K x)) (.type "BaseException") = some true) &&
  (PySem.W.hasDictIn K (He.ga K x) && (He.eqO (PySem.W.findIn K (.ref (He.ga K x)) "__class__") (some (some (.builtin "object.__class__"))) && (He.eqO (PySem.W.specialIn K (.builtin "object.__class__") "__get__") (some (some (.builtin "getset_descriptor.__get__"))) &&
  (decide (PySem.W.takesIn K (.builtin "object.__class__") = some true) && decide (PySem.W.mroIn K (He.ga K x) (.type "object") = some true)))))))
theorem excC_ok {K : PySem.W.Frag} {x : Str} (h : excCF x K = true) : ExcC K (He.ga K x) := by
  obtain ⟨h1, h⟩ := He.ba h
  obtain ⟨h2, h⟩ := He.ba h
  obtain ⟨h3, h⟩ := He.ba h
  obtain ⟨h4, h⟩ := He.ba h
  obtain ⟨h5, h⟩ := He.ba h
  obtain ⟨h6, h⟩ := He.ba h
  obtain ⟨h7, h8⟩ := He.ba h
  exact ⟨He.eqO_ok h1, He.eqO_ok h2, of_decide_eq_true h3, h4, He.eqO_ok h5, He.eqO_ok h6, of_decide_eq_true h7, of_decide_eq_true h8⟩
/-- isinstance(an x, y); isinstance(an x, ValueError); except y, an x raised -/
def isxF (x y : Str) (b : Bool) : Fact := fun K => decide (PySem.W.kitOne K (.ref (He.ga K x)) (.ref (He.ga K y)) = some b)
def isvF (x : Str) : Fact := fun K => decide (PySem.W.kitOne K (.ref (He.ga K x)) (.type "ValueError") = some true)
def exmF (x y : Str) (b : Bool) : Fact := fun K => decide (PySem.W.exmOne K (.ref (He.ga K x)) (.ref (He.ga K y)) = some b)
/-! ### the head with empty tables left out -/
/-- a number brought to its figures ahead of what goes on with it -/
def frN {α : Type} (n : Nat) (k : Nat → α) : α := match n with
  | 0 => k 0
  | m + 1 => k (m + 1)
/-- of these addresses the ones whose bit is not set yet; the bits are set -/
def addNew {α : Type} (k : Nat → List Addr → α) : List Addr → Nat → List Addr → α
  | [], m, acc => k m acc
  | a :: r, m, acc => match Nat.beq (Nat.land (Nat.shiftRight m a) 1) 0 with
    | true => frN a fun a => frN (Nat.lor m (Nat.shiftLeft 1 a)) fun m => addNew k r m (a :: acc)
    | false => addNew k r m acc
def refsG (g : Addr → Option Obj) (a : Addr) : List Addr := match g a with
  | some o => He.refsD o
  | none => []
/-- what the addresses reach in n steps, each once (the numbers seen are the bits of one number) -/
def growB (g : Addr → Option Obj) : Nat → List Addr → Nat → List Addr
  | 0, fr, _ => fr
  | n + 1, fr, m => fr ++ addNew (fun m new => growB g n new m) (fr.flatMap (refsG g)) m []
def asB (g : Addr → Option Obj) (n : Nat) : List Addr := growB g n [mainGlobals] (Nat.shiftLeft 1 mainGlobals) ++ [cStatics]
def obsL (n : Nat) (fa : List Fact) (fn : List He5.DefA) (tf : List He.Defn) (g : Addr → Option Obj) : He.AlD × Bool := (obsM fa fn (He.frT g (asB g n)), He.tabsB g tf (He.frT g (asB g n)))
def valL (fn : List He5.DefA) : He.AlD × Bool := (valM fn, true)
structure SaysL (fa : List Fact) (fn : List He5.DefA) (tf : List He.Defn) (h : Heap) (K : PySem.W.Frag) : Prop where
  m : SaysM fa fn K
  hd : ∀ p ∈ tf, PySem.W.codeHdIn K (He.cT K p).1 (He.cT K p).2 = true
  out : ∀ p ∈ tf, K.lookup (He.cT K p).2 = none
  empty : ∀ p ∈ tf, h.get? (He.cT K p).2 = some { cls := .none, data := .fields #[] }
theorem saysL_of {n : Nat} {fa : List Fact} {fn : List He5.DefA} {tf : List He.Defn} {h : Heap} (e : obsL n fa fn tf h.get? = valL fn) : SaysL fa fn tf h (He.frT h.get? (asB h.get? n)) := by
  obtain ⟨K, eK⟩ : ∃ K, K = He.frT h.get? (asB h.get? n) := ⟨_, rfl⟩
  have z1 : obsM fa fn (He.frT h.get? (asB h.get? n)) = valM fn := congrArg Prod.fst e
  have z2 : He.tabsB h.get? tf (He.frT h.get? (asB h.get? n)) = true := congrArg Prod.snd e
  have each : ∀ p ∈ tf, PySem.W.codeHdIn K (He.cT K p).1 (He.cT K p).2 = true ∧ ∃ o, h.get? (He.cT K p).2 = some o ∧ He.emptyTab o = true := fun p hp => by
    rw [← eK] at z2
    obtain ⟨h3, h4⟩ := He.ba (List.all_eq_true.mp z2 p hp)
    refine ⟨h3, ?_⟩
    cases q : h.get? (He.cT K p).2 with
    | none => rw [q] at h4; cases h4
    | some o => rw [q] at h4; exact ⟨o, rfl, h4⟩
  rw [← eK] at z1 ⊢
  refine ⟨z1, fun p hp => (each p hp).1, fun p hp => ?_, fun p hp => ?_⟩
  · obtain ⟨_, o, q, z⟩ := each p hp
    have r := He.frT_none (as := asB h.get? n) q z
    rw [← eK] at r
    exact r
  · obtain ⟨_, o, q, z⟩ := each p hp
    exact q.trans (congrArg some (He.emptyTab_eq z))
def hookL (n : Nat) (fa : List Fact) (fn : List He5.DefA) (tf : List He.Defn) : PySem.W.Hook where
  α := He.AlD × Bool
  obs := fun s => obsL n fa fn tf s.heap.get?
  val := fun _ => valL fn
  says := fun _ h => ∃ K : PySem.W.Frag, K.In h ∧ SaysL fa fn tf h K
  of := fun _ _ e => ⟨_, He.frT_in, saysL_of e⟩
  keeps := fun _ _ _ ⟨K, hK, c⟩ k => ⟨K, PySem.W.Frag.In.keeps hK k, c.m, c.hd, c.out, fun p hp => k _ _ (c.empty p hp)⟩
theorem obsL_eq {n : Nat} {fa : List Fact} {fn : List He5.DefA} {tf : List He.Defn} {g : Addr → Option Obj} {s : Shared} (h : ∀ a, g a = s.heap.get? a) : obsL n fa fn tf g = (hookL n fa fn tf).obs s := by
  have e : g = s.heap.get? := funext h
  rw [e] <;> rfl
/-! ### defs that make lambdas: what a place in them leans on -/
/-- the code objects and tables of the defs that make lambdas, by their names -/
def tabsOf (K : PySem.W.Frag) (tf : List He.Defn) : List (Addr × Str) := tf.map fun p => ((He.cT K p).2, (p.1 ++ ".<locals>.") ++ "<lambda>")
theorem code_at {K : PySem.W.Frag} {x : Str} {oc : Value} {od : Option Addr} {osl : Array (Option Value)} {fd : FuncData} (lk : K.lookup (He.ga K x) = some ⟨oc, od, .func fd, osl⟩) (h : PySem.W.codeIn K fd.code fd.qualname = true) : fd.code = .ref (He.cT K (x, none)).1 := by
  obtain ⟨c, e⟩ := He.codeIn_ref h
  rw [e]
  exact congrArg Value.ref (He.codeOf_eq (p := (x, none)) lk e).symm
end Oil
set_option Elab.async false
set_option linter.all false
set_option maxRecDepth 100000
set_option maxHeartbeats 2000000
/-! Lambdas made and called, as rules at a point; the law's own def when it makes lambdas. -/
namespace Oil
open PySem PySem.Spec PyProof.Rows L2 LamX
/-- the parameters ps alone -/
def ParB (params : Arguments) (ps : List Str) : Prop := params.posonlyargs = [] ∧ params.args.map (·.arg) = ps ∧ params.kwonlyargs = [] ∧ params.vararg = none ∧ params.kwarg = none
/-- f is the lambda of X with this body -/
def IsLamAt (X : Cx) (ps : List Str) (body : Expr) (scope : Scope) (f : Addr) (H : Hp) : Prop := ∃ params c' dv, ParB params ps ∧ H f = some (LamO f (X.env.qual ++ "<lambda>") params body scope (clo X scope) c' dv) ∧ H c' = some (CodeO c' (X.env.qual ++ "<lambda>")) ∧
  ((ps = [] ∧ dv = .none) ∨ ∃ a t n, ps = [a] ∧ dv = .ref t ∧ H t = some (.tup [.int n]))
section
variable {X : Cx} {σ : L2.St} {H H' H1 H2 : Hp} {Q : VK} {scope : Scope} {ps : List Str} {body : Expr} {f : Addr} {K : PySem.W.Frag}
theorem IsLamAt.up (h : IsLamAt X ps body scope f H) (k : Kp K H H') : IsLamAt X ps body scope f H' := by
  obtain ⟨params, c', dv, pb, h1, h2, h3⟩ := h
  refine ⟨params, c', dv, pb, k _ _ trivial h1, k _ _ trivial h2, ?_⟩
  rcases h3 with h3 | ⟨a, t, n, e1, e2, h3⟩
  · exact .inl h3
  · exact .inr ⟨a, t, n, e1, e2, k.tup h3⟩
theorem IsLamAt.isFn (h : IsLamAt X ps body scope f H) : IsFn f H := by
  obtain ⟨params, c', dv, pb, h1, _⟩ := h
  exact ⟨_, _, _, _, _, _, _, h1⟩
theorem cb_of {k : Nat} (F : Frz X σ H1 H2) (L : LamS2 X.N X.env.scope scope ps) (h : IsLamAt X ps body scope f H2) :
    Cb X.prog X.w X.K X.mg X.base (k + 1) f H2 (fun Q E => ∀ Y, IsLam X scope k (fun c d H' => E c d (fil (clo X scope) H2 H')) Y → EV Y body σ (thw (clo X scope) H2) fun v H' => Q v (fil (clo X scope) H2 H')) := by
  obtain ⟨params, c', dv, ⟨p1, p2, p3, p4, p5⟩, h1, h2, h3⟩ := h
  refine cb_lam F L h1 h2 fun s pm ctv ok => ?_
  rcases h3 with ⟨rfl, rfl⟩ | ⟨a, t, n, rfl, rfl, h3⟩
  · exact ⟨[], fun M A Q E q => bind_none rfl p1 (List.map_eq_nil_iff.mp p2) p3 p4 p5 q⟩
  · obtain ⟨hz, its, rv, o, ho, hc, m, hd⟩ := ok t _ h3
    obtain ⟨u, rfl, ru⟩ := vals1 rv
    exact ⟨[u], fun M A Q E q => bind_one (o := o) (n := m) rfl ho hd p1 p2 p3 p4 p5 q⟩
/-! ### what was behind a lambda's body, back in the maker -/
theorem fz_back (F : Frz X σ H1 H2) {H3 H4 : Hp} (k1 : Kp K (thw (clo X scope) H2) H3) (k2 : Kp K (fil (clo X scope) H2 H3) H4) : ∀ b, isC X.env.cells b = true → ∃ o, H4 b = some (Fz o) := fun b c => by
  obtain ⟨o, v, e, _⟩ := F.cel b c
  refine ⟨o, k2 b _ trivial ?_⟩
  cases c2 : isC (clo X scope) b with
  | true => rw [fil_t c2]; exact e
  | false => rw [fil_f c2]; exact k1 b _ trivial (by rw [thw_f c2]; exact e)
theorem fz_in (F : Frz X σ H1 H2) {H3 : Hp} (k1 : Kp K (thw (clo X scope) H2) H3) : ∀ b, isC X.env.cells b = true → ∃ o, fil (clo X scope) H2 H3 b = some (Fz o) := fz_back F k1 (Kp.refl (K := K))
/-- an object that is no frozen cell stays -/
theorem thw_at {cl : List (Str × Addr)} {b : Addr} {o : HO} (fr : ∀ b, isC cl b = true → ∃ o, H b = some (Fz o)) (e : H b = some o) (n : ∀ z, o ≠ Fz z) : thw cl H b = some o := (thw_f (isC_nz fr e n)).trans e
/-- an object of the maker's own heap -/
theorem thw_old {b : Addr} {o : HO} (F : Frz X σ H1 H2) (h1 : H1 b ≠ none) (e : H b = some o) : thw X.env.cells H b = some o := by
  rw [thw_f (by
    cases c : isC X.env.cells b with
    | false => rfl
    | true => exact (h1 (F.out b c)).elim)]
  exact e
theorem clo_sub (F : Frz X σ H1 H2) (L : LamS2 X.N X.env.scope scope ps) {b : Addr} {o : HO} (e : H1 b = some o) : isC (clo X scope) b = false := by
  cases c : isC (clo X scope) b with
  | false => rfl
  | true =>
    rw [F.out b (clo_isC F L c)] at e
    cases e
/-- the maker's heap is part of the lambda's; what stays there stays -/
theorem lam_in (F : Frz X σ H1 H2) (L : LamS2 X.N X.env.scope scope ps) : Same H1 (thw (clo X scope) H2) := fun b o e => by
  rw [thw_f (clo_sub F L e)]
  exact F.same b o e
theorem lam_out (F : Frz X σ H1 H2) (L : LamS2 X.N X.env.scope scope ps) {H3 H4 : Hp} {b : Addr} {o : HO} (h1 : H1 b ≠ none) (e : H3 b = some o) (k : fil (clo X scope) H2 H3 b = some o → H4 b = some o) : thw X.env.cells H4 b = some o := by
  refine thw_old F h1 (k ?_)
  rw [fil_f ?_]
  · exact e
  · cases c : isC (clo X scope) b with
    | false => rfl
    | true => exact (h1 (F.out b (clo_isC F L c))).elim
theorem same_out (F : Frz X σ H1 H2) (L : LamS2 X.N X.env.scope scope ps) {H3 H4 : Hp} (S1 : Same H1 H3) (S2 : Same (fil (clo X scope) H2 H3) H4) : Same H1 (thw X.env.cells H4) := fun b o e => lam_out F L (by rw [e]; simp) (S1 b o e) (S2 b o)
theorem kp_out (F : Frz X σ H1 H2) (L : LamS2 X.N X.env.scope scope ps) {H3 H4 : Hp} (S1 : Kp K H1 H3) (S2 : Kp K (fil (clo X scope) H2 H3) H4) : Kp K H1 (thw X.env.cells H4) := fun b o i e => lam_out F L (by rw [e]; simp) (S1 b o i e) (S2 b o i)
theorem but_out (F : Frz X σ H1 H2) (L : LamS2 X.N X.env.scope scope ps) {d : Addr} {H3 H4 : Hp} (S1 : But d H1 H3) (S2 : Same (fil (clo X scope) H2 H3) H4) : But d H1 (thw X.env.cells H4) := fun b o n e => lam_out F L (by rw [e]; simp) (S1 b o n e) (S2 b o)
end
/-! ### making -/
section
variable {X : Cx} {σ : L2.St} {H : Hp} {Q : VK} {T : List (Addr × Str)} {c P : Addr} {params : Arguments} {body : Expr} {scope : Scope} {pos : Pos}
/-- what the def of X leans on when it makes lambdas -/
structure MakesL (X : Cx) (T : List (Addr × Str)) (c P : Addr) : Prop where
  tb : TabB X.base X.mg c P
  code : X.env.code = .ref c
  mem : (P, X.env.qual ++ "<lambda>") ∈ T
  one : ∀ p ∈ T, p.1 = P → p.2 = X.env.qual ++ "<lambda>"
theorem ev_lamA (M : MakesL X T c P) (hT : Tabs T H) (L : LamS2 X.N X.env.scope scope []) (q : ∀ (f : Addr) (H' : Hp), ExtN H H' → Tabs T H' → H f = none → IsLamAt X [] body scope f H' → Q (.ref f) H')
    (hp : ParB params [] := by exact ⟨rfl, rfl, rfl, rfl, rfl⟩) (hdef : defaultsOf params X.env = ([], []) := by rfl) : EV X (.Lambda params body scope pos) σ H Q := fun pins s I => by
  refine ev_lam0 ⟨M.tb, M.code, M.mem, M.one, fun y hy e => I.ok.has _ (L.free y hy e)⟩ hT (fun f c' H1 eN nN T1 hc hf => ?_) hdef pins s I
  have S := same_upd (o := LamO f (X.env.qual ++ "<lambda>") params body scope (clo X scope) c' .none) hf
  exact q f _ (extN_same eN S) (T1.ext fun b o e => S b o e) (nN f hf) ⟨params, c', .none, hp, upd_same, S _ _ hc, .inl ⟨rfl, rfl⟩⟩
theorem ev_lamB {n : Int} {j : Nat} {pn : Pos} {a : Str} (M : MakesL X T c P) (hT : Tabs T H) (L : LamS2 X.N X.env.scope scope [a]) (q : ∀ (f : Addr) (H' : Hp), ExtN H H' → Tabs T H' → H f = none → IsLamAt X [a] body scope f H' → Q (.ref f) H')
    (hp : ParB params [a] := by exact ⟨rfl, rfl, rfl, rfl, rfl⟩) (hdef : defaultsOf params X.env = ([eval (.Constant (.int n) j pn) X.env], []) := by rfl) : EV X (.Lambda params body scope pos) σ H Q := fun pins s I => by
  refine ev_lam1 ⟨M.tb, M.code, M.mem, M.one, fun y hy e => I.ok.has _ (L.free y hy e)⟩ hT (fun f c' t H0 H1 nt e0 eN nN T1 hc hf => ?_) hdef pins s I
  have S := same_upd (o := LamO f (X.env.qual ++ "<lambda>") params body scope (clo X scope) c' (.ref t)) hf
  have S0 : Same H H0 := by
    rw [e0]
    exact same_upd nt
  refine q f _ (same_extN S0 (extN_same eN S)) (T1.ext fun b o e => S b o e) ?_ ⟨params, c', .ref t, hp, upd_same, S _ _ hc, .inr ⟨a, t, n, rfl, rfl, S _ _ (eN _ _ (by rw [e0]; exact upd_same) nofun)⟩⟩
  exact non_of S0 (nN f hf)
end
/-! ### the defs that make lambdas -/
/-- tables of the defs tf over the base -/
def TabsB (K : PySem.W.Frag) (mg : Str → Option Value) (base : Heap) (tf : List He.Defn) : Prop := ∀ p ∈ tf, TabB base mg (He.cT K p).1 (He.cT K p).2
/-- no two of them share a table -/
def apartF (tf : List He.Defn) : Fact := fun K => tf.all fun p => tf.all fun q => decide (p = q) || !decide ((He.cT K p).2 = (He.cT K q).2)
theorem makesL {X : Cx} {tf : List He.Defn} {x : Str} (B : TabsB X.K X.mg X.base tf) (ap : apartF tf X.K = true) (hx : (x, none) ∈ tf) (hq : X.env.qual = x ++ ".<locals>.") (hc : X.env.code = .ref (He.cT X.K (x, none)).1) : MakesL X (tabsOf X.K tf) (He.cT X.K (x, none)).1 (He.cT X.K (x, none)).2 where
  tb := B _ hx
  code := hc
  mem := List.mem_map.mpr ⟨(x, none), hx, by rw [hq]⟩
  one := fun p hp e => by
    obtain ⟨q, hqm, rfl⟩ := List.mem_map.mp hp
    have z := List.all_eq_true.mp (List.all_eq_true.mp ap q hqm) (x, none) hx
    rcases (Bool.or_eq_true _ _).mp z with z | z
    · rw [of_decide_eq_true z, hq]
    · have e' : (He.cT X.K q).2 = (He.cT X.K (x, none)).2 := e
      rw [decide_eq_true e'] at z
      cases z
theorem fnrT {P : Program} {w : World} {K : PySem.W.Frag} {mg : Str → Option Value} {base : Heap} {x : Str} {st : Stmt} {N ps : List Str} {k : Nat} {sp : Sp}
    (F : ∃ fd, FunD K x x (defArgs st) (defBody st) (defScope st) [] [] (He.ga K x) fd) (S : FnScope N ps (defScope st))
    (hb : ∀ (kV doc pm : Value) (an : Option Addr) (cdv ct : Value) (us : List Value), us.length = ps.length → bindArgs (PySem.W.fnOf x x (defArgs st) (defBody st) (defScope st) .none kV doc pm an cdv ct) ⟨us, []⟩ = pure (ps.zip us))
    (len : ∀ vs H Q E, sp vs H Q E → vs.length = ps.length)
    (hbody : ∀ (cdv : Value) (A : Around) (outer : List Env) (s : Shared) (H : Hp) (vs : List V) (Q : VK) (E : XK), cdv = .ref (He.cT K (x, none)).1 → Room k (A.deeper (envOfC x (defScope st) s.heap.objs.size (He.ga K x) cdv)) → sp vs H Q E →
      LV (cxOf (L2.CX P w) P w K mg base N x (defScope st) (He.ga K x) cdv A outer s H E) (defBody st) (start N vs) H { nx := fun _ H' => Q .non H', rt := Q }) :
    FnR P w K mg base (L2.CX P w) (k + 1) (He.ga K x) sp := by
  obtain ⟨fd, FD⟩ := F
  obtain ⟨oc, od, kV, doc, pm, an, cdv, ct, osl, e, lk, hcd⟩ := (He5.fun_of FD).ex
  subst e
  have ec : cdv = .ref (He.cT K (x, none)).1 := code_at lk hcd
  have G : FnOk P w K mg base (L2.CX P w) (k + 1) (He.ga K x) (PySem.W.fnOf x x (defArgs st) (defBody st) (defScope st) .none kV doc pm an cdv ct) ps sp :=
    fn_of lk hcd S len fun A outer s H vs Q E hr hsp => ⟨_, pss_lv, hbody cdv A outer s H vs Q E ec hr hsp⟩
  refine (G.raw (.all (hb kV doc pm an cdv ct)) .nil).imp fun vs H Q E h => ?_
  rw [List.append_nil]
  exact h
/-- a law's promise, with tables -/
def spLawT (K : PySem.W.Frag) (tf : List He.Defn) : Sp := fun vs H Q _ => ∃ (a : Addr) (ns : List Int), vs = [.ref a] ∧ SqL K H a (ns.map V.int) ∧ ns.length ≤ 63 ∧ Tabs (tabsOf K tf) H ∧ ∀ H', Q (.bl true) H'
theorem law_endT {P : Program} {w : World} {K : PySem.W.Frag} {mg : Str → Option Value} {x p : Str} {tf : List He.Defn} {st : Stmt} {N : List Str} {k : Nat} {sp : Sp}
    (F : ∃ fd, FunD K x x (defArgs st) (defBody st) (defScope st) [] [] (He.ga K x) fd) (S : FnScope N [p] (defScope st))
    (hb : ∀ (kV doc pm : Value) (an : Option Addr) (cdv ct : Value) (us : List Value), us.length = [p].length → bindArgs (PySem.W.fnOf x x (defArgs st) (defBody st) (defScope st) .none kV doc pm an cdv ct) ⟨us, []⟩ = pure ([p].zip us))
    (len : ∀ vs H Q E, sp vs H Q E → vs.length = [p].length)
    (hbody : ∀ (base : Heap) (cdv : Value) (A : Around) (outer : List Env) (s : Shared) (H : Hp) (vs : List V) (Q : VK) (E : XK), TabsB K mg base tf → cdv = .ref (He.cT K (x, none)).1 → Room k (A.deeper (envOfC x (defScope st) s.heap.objs.size (He.ga K x) cdv)) → sp vs H Q E →
      LV (cxOf (L2.CX P w) P w K mg base N x (defScope st) (He.ga K x) cdv A outer s H E) (defBody st) (start N vs) H { nx := fun _ H' => Q .non H', rt := Q }) :
    ∃ fd : FuncData, (∀ (s : Shared) (v : Value), BindsTo s fd ⟨[v], []⟩ [(p, v)]) ∧ ∀ base : Heap, TabsB K mg base tf → FnOk P w K mg base CX0 (k + 1) (He.ga K x) fd [p] (fun vs H Q _ => sp vs H Q E0) := by
  obtain ⟨fd, FD⟩ := F
  obtain ⟨oc, od, kV, doc, pm, an, cdv, ct, osl, e, lk, hcd⟩ := (He5.fun_of FD).ex
  subst e
  have ec : cdv = .ref (He.cT K (x, none)).1 := code_at lk hcd
  refine ⟨_, fun s v => .of_eq (hb kV doc pm an cdv ct [v] rfl), fun base B => FnOk.cx0 ?_⟩
  exact fn_of lk hcd S len fun A outer s H vs Q E hr hsp => ⟨_, pss_lv, hbody base cdv A outer s H vs Q E B ec hr hsp⟩
/-- the law at the head's heap -/
theorem lawAtT {l : PySem.W.OpenLaw} {w : World} {K : PySem.W.Frag} {k n : Nat} {x : Str} {mg : Str → Option Value} {fa : Addr} {h : Heap} {facts : List Fact} {fn : List He5.DefA} {tf : List He.Defn} (hn : n ≤ 63) (KX : K.In h) (c : SaysL facts fn tf h K) {fd : FuncData} (hb : ∀ (s : Shared) (v : Value), BindsTo s fd ⟨[v], []⟩ [(x, v)])
    (hF : ∀ base : Heap, TabsB K mg base tf → FnOk l.prog w K mg base CX0 k fa fd [x] (fun vs H Q _ => spLawT K tf vs H Q E0)) : LawAtS l w K CX0 k n x mg fa h := by
  have at_ : ∀ p ∈ tf.map (He.cT K), ∃ q ∈ tf, p = He.cT K q := fun p hp => by
    obtain ⟨q, hq, e⟩ := List.mem_map.mp hp
    exact ⟨q, hq, e.symm⟩
  refine ⟨fd, tf.map (He.cT K), _, fun p hp => ?_, fun p hp => ?_, fun p hp => ?_, hb, fun H a ns hl _ hT hS => ⟨a, ns, rfl, hS, Nat.le_trans hl hn, fun p hp => ?_, fun _ => rfl⟩, fun base _ _ B => hF base fun p hp => B _ (List.mem_map_of_mem hp)⟩
  · obtain ⟨q, hq, rfl⟩ := at_ p hp
    exact c.empty q hq
  · obtain ⟨q, hq, rfl⟩ := at_ p hp
    exact c.out q hq
  · obtain ⟨q, hq, rfl⟩ := at_ p hp
    exact PySem.W.codeHd_of_K KX (c.hd q hq)
  · obtain ⟨q, hq, rfl⟩ := List.mem_map.mp hp
    exact TabS.nil (hT _ (List.mem_map_of_mem hq))
end Oil
set_option Elab.async false
set_option linter.all false
set_option maxRecDepth 100000
set_option maxHeartbeats 2000000
/-! x op y, x of an own class, y of a built-in type. -/
namespace Oil
open PySem PySem.Spec PyProof.Rows L2
section
variable {X : Cx} {k j : Nat} {E : XK} {CC f : Addr} {sp : Sp}
theorem op_ownT (C : Cal X k E) {op : Operator} {n : String} {fo ro rc : Option Value} (sf : PySem.W.selfFirst X.K CC = true) (hm : Meth X.K CC (PySem.dunder op.info.2) f) (F : FnR X.prog X.w X.K X.mg X.base (L2.CX X.prog X.w) j f sp) (hj : j ≤ k)
    (hr : PySem.W.findIn X.K (.ref CC) (dunderR op.info.2) = some rc) (hp : rc = none ∨ ∃ g : Addr, rc = some (.ref g)) (h1 : PySem.W.findIn X.K (.type n) (PySem.dunder op.info.2) = some fo) (h2 : PySem.W.findIn X.K (.type n) (dunderR op.info.2) = some ro)
    (hsub : PySem.W.subIn X.K (.type n) (.ref CC) = some false) :
    OpR X (binaryOp op) (fun x y H Q => ∃ a dx fs, x = .ref a ∧ (∀ u, RelV y u → typeOf u = pure (.type n)) ∧ H a = some (.ins CC dx fs) ∧ sp [x, y] H Q E) := by
  intro pins s σ H x y v u Q I rx ry h
  obtain ⟨a, dx, fs, rfl, hty, ha, q⟩ := h
  cases (show v = Value.ref a from rx)
  obtain ⟨od, J⟩ := inst_of I ha
  obtain ⟨m, hF⟩ := I.fr
  refine PySem.W.ksp_binT (T := n) hF I.ok.mod.kin J (hty _ ry) sf hm.at_ hm.fn hr hp h1 h2 hsub ?_
  refine wpAny_mono (wpAny_call (run_fnR (us := [.ref a, u]) (vs := [.ref a, y]) F (C.hr.mono hj) C.hx I (.cons rfl (.cons ry .nil)) q)) (fun w s' z => ?_) fun _ _ x => x
  obtain ⟨z', H', I', rz, qz⟩ := z
  exact SlX.cmpback rz ⟨z', H', I', rz, qz⟩
theorem ty_int {i : Int} : ∀ u, RelV (.int i) u → typeOf u = pure (.type "int") := fun u ⟨t, e⟩ => by rw [e] <;> rfl
theorem ty_non : ∀ u, RelV .non u → typeOf u = pure (.type "NoneType") := fun u e => by
  cases (show u = Value.none from e)
  rfl
theorem ty_bl {b : Bool} : ∀ u, RelV (.bl b) u → typeOf u = pure (.type "bool") := fun u e => by
  cases (show u = Value.bool b from e)
  rfl
theorem ty_str {x : Str} : ∀ u, RelV (.str x) u → typeOf u = pure (.type "str") := fun u ⟨t, e⟩ => by rw [e] <;> rfl
end
end Oil
set_option Elab.async false
set_option linter.all false
set_option maxRecDepth 100000
set_option maxHeartbeats 2000000
/-! The list of the oil after each leg, up to the one on which it goes out. -/
namespace Oil
open PySem PySem.Spec PyProof.Rows L2
/-- oil behind a leg, or -1 less the steps walked -/
def Wy.lg (w : Wy) (i : Nat) (o : Int) : Int := if (w.at i).2 ≤ min w.cap (o + (w.at i).1) then min w.cap (o + (w.at i).1) - (w.at i).2 else 0 - 1 - min w.cap (o + (w.at i).1)
def Wy.wl (w : Wy) (i : Nat) (o : Int) : Nat → List Int
  | 0 => [o]
  | n + 1 => if 0 ≤ (w.wl i o n).getLastD 0 then w.wl i o n ++ [w.lg (i + n) ((w.wl i o n).getLastD 0)] else w.wl i o n
theorem lastD_app (l : List Int) (z d : Int) : (l ++ [z]).getLastD d = z := by
  rw [List.getLastD_eq_getLast?, List.getLast?_append]
  rfl
theorem wl_ne (w : Wy) (i : Nat) (o : Int) : ∀ n, w.wl i o n ≠ []
  | 0 => by simp [Wy.wl]
  | n + 1 => by
    have h := wl_ne w i o n
    unfold Wy.wl
    split
    · simp
    · exact h
theorem wl_len (w : Wy) (i : Nat) (o : Int) : ∀ n, (w.wl i o n).length ≤ n + 1
  | 0 => by simp [Wy.wl]
  | n + 1 => by
    have h := wl_len w i o n
    unfold Wy.wl
    split
    · simp only [List.length_append, List.length_cons, List.length_nil]
      omega
    · omega
theorem atI_lastD {l : List Int} (h : l ≠ []) : atI (l.map V.int) (-1) = some (V.int (l.getLastD 0)) := by
  have hl : 0 < l.length := List.length_pos_iff.mpr h
  unfold atI ixN
  rw [if_neg (by decide), if_pos (by simp only [List.length_map]; omega)]
  show (l.map V.int)[(-1 + ((l.map V.int).length : Int)).toNat]? = _
  rw [List.length_map, show (-1 + (l.length : Int)).toNat = l.length - 1 by omega, List.getElem?_map, List.getLastD_eq_getLast?, List.getLast?_eq_getElem?]
  rw [List.getElem?_eq_getElem (by omega)]
  rfl
theorem lg_step (w : Wy) (i : Nat) {o : Int} (h : 0 ≤ min w.cap (o + (w.at i).1)) : (∃ r, w.step i o = some r ∧ w.lg i o = r ∧ 0 ≤ r) ∨ (w.step i o = none ∧ w.lg i o = 0 - 1 - min w.cap (o + (w.at i).1) ∧ w.lg i o < 0) := by
  unfold Wy.lg Wy.step
  by_cases h1 : (w.at i).2 ≤ min w.cap (o + (w.at i).1)
  · rw [if_pos h1, if_neg (by omega)]
    exact .inl ⟨_, rfl, rfl, by omega⟩
  · rw [if_neg h1, if_pos (by omega)]
    exact .inr ⟨rfl, rfl, by omega⟩
/-- the list tells the walk -/
structure WlGo (w : Wy) (i : Nat) (o : Int) (n : Nat) (l : List Int) : Prop where
  len : l.length = n + 1
  at_ : ∀ j, j ≤ n → ∃ u, w.walk i o j = some u ∧ l[j]? = some u
theorem wl_spec {w : Wy} (ok : w.ok) (i : Nat) {o : Int} (h0 : 0 ≤ o) : ∀ n, (∃ r, w.walk i o n = some r ∧ (w.wl i o n).getLastD 0 = r ∧ WlGo w i o n (w.wl i o n)) ∨
    ∃ m u, m < n ∧ (w.walk i o m = some u ∧ w.walk i o (m + 1) = none) ∧ (w.wl i o n).getLastD 0 = 0 - 1 - min w.cap (u + (w.at (i + m)).1) ∧ (w.wl i o n).getLastD 0 < 0 ∧ (w.wl i o n).length = m + 2 ∧ ∀ j, j ≤ m → ∃ u, w.walk i o j = some u ∧ (w.wl i o n)[j]? = some u
  | 0 => .inl ⟨o, rfl, rfl, rfl, fun j hj => ⟨o, by have : j = 0 := by omega
                                                    rw [this]; exact ⟨rfl, rfl⟩⟩⟩
  | n + 1 => by
    rcases wl_spec ok i h0 n with ⟨r, hr, hl, go⟩ | ⟨m, u, hm, ho, hl, hneg, hlen, hat⟩
    · have r0 := walk_nonneg h0 hr
      have p := ok.at_ok (i + n)
      have c1 := ok.c1
      have e : w.wl i o (n + 1) = w.wl i o n ++ [w.lg (i + n) r] := by
        show (if 0 ≤ (w.wl i o n).getLastD 0 then _ else _) = _
        rw [hl, if_pos r0]
      have hw : w.walk i o (n + 1) = w.step (i + n) r := by
        show (w.walk i o n).bind (w.step (i + n)) = _
        rw [hr]
        rfl
      have old : ∀ (z : Int) j, j ≤ n → ∃ u, w.walk i o j = some u ∧ (w.wl i o n ++ [z])[j]? = some u := fun z j hj => by
        obtain ⟨u, h1, h2⟩ := go.at_ j hj
        exact ⟨u, h1, by rw [List.getElem?_append_left (by rw [go.len]; omega)]; exact h2⟩
      rw [e, lastD_app]
      rcases lg_step w (i + n) (o := r) (by have := p.1; omega) with ⟨r', h1, h2, h3⟩ | ⟨h1, h2, h3⟩
      · refine .inl ⟨r', hw.trans h1, h2, ?_, fun j hj => ?_⟩
        · rw [List.length_append, go.len]
          rfl
        · by_cases hj2 : j ≤ n
          · exact old _ j hj2
          · have : j = n + 1 := by omega
            subst this
            refine ⟨r', hw.trans h1, ?_⟩
            rw [List.getElem?_append_right (by rw [go.len]; omega), go.len, h2]
            simp
      · exact .inr ⟨n, r, by omega, ⟨hr, hw.trans h1⟩, h2, h3, by rw [List.length_append, go.len]; rfl, old _⟩
    · have e : w.wl i o (n + 1) = w.wl i o n := by
        show (if 0 ≤ (w.wl i o n).getLastD 0 then _ else _) = _
        rw [if_neg (by omega)]
      rw [e]
      exact .inr ⟨m, u, by omega, ho, hl, hneg, hlen, hat⟩
theorem wl_small {w : Wy} (ok : w.ok) (i : Nat) {o : Int} (h0 : 0 ≤ o) (n : Nat) : -1000000001 ≤ (w.wl i o n).getLastD 0 ∧ ((w.wl i o n).getLastD 0 ≤ o ∨ (w.wl i o n).getLastD 0 ≤ w.cap) := by
  have c2 := ok.c2
  have c1 := ok.c1
  rcases wl_spec ok i h0 n with ⟨r, hr, hl, go⟩ | ⟨m, u, hm, ho, hl, hneg, hlen, hat⟩
  · have r0 := walk_nonneg h0 hr
    rw [hl]
    refine ⟨by omega, ?_⟩
    cases n with
    | zero => cases hr; exact .inl (Int.le_refl _)
    | succ n => exact .inr (walk_capped ok i hr)
  · rw [hl]
    have u0 := walk_nonneg h0 ho.1
    have p := ok.at_ok (i + m)
    exact ⟨by omega, .inr (by have := p.1; omega)⟩
end Oil
namespace Oil
open PySem PySem.Spec PyProof.Rows L2
/-- an item of the list, and the walk -/
theorem wl_due {w : Wy} (ok : w.ok) (i : Nat) {o : Int} (h0 : 0 ≤ o) {n j : Nat} (hj : j ≤ n) : (j < (w.wl i o n).length → ∃ z, (w.wl i o n)[j]? = some z ∧ ((0 ≤ z ∧ w.walk i o j = some z) ∨ (z < 0 ∧ w.walk i o j = none))) ∧ (¬ j < (w.wl i o n).length → w.walk i o j = none) := by
  rcases wl_spec ok i h0 n with ⟨r, hr, hl, go⟩ | ⟨m, u, hm, ho, hl, hneg, hlen, hat⟩
  · refine ⟨fun _ => ?_, fun h => absurd (by rw [go.len]; omega) h⟩
    obtain ⟨z, h1, h2⟩ := go.at_ j hj
    exact ⟨z, h2, .inl ⟨walk_nonneg h0 h1, h1⟩⟩
  · rw [hlen]
    refine ⟨fun h => ?_, fun h => walk_gone (by omega) ho.2⟩
    by_cases hjm : j ≤ m
    · obtain ⟨z, h1, h2⟩ := hat j hjm
      exact ⟨z, h2, .inl ⟨walk_nonneg h0 h1, h1⟩⟩
    · have : j = m + 1 := by omega
      subst this
      refine ⟨_, ?_, .inr ⟨hneg, ho.2⟩⟩
      rw [List.getLastD_eq_getLast?, List.getLast?_eq_getElem?, hlen, show m + 2 - 1 = m + 1 by omega]
      rw [List.getElem?_eq_getElem (by omega)]
      rfl
end Oil
set_option Elab.async false
set_option linter.all false
set_option maxRecDepth 100000
set_option maxHeartbeats 2000000
/-! Comprehensions whose items are told one by one. -/
namespace Oil
open PySem PySem.Spec PyProof.Rows L2
section
variable {X : Cx} {tg elt : Expr} {scope : Scope} {own : List (Str × Nat)} {σ : L2.St} {Q : VK} {H1 : Hp}
/-- what is made of the items so far -/
structure Made (φ : Nat → Hp → V → Prop) (H1 : Hp) (D : Addr) (i : Nat) (H' : Hp) : Prop where
  s : Same H1 H'
  l : ∃ ys, H' D = some (.lst ys) ∧ ys.length = i ∧ ∀ j v, ys[j]? = some v → φ j H' v
theorem made_nil {φ : Nat → Hp → V → Prop} {D : Addr} (zD : H1 D = none) : Made φ H1 D 0 (upd H1 D (.lst [])) := ⟨same_upd' (Same.refl _) zD, [], upd_same, rfl, fun j v hv => by simp at hv⟩
theorem made_snoc {φ : Nat → Hp → V → Prop} (up : ∀ i H H' v, φ i H v → (∀ b xs, H b = some (.tup xs) → H' b = some (.tup xs)) → φ i H' v) {D : Addr} {i : Nat} {H' H2 : Hp} {v : V} (zD : H1 D = none) (M : Made φ H1 D i H') (S2 : Same H' H2) (hv : φ i H2 v) : ∃ acc, H2 D = some (.lst acc) ∧ acc.length = i ∧ Made φ H1 D (i + 1) (upd H2 D (.lst (acc ++ [v]))) := by
  obtain ⟨S, ys, hD, hl, hys⟩ := M
  have kt : ∀ b xs, H2 b = some (.tup xs) → upd H2 D (.lst (ys ++ [v])) b = some (.tup xs) := fun b xs e => by
    have nb : b ≠ D := fun e2 => by
      rw [e2, S2 _ _ hD] at e
      cases e
    rw [upd_ne nb]
    exact e
  refine ⟨ys, S2 _ _ hD, hl, same_upd' (Same.trans S S2) zD, ys ++ [v], upd_same, by rw [List.length_append, hl]; rfl, fun j u hu => ?_⟩
  by_cases hj : j < ys.length
  · rw [List.getElem?_append_left hj] at hu
    exact up _ _ _ _ (up _ _ _ _ (hys j u hu) fun b xs e => S2 _ _ e) kt
  · rw [List.getElem?_append_right (by omega)] at hu
    have e : j = i := by
      have := (List.getElem?_eq_some_iff.mp hu).1
      simp only [List.length_cons, List.length_nil] at this
      omega
    subst e
    rw [hl, Nat.sub_self] at hu
    have e2 : v = u := by simpa using hu
    rw [← e2]
    exact up _ _ _ _ hv kt
theorem lc_rngP (m : Nat) (φ : Nat → Hp → V → Prop) (n : Nat) (hn : n ≤ 1000000) (up : ∀ i H H' v, φ i H v → (∀ b xs, H b = some (.tup xs) → H' b = some (.tup xs)) → φ i H' v)
    (hg : ∀ Y, IsBlk X scope Y → ∀ (v : V) (σ : L2.St) (H : Hp) (R : L2.St → Hp → Prop), R (σ.set m (some v)) H → GV Y tg v σ H R)
    (he : ∀ Y, IsBlk X scope Y → ∀ (i : Nat) (H' : Hp) (R : VK), i < n → Same H1 H' → (∀ H2 v, Same H' H2 → φ i H2 v → R v H2) → EV Y elt ((wipe σ (own.map (·.2))).set m (some (.int (i : Nat)))) H' R)
    (q : ∀ H' D vs, Same H1 H' → H1 D = none → H' D = some (.lst vs) → vs.length = n → (∀ j v, vs[j]? = some v → φ j H' v) → Q (.ref D) H')
    (hw : ∀ v : V, wipe ((wipe σ (own.map (·.2))).set m (some v)) (own.map (·.2)) = wipe σ (own.map (·.2)) := by intro _; rfl) : LcR X scope own tg elt σ Q n H1 := by
  intro D zD
  refine ⟨Made φ H1 D, made_nil zD, fun i H' hi hp => ?_, fun H' hp => ?_⟩
  · intro Y hY
    refine hg Y hY _ _ _ _ ⟨hw _, fun Y2 hY2 => he Y2 hY2 i _ _ hi hp.s fun H2 v S2 hv => ?_⟩
    obtain ⟨acc, h1, h2, h3⟩ := made_snoc up zD hp S2 hv
    exact ⟨acc, h1, by rw [sizeLine_eq]; omega, h3⟩
  · obtain ⟨S, ys, hD, hl, hys⟩ := hp
    exact q H' D ys S zD hD hl hys
theorem lc_lstP {xs : List V} {K0 : Hp → Prop} (m : Nat) (φ : Nat → Hp → V → Prop) (hn : xs.length ≤ 1000000) (hK : ∀ H', Same H1 H' → K0 H') (up : ∀ i H H' v, φ i H v → (∀ b xs, H b = some (.tup xs) → H' b = some (.tup xs)) → φ i H' v)
    (hg : ∀ Y, IsBlk X scope Y → ∀ (v : V) (σ : L2.St) (H : Hp) (R : L2.St → Hp → Prop), R (σ.set m (some v)) H → GV Y tg v σ H R)
    (he : ∀ Y, IsBlk X scope Y → ∀ (i : Nat) (x : V) (H' : Hp) (R : VK), xs[i]? = some x → Same H1 H' → (∀ H2 v, Same H' H2 → φ i H2 v → R v H2) → EV Y elt ((wipe σ (own.map (·.2))).set m (some x)) H' R)
    (q : ∀ H' D vs, Same H1 H' → H1 D = none → H' D = some (.lst vs) → vs.length = xs.length → (∀ j v, vs[j]? = some v → φ j H' v) → Q (.ref D) H')
    (hw : ∀ v : V, wipe ((wipe σ (own.map (·.2))).set m (some v)) (own.map (·.2)) = wipe σ (own.map (·.2)) := by intro _; rfl) : LcL X scope own tg elt σ Q xs K0 H1 := by
  intro D zD
  refine ⟨Made φ H1 D, made_nil zD, fun i H' _ hp => hK _ hp.s, fun i x H' hx hp => ?_, fun H' hp => ?_⟩
  · have hi := (List.getElem?_eq_some_iff.mp hx).1
    intro Y hY
    refine hg Y hY _ _ _ _ ⟨hw _, fun Y2 hY2 => he Y2 hY2 i x _ _ hx hp.s fun H2 v S2 hv => ?_⟩
    obtain ⟨acc, h1, h2, h3⟩ := made_snoc up zD hp S2 hv
    exact ⟨acc, h1, by rw [sizeLine_eq]; omega, h3⟩
  · obtain ⟨S, ys, hD, hl, hys⟩ := hp
    exact q H' D ys S zD hD hl hys
end
/-! ### None among such values -/
section
variable {X : Cx} {σ : L2.St} {H : Hp} {Q : VK} {Qt Qf : Hp → Prop} {pos apos cpos : Pos}
theorem shaped_list {ds : List PyData} (h : ∀ d ∈ ds, PyData.canLay0 d = true ∧ PyData.depth d ≤ 60) : SeqAt.shaped (.list ds) = true := by
  have h1 : ∀ ds : List PyData, (∀ d ∈ ds, PyData.canLay0 d = true ∧ PyData.depth d ≤ 60) → PyData.canLayAll0 ds = true ∧ PyData.depthAll ds ≤ 60 := by
    intro ds
    induction ds with
    | nil => intro _; exact ⟨by simp [PyData.canLayAll0], by simp [PyData.depthAll]⟩
    | cons d ds ih =>
      intro h
      obtain ⟨a, b⟩ := h d List.mem_cons_self
      obtain ⟨c, e⟩ := ih fun x hx => h x (List.mem_cons_of_mem _ hx)
      refine ⟨by simp [PyData.canLayAll0, a, c], ?_⟩
      simp only [PyData.depthAll]
      omega
  obtain ⟨a, b⟩ := h1 ds h
  show (PyData.canLay0 (.list ds) && decide (PyData.depth (.list ds) ≤ 64)) = true
  rw [Bool.and_eq_true]
  refine ⟨by simp only [PyData.canLay0]; exact a, decide_eq_true ?_⟩
  simp only [PyData.depth]
  omega
theorem op_lay (x : Option (Int × Int)) : PyData.canLay0 (dOP x) = true ∧ PyData.depth (dOP x) ≤ 60 := by
  cases x with
  | none => exact ⟨by decide +kernel, by simp [dOP, PyData.depth]⟩
  | some p => exact ⟨by simp [dOP, dP, PyData.canLay0, PyData.canLayAll0], by simp [dOP, dP, PyData.depth, PyData.depthAll]⟩
theorem ev_lindexD {o e : Expr} (hu : X.A.units + 65 < cLine) (q : EV X o σ H fun x H1 => ∃ a ds, x = .ref a ∧ (∃ ys, SqL X.K H1 a ys) ∧ EV X e σ H1 fun y H2 => ∃ d, Dp X.K H2 (.ref a) (.list ds) ∧ Dp X.K H2 y d ∧ SeqAt.shaped (.list ds) = true ∧ SeqAt.shaped d = true ∧ ∃ j z, ds[j]? = some z ∧ PyData.eqv z d = true ∧ (∀ (m : Nat) (z' : PyData), m < j → ds[m]? = some z' → PyData.eqv z' d = false) ∧ Q (.int (j : Nat)) H2)
    (hbase : attributeBase o "index" X.env (eval o X.env) = eval o X.env := by rfl)
    (hfew : ((backTo cpos (starEach [e] X.env)).all (fun x => !x.1) && (backToKw cpos (keywordEach [] X.env)).all (fun x => x.1.isSome) && decide (([e] : List Expr).length + ([] : List Keyword).length + (if ([] : List Keyword).isEmpty then 0 else 1) < 30)) = true := by rfl)
    (hline : (apos.endLine == cpos.line) = true := by rfl) (hs : starEach [e] X.env = (false, eval e X.env) :: starEach [] X.env := by rfl) (hplain : (backTo cpos (starEach [] X.env)).any (·.1) = false := by rfl) : EV X (.Call (.Attribute o "index" apos) [e] [] cpos) σ H Q := by
  intro pins s I
  refine (pe_bm (r := rIndexD X.K) (to := fun σ H Q => EV X o σ H Q) F.plainAttrs_list F.slot_list_index F.type_list_index (mt_indexD hu) pe_ev (pa_cons pe_ev pa_nil hs) hbase hfew hline hs hplain).run pins s σ H Q I ?_
  exact EV.mono q fun x H1 ⟨a, ds, ex, hl, q⟩ => ⟨by rw [ex]; exact .inl ⟨rfl, hl⟩, EV.mono q fun y H2 ⟨d, h1, h2, h3, h4, j, z, h5, h6, h7, q⟩ => ⟨a, y, d, ds, j, z, ex, rfl, h1, h2, h3, h4, h5, h6, h7, q⟩⟩
end
end Oil
set_option Elab.async false
set_option linter.all false
set_option maxRecDepth 100000
set_option maxHeartbeats 2000000
/-! Ways so many times as great; where an endless walk comes to rest, round by round. -/
namespace Oil
open PySem PySem.Spec PyProof.Rows L2
def Wy.sc (w : Wy) (f : Int) : Wy := ⟨w.cap * f, w.posts.map fun p => (p.1 * f, p.2 * f)⟩
theorem sc_len (w : Wy) (f : Int) : (w.sc f).posts.length = w.posts.length := List.length_map ..
theorem sc_at {w : Wy} (n1 : 1 ≤ w.posts.length) (f : Int) (i : Nat) : (w.sc f).at i = ((w.at i).1 * f, (w.at i).2 * f) := by
  have hl : i % w.posts.length < w.posts.length := Nat.mod_lt _ n1
  unfold Wy.at
  rw [sc_len, List.getD_eq_getElem?_getD, List.getD_eq_getElem?_getD]
  show ((w.posts.map fun p => (p.1 * f, p.2 * f))[i % w.posts.length]?).getD (0, 1) = _
  rw [List.getElem?_map, List.getElem?_eq_getElem hl]
  rfl
theorem mul_lt_iff {f : Int} (hf : 1 ≤ f) (x y : Int) : x * f < y * f ↔ x < y := ⟨fun h => Int.lt_of_mul_lt_mul_right h (by omega), fun h => Int.mul_lt_mul_of_pos_right h (by omega)⟩
theorem mul_min {f : Int} (hf : 1 ≤ f) (x y : Int) : min (x * f) (y * f) = min x y * f := by
  by_cases h : x ≤ y
  · rw [Int.min_eq_left h, Int.min_eq_left (Int.mul_le_mul_of_nonneg_right h (by omega))]
  · have h2 : y ≤ x := by omega
    rw [Int.min_eq_right h2, Int.min_eq_right (Int.mul_le_mul_of_nonneg_right h2 (by omega))]
theorem sc_step {w : Wy} (n1 : 1 ≤ w.posts.length) {f : Int} (hf : 1 ≤ f) (i : Nat) (o : Int) : (w.sc f).step i (o * f) = (w.step i o).map (· * f) := by
  unfold Wy.step
  rw [sc_at n1]
  show (if min (w.cap * f) (o * f + (w.at i).1 * f) < (w.at i).2 * f then none else some (min (w.cap * f) (o * f + (w.at i).1 * f) - (w.at i).2 * f)) = _
  rw [← Int.add_mul, mul_min hf]
  by_cases h : min w.cap (o + (w.at i).1) < (w.at i).2
  · rw [if_pos h, if_pos ((mul_lt_iff hf _ _).mpr h)]
    rfl
  · rw [if_neg h, if_neg (fun z => h ((mul_lt_iff hf _ _).mp z)), ← Int.sub_mul]
    rfl
theorem sc_walk {w : Wy} (n1 : 1 ≤ w.posts.length) {f : Int} (hf : 1 ≤ f) (i : Nat) (o : Int) : ∀ n, (w.sc f).walk i (o * f) n = (w.walk i o n).map (· * f)
  | 0 => rfl
  | n + 1 => by
    show ((w.sc f).walk i (o * f) n).bind _ = ((w.walk i o n).bind _).map _
    rw [sc_walk n1 hf i o n]
    cases w.walk i o n with
    | none => rfl
    | some u => exact sc_step n1 hf (i + n) u
theorem sc_surplus (w : Wy) (f : Int) : (w.sc f).surplus = w.surplus * f := by
  have key : ∀ l : List (Int × Int), ((l.map fun p => (p.1 * f, p.2 * f)).map fun p => p.1 - p.2).sum = (l.map fun p => p.1 - p.2).sum * f := by
    intro l
    induction l with
    | nil => simp
    | cons p l ih =>
      simp only [List.map_cons, List.sum_cons]
      rw [ih, Int.add_mul, Int.sub_mul]
  exact key w.posts
theorem sc_endless {w : Wy} (n1 : 1 ≤ w.posts.length) {f : Int} (hf : 1 ≤ f) (i : Nat) (o : Int) : (w.sc f).endless i (o * f) = w.endless i o := by
  unfold Wy.endless
  rw [sc_surplus, sc_len, sc_walk n1 hf]
  have e : (0 ≤ w.surplus * f) ↔ 0 ≤ w.surplus := by
    constructor
    · intro h
      by_cases h2 : 0 ≤ w.surplus
      · exact h2
      · have := Int.mul_lt_mul_of_pos_right (show w.surplus < 0 by omega) (show 0 < f by omega)
        omega
    · intro h
      exact Int.mul_nonneg h (by omega)
  have e2 : ((w.walk i o (2 * w.posts.length)).map (· * f)).isSome = (w.walk i o (2 * w.posts.length)).isSome := by cases w.walk i o (2 * w.posts.length) <;> rfl
  rw [e2]
  congr 1
  by_cases h : 0 ≤ w.surplus
  · rw [decide_eq_true h, decide_eq_true (e.mpr h)]
  · rw [decide_eq_false h, decide_eq_false (fun z => h (e.mp z))]
/-- after r rounds, not before, the oil stays v -/
structure Fin (w : Wy) (i : Nat) (o : Int) (r : Nat) (v : Int) : Prop where
  at_ : w.walk i o (w.posts.length * r) = some v
  on : w.walk i v w.posts.length = some v
  no : ∀ k, k < r → w.walk i o (w.posts.length * k) ≠ w.walk i o (w.posts.length * (k + 1))
theorem walk_next (w : Wy) (i : Nat) (o : Int) {k : Nat} {u : Int} (h : w.walk i o (w.posts.length * k) = some u) : w.walk i o (w.posts.length * (k + 1)) = w.walk i u w.posts.length := by
  rw [Nat.mul_add, Nat.mul_one, walk_add, h]
  exact walk_round w i u k _
theorem fin_one {w : Wy} {i : Nat} {o : Int} {r r' : Nat} {v v' : Int} (a : Fin w i o r v) (b : Fin w i o r' v') : r = r' ∧ v = v' := by
  have key : ∀ {r r' : Nat} {v v' : Int}, Fin w i o r v → Fin w i o r' v' → ¬ r < r' := fun {r r' v v'} a b h => by
    refine b.no r h ?_
    rw [walk_next w i o a.at_, a.on, a.at_]
  have e : r = r' := by
    rcases Nat.lt_trichotomy r r' with h | h | h
    · exact (key a b h).elim
    · exact h
    · exact (key b a h).elim
  subst e
  exact ⟨rfl, Option.some.inj (a.at_.symm.trans b.at_)⟩
theorem fin_sc {w : Wy} (n1 : 1 ≤ w.posts.length) {f : Int} (hf : 1 ≤ f) {i : Nat} {o : Int} {r : Nat} {v : Int} (a : Fin w i o r v) : Fin (w.sc f) i (o * f) r (v * f) := by
  refine ⟨?_, ?_, fun k hk e => a.no k hk ?_⟩
  · rw [sc_len, sc_walk n1 hf, a.at_]
    rfl
  · rw [sc_len, sc_walk n1 hf, a.on]
    rfl
  · rw [sc_len, sc_walk n1 hf, sc_walk n1 hf] at e
    have inj : ∀ x y : Option Int, x.map (· * f) = y.map (· * f) → x = y := fun x y h => by
      cases x with
      | none =>
        cases y with
        | none => rfl
        | some y => cases h
      | some x =>
        cases y with
        | none => cases h
        | some y =>
          have h : x * f = y * f := Option.some.inj h
          rw [Int.eq_of_mul_eq_mul_right (by omega) h]
    exact inj _ _ e
theorem sett_fin {w : Wy} (ok : w.ok) {i : Nat} {o : Int} (ho : 0 ≤ o) {a : Int × Int} (hs : w.sett i o = some a) : ∃ r : Nat, a.1 = r ∧ r ≤ 1000000000 ∧ Fin w i o r a.2 := by
  have he : w.endless i o = true := by
    cases h : w.endless i o with
    | true => rfl
    | false =>
      unfold Wy.sett at hs
      rw [h, if_neg Bool.false_ne_true] at hs
      cases hs
  obtain ⟨r, e1, r9, h1, h2, h3⟩ := sett_law ok ho hs
  obtain ⟨g0, R⟩ := rounds ok ho he
  have n1 := ok.n1
  have c1 := ok.c1
  have c2 := ok.c2
  -- two alike, then all alike
  have stays : ∀ {k : Nat}, w.walk i o (w.posts.length * k) = w.walk i o (w.posts.length * (k + 1)) → ∀ m, w.walk i o (w.posts.length * (k + m)) = w.walk i o (w.posts.length * k) := fun {k} hk m => by
    induction m with
    | zero => rfl
    | succ m ih =>
      cases hu : w.walk i o (w.posts.length * k) with
      | none =>
        have z := walk_gone (m := w.posts.length * k) (n := w.posts.length * (k + 1)) (Nat.mul_le_mul_left _ (by omega)) hu
        rw [R k] at z
        cases z
      | some u =>
        rw [hu] at ih
        have e := walk_next w i o ih
        rw [show k + (m + 1) = k + m + 1 by omega, e, ← walk_next w i o hu, ← hk, hu]
  have top : w.walk i o (w.posts.length * (10 ^ 17 + 1)) = w.walk i o (w.posts.length * 10 ^ 17) := by
    have b1 := R (10 ^ 17)
    have b2 := R (10 ^ 17 - 1)
    rw [show 10 ^ 17 - 1 + 1 = 10 ^ 17 by decide, show ((10 ^ 17 : Nat) : Int) = 100000000000000000 by decide] at b2
    rw [show ((10 ^ 17 + 1 : Nat) : Int) = 100000000000000001 by decide] at b1
    rw [b1, b2]
    congr 1
    by_cases hg : w.surplus = 0
    · rw [hg]
      omega
    · have hcap : min (w.st i w.posts.length).top (o + 100000000000000000 * w.surplus) ≤ w.cap := by
        refine walk_capped ok i (o := o) (n := w.posts.length * 10 ^ 17 - 1) ?_
        rw [show w.posts.length * 10 ^ 17 - 1 + 1 = w.posts.length * 10 ^ 17 by omega]
        exact b2
      omega
  have fixed : w.walk i a.2 w.posts.length = some a.2 := by
    rw [← walk_next w i o h2, top, h2]
  refine ⟨r, e1, r9, h1, fixed, fun k hk e => ?_⟩
  rcases h3 with rfl | ⟨s, rfl, h3⟩
  · omega
  · have f1 := stays e (s - k)
    have f2 := stays e (10 ^ 17 - k)
    rw [show k + (s - k) = s by omega] at f1
    rw [show k + (10 ^ 17 - k) = 10 ^ 17 by omega] at f2
    exact h3 (f1.trans (f2.symm.trans h2))
/-- what is told of a way so many times as great -/
theorem sett_sc {w : Wy} (ok : w.ok) {f : Int} (hf : 1 ≤ f) (okf : (w.sc f).ok) {i : Nat} {o : Int} (ho : 0 ≤ o) {r : Nat} {v : Int} (h : Fin w i o r v) (he : w.endless i o = true) : (w.sc f).sett i (o * f) = some ((r : Int), v * f) := by
  have he2 : (w.sc f).endless i (o * f) = true := (sc_endless ok.n1 hf i o).trans he
  obtain ⟨a, ha⟩ : ∃ a, (w.sc f).sett i (o * f) = some a := by
    unfold Wy.sett
    rw [if_pos he2]
    split <;> exact ⟨_, rfl⟩
  obtain ⟨r2, e1, _, h2⟩ := sett_fin okf (Int.mul_nonneg ho (by omega)) ha
  obtain ⟨e2, e3⟩ := fin_one h2 (fin_sc ok.n1 hf h)
  obtain ⟨a1, a2⟩ := a
  have e1 : a1 = (r2 : Int) := e1
  have e3 : a2 = v * f := e3
  rw [ha, e1, e2, e3]
end Oil
set_option Elab.async false
set_option linter.all false
set_option maxRecDepth 100000
set_option maxHeartbeats 2000000
/-! y = [..] for a local y, over a list, whose block runs while the cells of its def are frozen. -/
namespace Oil
open PySem PySem.Spec PyProof.Rows L2 LamX
section
variable {X : Cx} {pins : Pins} {σ σ' : L2.St} {H : Hp} {s s' : Shared} {tg iter elt : Expr} {scope : Scope} {pos : Pos}
theorem sv_lcF {y : Str} {py cpos spos : Pos} {D0 : Ends} (i0 : Nat) (own : List (Str × Nat)) (hfn : ∀ x, X.fn x = true) (hc : X.calm = true) (hN : X.N.Nodup) (hno : ∀ y ∈ scope.names, y.2 ≠ .free ∧ y.2 ≠ .cell)
    (q : EV X iter σ H fun x H1 => ∃ a xs, x = .ref a ∧ SqL X.K H1 a xs ∧ ∀ D, H1 D = none → ∀ H2, Frz X σ (upd H1 D (.lst [])) H2 → ∃ Pv : Nat → Hp → Prop, Pv 0 H2 ∧ (∀ i H', i ≤ xs.length → Pv i H' → SqL X.K H' a xs) ∧
      (∀ i x H', xs[i]? = some x → Pv i H' → LcT X scope own tg elt σ D x H' (Pv (i + 1))) ∧ ∀ H', Pv xs.length H' → D0.nx (σ.set i0 (some (.ref D))) (thw X.env.cells H'))
    (hy : X.N[i0]? = some y := by rfl) (hyl : X.env.scope.names.lookup y = some .local := by rfl) (hsw : swapsWith (.ListComp elt [⟨tg, iter, [], 0⟩] scope cpos) (some (.Name y py)) spos.line X.env = pure true := by exact sw_true rfl rfl (by decide +kernel) (by decide +kernel))
    (ok : BlkOk X.N X.env.scope scope own := by exact blkOk_by (by kernel_rfl)) (hs : ∀ x, foldedSetIterable iter X.env x = pure x := by intro _; rfl) : SV X (.Assign [.Name y py] (.ListComp elt [⟨tg, iter, [], 0⟩] scope cpos) spos) σ H D0 := by
  intro pins s I
  rw [exec_Assign_Name_used _ _ _ _ hsw]
  refine wpAny_bind (wpAny_standAt (wpAny_bind ?_))
  show wpAny _ X.A (do let _ ← comprehension (.ListComp elt [⟨tg, iter, [], 0⟩] scope cpos) scope X.env (firstIterPos [⟨tg, iter, [], 0⟩] cpos) (newList []) false (eval iter X.env) (some (assign (.Name y py) X.env))) _ _ s
  refine wpAny_bind (thn (Q := fun _ s' => SP X pins D0 .next s') ?_ fun _ s' hq => wpAny_pure (wpAny_pure hq))
  have nofree : ∀ y ∈ scope.names, y.2 = .free → ∃ c, X.env.cells.lookup y.1 = some c := fun y hy e => absurd e (hno y hy).1
  have hpi := (pi_list (X := X) (tg := tg) (l := iter) pe_ev).run pins s σ H (fun J H1 => ∃ a xs, J = Itl X.K a ∧ SqL X.K H1 a xs ∧ ∀ D, H1 D = none → ∀ H2, Frz X σ (upd H1 D (.lst [])) H2 → ∃ Pv : Nat → Hp → Prop, Pv 0 H2 ∧ (∀ i H', i ≤ xs.length → Pv i H' → SqL X.K H' a xs) ∧
      (∀ i x H', xs[i]? = some x → Pv i H' → LcT X scope own tg elt σ D x H' (Pv (i + 1))) ∧ ∀ H', Pv xs.length H' → D0.nx (σ.set i0 (some (.ref D))) (thw X.env.cells H')) I
    (EV.mono q fun x H1 ⟨a, xs, ex, hl, k⟩ => ⟨a, ex, ⟨xs, hl⟩, a, xs, rfl, hl, k⟩)
  refine wpAny_comprehension_free rfl hs (closure_ok nofree) ok.kind (fun y hy e => (ok.uniq y hy).trans (congrArg some e)) (thn hpi fun xv s1 hx => thn hx fun itv s2 ⟨it, fp, tn, J, H2, eit, I2, T, st2, f2, a, xs, eJ, hl, k⟩ => ?_)
  subst eit
  subst eJ
  refine wpAny_newObj_type (newEnv_comp ?_) (by show 0 ≤ sizeLine; decide)
  obtain ⟨D, hD⟩ : ∃ D, D = s2.heap.objs.size := ⟨_, rfl⟩
  have nD : H2 D = none := I2.hok.fresh (Nat.le_of_eq hD.symm)
  -- the list that is filled
  obtain ⟨s3, e3⟩ : ∃ t : Shared, t = { s2 with heap := s2.heap.push { cls := .type "list", data := .seq ([] : List Value).toArray } } := ⟨_, rfl⟩
  have h3 : s3.heap = s2.heap.push { cls := .type "list", data := .seq ([] : List Value).toArray } := congrArg Shared.heap e3
  have I3 : Inv X pins σ (upd H2 D (.lst [])) s3 := by
    rw [e3]
    refine I2.laid (fun b o e => Heap.get?_push_of_some _ e) (Nat.le_of_eq hD.symm) ⟨Nat.zero_le _, [], 0, .nil, ?_⟩
    rw [hD]
    exact Heap.get?_push_size _ rfl
  have sz : ∀ b ∈ fp, b < s2.heap.objs.size := fun b hb => by
    obtain ⟨o, e, _⟩ := T.obj _ _ st2 b hb
    exact Heap.lt_size e
  have neD : ∀ b ∈ fp, b ≠ D := fun b hb => by
    rw [hD]
    exact Nat.ne_of_lt (sz b hb)
  have f3 : ∀ b ∈ fp, FpOk X pins (upd H2 D (.lst [])) b ∧ b < s3.heap.objs.size := fun b hb => by
    refine ⟨⟨(upd_ne (neD b hb)).trans (f2 b hb).1, (f2 b hb).2⟩, ?_⟩
    rw [h3, Heap.size_push]
    exact Nat.lt_succ_of_lt (sz b hb)
  have st3 : tn 0 s3.heap := T.keep _ _ _ st2 fun b _ o e => (congrArg (fun z : Heap => z.get? b) h3).trans (Heap.get?_push_of_some _ e)
  obtain ⟨ce, hce⟩ : ∃ c, c = compEnvC scope (cellsFrom (s3.heap.objs.size + 1) scope.names (cloFrom X.env.cells scope.names [])) s3.heap.objs.size X.env := ⟨_, rfl⟩
  have B0 := block_start I3 ok hN f3
  rw [← hce] at B0
  show codeAny _ _ (.compStart (.ListComp elt [⟨tg, iter, [], 0⟩] scope cpos) 0 (.ref it) (.ref s2.heap.objs.size) (compEnvC scope (cellsFrom ((s2.heap.push { cls := .type "list", data := .seq #[] }).objs.size + 1) scope.names (cloFrom X.env.cells scope.names [])) (s2.heap.push { cls := .type "list", data := .seq #[] }).objs.size X.env)) (compPost (model X.prog X.w) X.A X.xe (some (assign (.Name y py) X.env)) (fun _ s' => SP X pins D0 .next s') (.ref s2.heap.objs.size) (s2.heap.push { cls := .type "list", data := .seq #[] }).objs.size) _
  have hce' : ce = compEnvC scope (cellsFrom ((s2.heap.push { cls := .type "list", data := .seq #[] }).objs.size + 1) scope.names (cloFrom X.env.cells scope.names [])) (s2.heap.push { cls := .type "list", data := .seq #[] }).objs.size X.env := by rw [hce, h3] <;> rfl
  rw [← hce', ← hD]
  have cL : ce.locals = s3.heap.objs.size := by rw [hce] <;> rfl
  have cC : ce.cells = cellsFrom (s3.heap.objs.size + 1) scope.names (cloFrom X.env.cells scope.names []) := by rw [hce] <;> rfl
  have clt : ∀ b, isC X.env.cells b = true → b < s3.heap.objs.size := fun b c => by
    obtain ⟨x, hx⟩ := of_isC c
    obtain ⟨v, z⟩ := I3.cell x b hx
    exact z.lt
  have notC : ∀ b, s3.heap.objs.size ≤ b → isC X.env.cells b = false := fun b hb => by
    cases c : isC X.env.cells b with
    | false => rfl
    | true => exact absurd (Nat.lt_of_lt_of_le (clt b c) hb) (Nat.lt_irrefl _)
  have nocl : ∀ x c, ce.cells.lookup x = some c → isC X.env.cells c = false := fun x c e => by
    rw [cC] at e
    have e' : (cellsFrom ((s3.heap.push { cls := .type "dict", data := .dict #[] }).objs.size) scope.names (cloFrom X.env.cells scope.names [])).lookup x = some c := by
      rw [Heap.size_push]
      exact e
    rcases cells_mem (PySem.mem_of_lookup e') with hm | ⟨h1, _, _⟩
    · rcases cloFrom_mem hm with hm | ⟨h1, _⟩
      · cases hm
      · exact absurd rfl (hno _ h1).1
    · exact absurd rfl (hno _ h1).2
  obtain ⟨s4, e4⟩ : ∃ t : Shared, t = { s3 with heap := pushCells (s3.heap.push { cls := .type "dict", data := .dict #[] }) scope.names } := ⟨_, rfl⟩
  have kp4 : ∀ b o, s3.heap.get? b = some o → s4.heap.get? b = some o := fun b o e => by
    rw [e4]
    exact pushCells_keeps _ _ _ _ (Heap.get?_push_of_some _ e)
  rw [← e4] at B0
  have B4 := blk_frz I3 hfn B0 nocl (notC _ (Nat.le_of_eq cL.symm)) kp4
  have F := frz_of I3 hfn
  obtain ⟨Pv, p0, pk, ps, pd⟩ := k D nD _ F
  obtain ⟨H3, eH3⟩ : ∃ G, G = fzC X.env.cells s3.heap (upd H2 D (.lst [])) := ⟨_, rfl⟩
  rw [← eH3] at B4 F p0
  have st4 : tn 0 s4.heap := T.keep _ _ _ st3 fun b _ o e => kp4 b o e
  have nfp : ∀ b ∈ fp, H3 b = none := fun b hb => by
    have c : isC X.env.cells b = false := by
      cases c : isC X.env.cells b with
      | false => rfl
      | true =>
        obtain ⟨x, hx⟩ := of_isC c
        exact ((f3 b hb).1.2.2.2.2.1 x b hx rfl).elim
    exact (F.off b c).trans (f3 b hb).1.1
  have stat : ∀ {σ' : L2.St} {H' : Hp} {s' : Shared}, Inv (X.blk s3 H3 scope ce fp) [] σ' H' s' → (∀ b ∈ fp, H' b = none) → ∀ b ∈ fp, FpOk (X.blk s3 H3 scope ce fp) [] H' b := fun {σ' H' s'} J hn b hb =>
    ⟨hn b hb, (J.ok.exf b hb).1, J.ok.exfs b hb, .inl hb, fun x c e => (J.ok.exf b hb).2 x c e, fun p hp => (List.not_mem_nil (show p ∈ ([] : List (Addr × Obj)) from hp)).elim⟩
  have es4 : ({ s2 with heap := pushCells ((s2.heap.push { cls := .type "list", data := .seq #[] }).push { cls := .type "dict", data := .dict #[] }) scope.names } : Shared) = s4 := by
    rw [e4, e3] <;> rfl
  rw [show (s2.heap.push { cls := .type "list", data := .seq #[] }).objs.size = ce.locals by rw [cL, h3] <;> rfl]
  show codeAny _ _ _ _ ({ s2 with heap := pushCells ((s2.heap.push { cls := .type "list", data := .seq #[] }).push { cls := .type "dict", data := .dict #[] }) scope.names } : Shared)
  rw [es4]
  have loop : codeAny (model X.prog X.w) X.A (.compLoop (.ListComp elt [⟨tg, iter, [], 0⟩] scope cpos) 0 (.ref it) (.ref D) ce) (compPost (model X.prog X.w) X.A X.xe (some (assign (.Name y py) X.env)) (fun _ s' => SP X pins D0 .next s') (.ref D) ce.locals) s4 := by
    refine compLoop_any (fun n s' => ∃ i H', n = xs.length - i ∧ i ≤ xs.length ∧ Inv (X.blk s3 H3 scope ce fp) [] (wipe σ (own.map (·.2))) H' s' ∧ tn i s'.heap ∧ (∀ b ∈ fp, H' b = none) ∧ Pv i H') ?_ xs.length ⟨0, H3, rfl, Nat.zero_le _, B4, st4, nfp, p0⟩
    rintro n s5 ⟨i, H5, en, hi, J5, st5, n5, w5⟩
    have hxs := pk i H5 hi w5
    by_cases hlt : i < xs.length
    · have go : (Itl X.K a).go i H5 := ⟨xs, xs[i], hxs, List.getElem?_eq_getElem hlt⟩
      refine thnF (T.item (X.blk s3 H3 scope ce fp) rfl rfl rfl hc i [] s5 _ H5 (fun _ _ => False) J5 (stat J5 n5) st5 go) fun r s6 ⟨u, hr, h6⟩ => ?_
      subst hr
      refine thnF h6 fun _ s7 ⟨x, H7, J7, r7, y7, st7, n7⟩ => ?_
      obtain ⟨e7, hx7⟩ := y7
      subst e7
      have hx : xs[i]? = some x := hx7 xs hxs
      have P7 := J7.pinned (stat J7 n7) (T.obj _ _ st7)
      refine thnF (ps i x H7 hx w5 _ ⟨s3, H3, _, _, fp, by rw [hce]⟩ _ s7 u P7 r7) fun _ s8 ⟨σ8, H8, J8, hw8, q8⟩ => ?_
      refine wpAny_tests_nil ?_
      show wpAny _ _ _ _ _ _
      refine thnF (q8 _ ⟨s3, H3, _, _, fp, by rw [hce]⟩ _ s8 J8) fun z s10 ⟨yv, H10, J10, r10, acc, hD10, hz10, nx⟩ => ?_
      refine app_ok (X := X.blk s3 H3 scope ce fp) J10 hD10 hz10 r10 fun s11 J11 => ?_
      have pin' : ∀ b ∈ fp, ∀ o, s7.heap.get? b = some o → s11.heap.get? b = some o ∧ upd H10 D (.lst (acc ++ [yv])) b = none := fun b hb o e =>
        let z := J11.pin (b, o) (List.mem_append_right _ (List.mem_append_right _ (mem_pinsAt hb e)))
        ⟨z.1, z.2.1⟩
      have hl8 : (wipe σ (own.map (·.2))).length = σ8.length := by rw [← hw8, wipe_length]
      refine ⟨xs.length - (i + 1), by omega, i + 1, _, rfl, hlt, (J11.unpinned (pins := [])).weak hl8 (fun j v e => ?_), T.keep _ _ _ st7 fun b hb o e => (pin' b hb o e).1, fun b hb => ?_, nx⟩
      · rw [← hw8] at e
        exact (wipe_some e).1
      · obtain ⟨o, e, _⟩ := T.obj _ _ st7 b hb
        exact (pin' b hb o e).2
    · have stop : (Itl X.K a).stop i H5 := ⟨xs, hxs, Nat.le_of_not_lt hlt⟩
      refine thnF (T.done (X.blk s3 H3 scope ce fp) rfl rfl rfl hc i [] s5 _ H5 (fun _ _ => False) J5 (stat J5 n5) st5 stop) fun r s6 ⟨hr, J6⟩ => ?_
      subst hr
      have ei : i = xs.length := by omega
      subst ei
      have nf : ∀ b, isC X.env.cells b = true → (upd H2 D (.lst [])) b = none ∧ ∃ o, s3.heap.get? b = some o := fun b c => ⟨(cell_nf I3 hfn c).1, let ⟨_, _, _, o, _, e, _⟩ := cell_nf I3 hfn c; ⟨o, e⟩⟩
      have u6 : Un (frs X.stack) fp (fzC X.env.cells s3.heap (upd H2 D (.lst []))) H5 s3.heap s6.heap := by
        rw [← eH3]
        exact J6.base
      have ch : ∀ b ∈ fp, (b ∈ X.ex ∨ X.s_0.heap.objs.size ≤ b) ∧ b ≠ X.env.locals ∧ (∀ x c, X.env.cells.lookup x = some c → c ≠ b) ∧ ∀ p ∈ X.pn ++ pins, p.1 ≠ b := fun b hb =>
        let z := (f3 b hb).1
        ⟨z.2.2.2.1, z.2.1, z.2.2.2.2.1, z.2.2.2.2.2⟩
      have I7 : Inv X pins σ (thw X.env.cells H5) s6 := I3.call' (ch := fp) J6.os (un_thw (P := X.prog) (w := X.w) nf u6 J6.hok) (hok_thw (frz_behind nf u6) J6.hok) J6.bare ch
      have nC : thw X.env.cells H5 ce.locals = none := (thw_f (notC _ (Nat.le_of_eq cL.symm))).trans J6.free
      obtain ⟨m, hn, _⟩ := J6.loc
      have fpo := I3.fpOk (b := ce.locals) (Nat.le_of_eq cL.symm) nC
      have pdh := pd H5 w5
      show wpAny _ _ (assign (.Name y py) X.env (.ref D)) _ _ _
      refine wpAny_assign_Name (store_ok2 (v := V.ref D) I7 hN hy (.inl hyl) rfl (fun s9 I9 ⟨a9, sb, ha⟩ => ?_) (.inr hyl))
      have haC : ce.locals ≠ a9 := by
        rcases ha with z | z
        · rw [z]; exact fpo.2.1
        · exact fun e => fpo.2.2.2.2.1 y a9 z e.symm
      refine ⟨m, hn.sameBut sb haC, fun h9 sb9 => ?_⟩
      exact ⟨_, _, I9.turned (t' := s9.toks) (fun b o hb e => (sb9.2 b hb).trans e) fpo.1 fpo.2.1 fpo.2.2.2.1 fpo.2.2.2.2.1 fpo.2.2.2.2.2, pdh⟩
  exact codeAny_compStart_list loop (T.self X.A 0 _ _ _ st4 loop)
end
end Oil
set_option Elab.async false
set_option linter.all false
set_option maxRecDepth 100000
set_option maxHeartbeats 2000000
/-! [one() for one in work]: the results of a list of lambdas. -/
namespace Oil
open PySem PySem.Spec PyProof.Rows L2 LamX
/-- a result: None, a number, a list or a tuple of numbers -/
inductive Rd where
  | non
  | int (i : Int)
  | lst (ns : List Int)
  | tup (ns : List Int)
def Rd.is (H : Hp) (v : V) : Rd → Prop
  | .non => v = .non
  | .int i => v = .int i
  | .lst ns => ∃ l, v = .ref l ∧ H l = some (.lst (ns.map V.int))
  | .tup ns => ∃ l, v = .ref l ∧ H l = some (.tup (ns.map V.int))
/-- the same, and it does not lie at D -/
def Rd.at (D : Addr) (H : Hp) (v : V) : Rd → Prop
  | .non => v = .non
  | .int i => v = .int i
  | .lst ns => ∃ l, v = .ref l ∧ l ≠ D ∧ H l = some (.lst (ns.map V.int))
  | .tup ns => ∃ l, v = .ref l ∧ l ≠ D ∧ H l = some (.tup (ns.map V.int))
theorem Rd.at.up {D : Addr} {H H' : Hp} {v : V} {r : Rd} (h : Rd.at D H v r) (k : ∀ b o, b ≠ D → H b = some o → H' b = some o) : Rd.at D H' v r := by
  cases r with
  | non => exact h
  | int i => exact h
  | lst ns => obtain ⟨l, e, n, q⟩ := h; exact ⟨l, e, n, k _ _ n q⟩
  | tup ns => obtain ⟨l, e, n, q⟩ := h; exact ⟨l, e, n, k _ _ n q⟩
theorem Rd.at.is {D : Addr} {H : Hp} {v : V} {r : Rd} (h : Rd.at D H v r) : Rd.is H v r := by
  cases r with
  | non => exact h
  | int i => exact h
  | lst ns => obtain ⟨l, e, n, q⟩ := h; exact ⟨l, e, q⟩
  | tup ns => obtain ⟨l, e, n, q⟩ := h; exact ⟨l, e, q⟩
theorem paired_imp {α β : Type} {F G : α → β → Prop} (h : ∀ a b, F a b → G a b) : ∀ {a : List α} {b : List β}, Paired F a b → Paired G a b
  | _, _, .nil => .nil
  | _, _, .cons r t => .cons (h _ _ r) (paired_imp h t)
theorem paired_snoc {α β : Type} {F : α → β → Prop} : ∀ {a : List α} {c : List β} {x : α} {y : β}, Paired F a c → F x y → Paired F (a ++ [x]) (c ++ [y])
  | _, _, _, _, .nil, h => .cons h .nil
  | _, _, _, _, .cons r t, h => .cons r (paired_snoc t h)
section
variable {X : Cx} {σ : L2.St} {H H' H1 H2 : Hp} {Q : VK} {k kk : Nat} {E : XK} {p pos : Pos} {e : Expr} {scope : Scope}
/-- behind an expression the cells are no tracked things -/
theorem ev_nc (q : EV X e σ H fun v H' => (∀ b, isC X.env.cells b = true → H' b = none) → Q v H') : EV X e σ H Q := fun pins s I => by
  refine wpAny_mono (q pins s I) (fun u s1 ⟨v, H1, I1, r1, q1⟩ => ⟨v, H1, I1, r1, q1 fun b c => ?_⟩) fun _ _ x => x
  obtain ⟨x, hx⟩ := of_isC c
  exact I1.freeC x b hx
theorem frz_kp2 {K : PySem.W.Frag} (F : Frz X σ H1 H2) (k : Kp K H2 H') : Frz X σ (thw X.env.cells H') H' where
  off := fun b c => (thw_f c).symm
  out := fun b c => thw_t c
  cel := fun b c => by
    obtain ⟨o, v, e, d⟩ := F.cel b c
    exact ⟨o, v, k b _ trivial e, d⟩
  loc := fun i x v c e1 e2 e3 e4 => by
    obtain ⟨o, u, q1, q2, q3⟩ := F.loc i x v c e1 e2 e3 e4
    exact ⟨o, u, k c _ trivial q1, q2, q3⟩
  has := F.has
  inj := F.inj
  len := F.len
/-- the lambda at f, the j-th of the list, gives r, at a heap to which H1 has grown -/
def Ry (X : Cx) (σ : L2.St) (kk : Nat) (H1 : Hp) (j : Nat) (f : Addr) (r : Rd) : Prop := ∃ ps body scope, IsLamAt X ps body scope f H1 ∧ LamS2 X.N X.env.scope scope ps ∧
  ∀ Hm A outer s0 H0 E1 f c', Kp X.K H1 Hm → Cal (lamCx X A outer s0 H0 E1 scope f c') kk E1 → EV (lamCx X A outer s0 H0 E1 scope f c') body σ Hm (fun v Hm' => Same Hm Hm' ∧ Rd.is Hm' v r ∧ (j = 0 → ∀ ns, r = Rd.lst ns → ∀ l, v = .ref l → Hm l = none))
/-- the results so far, at D -/
def OwnL (H : Hp) (D : Addr) (xs : List Rd) : Prop := ∃ vs, H D = some (.lst vs) ∧ Paired (Rd.at D H) vs xs
theorem own_core {tg elt : Expr} {cs : Scope} {R : Addr → Hp → Prop} {l : Addr} {fs : List Addr} {xs : List Rd} (m : Nat) (own : List (Str × Nat))
    (hl : H1 l = some (.lst (fs.map V.ref))) (pl : fs.length = xs.length) (hz : ∀ j f r, fs[j]? = some f → xs[j]? = some r → Ry X σ kk H1 j f r) (hlen : xs.length ≤ 100) (hkind : (∀ x ∈ xs, ∀ ns, x ≠ Rd.lst ns) ∨ ∃ n0 ys, xs = Rd.lst n0 :: ys) (qq : ∀ H' D, Same H1 H' → H1 D = none → OwnL H' D xs → R D H')
    (hg : ∀ Y, IsBlk X cs Y → ∀ (v : V) (σ : L2.St) (H : Hp) (R : L2.St → Hp → Prop), R (σ.set m (some v)) H → GV Y tg v σ H R)
    (he : ∀ Y, IsBlk X cs Y → ∀ (f : Addr) (H : Hp) (RR : VK → XK → Prop) (R : VK), Cb X.prog X.w X.K X.mg X.base (kk + 1) f H RR → IsFn f H → RR R (fun _ _ _ => False) → EV Y elt ((wipe σ (own.map (·.2))).set m (some (.ref f))) H R)
    (hw : ∀ v : V, wipe ((wipe σ (own.map (·.2))).set m (some v)) (own.map (·.2)) = wipe σ (own.map (·.2))) : ∀ D, H1 D = none → ∀ H2, Frz X σ (upd H1 D (.lst [])) H2 → ∃ Pv : Nat → Hp → Prop, Pv 0 H2 ∧ (∀ i H', i ≤ (fs.map V.ref).length → Pv i H' → SqL X.K H' l (fs.map V.ref)) ∧
      (∀ i x H', (fs.map V.ref)[i]? = some x → Pv i H' → LcT X cs own tg elt σ D x H' (Pv (i + 1))) ∧ ∀ H', Pv (fs.map V.ref).length H' → R D (thw X.env.cells H') := by
  intro D zD H2 F
  have lD : l ≠ D := ne_of_none hl zD
  have hup : ∀ b o, b ≠ D → H1 b = some o → H2 b = some o := fun b o n e => F.same b o (by rw [upd_ne n]; exact e)
  have nD : ∀ b o, H1 b = some o → b ≠ D := fun b o e => ne_of_none e zD
  refine ⟨fun i H' => (∀ b o, b ≠ D → H2 b = some o → H' b = some o) ∧ ∃ vs, H' D = some (.lst vs) ∧ Paired (Rd.at D H') vs (xs.take i), ⟨fun b o _ e => e, [], F.same _ _ upd_same, .nil⟩, fun i H' _ hp => SqL.of (hp.1 _ _ lD (hup _ _ lD hl)), fun i v H' hv hp => ?_, fun H' hp => ?_⟩
  · obtain ⟨B, vs, hD, hvs⟩ := hp
    have hi : i < fs.length := by have := (List.getElem?_eq_some_iff.mp hv).1; rw [List.length_map] at this; exact this
    rw [List.getElem?_map, List.getElem?_eq_getElem hi] at hv
    cases hv
    have hxi : xs[i]? = some (xs[i]'(by omega)) := List.getElem?_eq_getElem _
    obtain ⟨ps, body, scope, hla, L, run⟩ := hz i fs[i] (xs[i]'(by omega)) (List.getElem?_eq_getElem hi) hxi
    have hvl := Paired.length hvs
    rw [List.length_take, Nat.min_eq_left (by omega)] at hvl
    have kp : Kp X.K H2 H' := fun b o im e => by
      by_cases hb : b = D
      · rw [hb, F.same _ _ upd_same] at e
        cases e
        exact im.elim
      · exact B b o hb e
    intro Y hY
    refine hg Y hY _ _ _ _ ⟨hw _, fun Y2 hY2 => ?_⟩
    have F' := frz_kp2 F kp
    have k1 : Kp X.K H1 H' := fun b o im e => B b o (nD b o e) (hup b o (nD b o e) e)
    have hl' := hla.up k1
    refine he Y2 hY2 _ _ _ _ (cb_of F' L hl') hl'.isFn ?_
    intro Y3 hY3
    obtain ⟨A, outer, s0, H0, f1, c1, hr, rfl⟩ := hY3
    have notl : ∀ b o, H1 b = some o → isC (clo X scope) b = false := fun b o e => by
      cases cc : isC (clo X scope) b with
      | false => rfl
      | true =>
        have z := clo_isC F' L cc
        have z2 := F.out b z
        rw [upd_ne (nD b o e), e] at z2
        cases z2
    have km : Kp X.K H1 (thw (clo X scope) H') := fun b o im e => (thw_f (notl b o e)).trans (k1 b o im e)
    have cD : isC (clo X scope) D = false := by
      cases cc : isC (clo X scope) D with
      | false => rfl
      | true =>
        have z := F.out D (clo_isC F' L cc)
        rw [upd_same] at z
        cases z
    refine ev_nc (EV.mono (run (thw (clo X scope) H') A outer s0 H0 _ f1 c1 km (Cal.lam hr)) fun v Hm' ⟨S, hv, hnew⟩ nc => ?_)
    have step : ∀ b o, H' b = some o → fil (clo X scope) H' Hm' b = some o := fun b o e => by
      cases cc : isC (clo X scope) b with
      | true => exact (fil_t cc).trans e
      | false => exact (fil_f cc).trans (S b o ((thw_f cc).trans e))
    have inn : ∀ b o, Hm' b = some o → fil (clo X scope) H' Hm' b = some o := fun b o e => by
      cases cc : isC (clo X scope) b with
      | true => rw [nc b cc] at e; cases e
      | false => exact (fil_f cc).trans e
    have hDm : Hm' D = some (.lst vs) := S D _ ((thw_f cD).trans hD)
    -- it does not lie at D
    have hat : Rd.at D (fil (clo X scope) H' Hm') v (xs[i]'(by omega)) := by
      generalize hr : (xs[i]'(by omega)) = r at hv hxi hnew
      cases r with
      | non => exact hv
      | int i => exact hv
      | tup ns =>
        obtain ⟨a, e, ha⟩ := hv
        exact ⟨a, e, (fun z => by rw [z, hDm] at ha; cases ha), inn _ _ ha⟩
      | lst ns =>
        obtain ⟨a, e, ha⟩ := hv
        refine ⟨a, e, fun z => ?_, inn _ _ ha⟩
        by_cases h0 : i = 0
        · have z1 := hnew h0 _ rfl a e
          rw [z, thw_f cD, hD] at z1
          cases z1
        · rcases hkind with hk | ⟨n0, ys, hk⟩
          · exact hk _ (List.mem_of_getElem? hxi) ns rfl
          · rw [z, hDm] at ha
            injection ha with ha
            injection ha with ha
            obtain ⟨i', rfl⟩ : ∃ i', i = i' + 1 := ⟨i - 1, by omega⟩
            rw [hk, List.take_succ_cons] at hvs
            cases hvs with
            | cons r t =>
              obtain ⟨b, e2, _⟩ := r
              rw [e2] at ha
              cases ns with
              | nil => cases ha
              | cons n ns => cases ha
    have hD3 := step D _ hD
    refine ⟨vs, hD3, by rw [sizeLine_eq]; omega, fun b o n e => ?_, vs ++ [v], upd_same, ?_⟩
    · rw [upd_ne n]
      exact step b o (B b o n e)
    · rw [List.take_succ, hxi]
      exact paired_snoc (paired_imp (fun v r h => Rd.at.up h fun b o n e => by rw [upd_ne n]; exact step b o e) hvs) (Rd.at.up hat fun b o n e => by rw [upd_ne n]; exact e)
  · obtain ⟨B, vs, hD, hvs⟩ := hp
    rw [List.length_map, pl, List.take_length] at hvs
    have kp : Kp X.K H2 H' := fun b o im e => by
      by_cases hb : b = D
      · rw [hb, F.same _ _ upd_same] at e
        cases e
        exact im.elim
      · exact B b o hb e
    have F' := frz_kp2 F kp
    have notc : ∀ b o, H1 b = some o → isC X.env.cells b = false := fun b o e => by
      cases cc : isC X.env.cells b with
      | false => rfl
      | true =>
        have z := F.out b cc
        rw [upd_ne (nD b o e), e] at z
        cases z
    have fr : ∀ b, isC X.env.cells b = true → ∃ o, H' b = some (Fz o) := fun b cc => by
      obtain ⟨o, v, e, _⟩ := F'.cel b cc
      exact ⟨o, e⟩
    refine qq _ D (fun b o e => (thw_f (notc b o e)).trans (B b o (nD b o e) (hup b o (nD b o e) e))) zD ⟨vs, thw_at fr hD fun z => by simp, ?_⟩
    refine paired_imp (fun v r h => ?_) hvs
    cases r with
    | non => exact h
    | int i => exact h
    | lst ns => obtain ⟨l, e, n, q⟩ := h; exact ⟨l, e, n, thw_at fr q fun z => by simp⟩
    | tup ns => obtain ⟨l, e, n, q⟩ := h; exact ⟨l, e, n, thw_at fr q fun z => by simp⟩
theorem ev_ownAll {tg iter elt : Expr} {cs : Scope} {cpos : Pos} (m : Nat) (own : List (Str × Nat)) (C : Cal X k E) (hfn : ∀ x, X.fn x = true) (hN : X.N.Nodup) (hno : ∀ y ∈ cs.names, y.2 ≠ .free ∧ y.2 ≠ .cell)
    (q : EV X iter σ H fun v H1 => ∃ (l : Addr) (fs : List Addr) (xs : List Rd), v = .ref l ∧ H1 l = some (.lst (fs.map V.ref)) ∧ fs.length = xs.length ∧ (∀ j f r, fs[j]? = some f → xs[j]? = some r → Ry X σ kk H1 j f r) ∧ xs.length ≤ 100 ∧ ((∀ x ∈ xs, ∀ ns, x ≠ Rd.lst ns) ∨ ∃ n0 ys, xs = Rd.lst n0 :: ys) ∧ ∀ H' D, Same H1 H' → H1 D = none → OwnL H' D xs → Q (.ref D) H')
    (hg : ∀ Y, IsBlk X cs Y → ∀ (v : V) (σ : L2.St) (H : Hp) (R : L2.St → Hp → Prop), R (σ.set m (some v)) H → GV Y tg v σ H R)
    (he : ∀ Y, IsBlk X cs Y → ∀ (f : Addr) (H : Hp) (RR : VK → XK → Prop) (R : VK), Cb X.prog X.w X.K X.mg X.base (kk + 1) f H RR → IsFn f H → RR R (fun _ _ _ => False) → EV Y elt ((wipe σ (own.map (·.2))).set m (some (.ref f))) H R)
    (hw : ∀ v : V, wipe ((wipe σ (own.map (·.2))).set m (some v)) (own.map (·.2)) = wipe σ (own.map (·.2)) := by intro _; rfl)
    (ok : BlkOk X.N X.env.scope cs own := by exact blkOk_by (by kernel_rfl)) (hs : ∀ x, foldedSetIterable iter X.env x = pure x := by intro _; rfl) : EV X (.ListComp elt [⟨tg, iter, [], 0⟩] cs cpos) σ H Q :=
  ev_lcF own hfn C.calm hN hno (EV.mono q fun v H1 ⟨l, fs, xs, ev, hl, pl, hz, hlen, hkind, qq⟩ => ⟨l, fs.map V.ref, ev, SqL.of hl, own_core m own hl pl hz hlen hkind qq hg he hw⟩) ok hs
/-- y = [..], y a local -/
theorem sv_ownAll {tg iter elt : Expr} {cs : Scope} {y : Str} {py cpos spos : Pos} {D0 : Ends} (i0 m : Nat) (own : List (Str × Nat)) (C : Cal X k E) (hfn : ∀ x, X.fn x = true) (hN : X.N.Nodup) (hno : ∀ y ∈ cs.names, y.2 ≠ .free ∧ y.2 ≠ .cell)
    (q : EV X iter σ H fun v H1 => ∃ (l : Addr) (fs : List Addr) (xs : List Rd), v = .ref l ∧ H1 l = some (.lst (fs.map V.ref)) ∧ fs.length = xs.length ∧ (∀ j f r, fs[j]? = some f → xs[j]? = some r → Ry X σ kk H1 j f r) ∧ xs.length ≤ 100 ∧ ((∀ x ∈ xs, ∀ ns, x ≠ Rd.lst ns) ∨ ∃ n0 ys, xs = Rd.lst n0 :: ys) ∧ ∀ H' D, Same H1 H' → H1 D = none → OwnL H' D xs → D0.nx (σ.set i0 (some (.ref D))) H')
    (hg : ∀ Y, IsBlk X cs Y → ∀ (v : V) (σ : L2.St) (H : Hp) (R : L2.St → Hp → Prop), R (σ.set m (some v)) H → GV Y tg v σ H R)
    (he : ∀ Y, IsBlk X cs Y → ∀ (f : Addr) (H : Hp) (RR : VK → XK → Prop) (R : VK), Cb X.prog X.w X.K X.mg X.base (kk + 1) f H RR → IsFn f H → RR R (fun _ _ _ => False) → EV Y elt ((wipe σ (own.map (·.2))).set m (some (.ref f))) H R)
    (hy : X.N[i0]? = some y := by rfl) (hyl : X.env.scope.names.lookup y = some .local := by rfl) (hsw : swapsWith (.ListComp elt [⟨tg, iter, [], 0⟩] cs cpos) (some (.Name y py)) spos.line X.env = pure true := by exact sw_true rfl rfl (by decide +kernel) (by decide +kernel))
    (hw : ∀ v : V, wipe ((wipe σ (own.map (·.2))).set m (some v)) (own.map (·.2)) = wipe σ (own.map (·.2)) := by intro _; rfl)
    (ok : BlkOk X.N X.env.scope cs own := by exact blkOk_by (by kernel_rfl)) (hs : ∀ x, foldedSetIterable iter X.env x = pure x := by intro _; rfl) : SV X (.Assign [.Name y py] (.ListComp elt [⟨tg, iter, [], 0⟩] cs cpos) spos) σ H D0 :=
  sv_lcF i0 own hfn C.calm hN hno (EV.mono q fun v H1 ⟨l, fs, xs, ev, hl, pl, hz, hlen, hkind, qq⟩ => ⟨l, fs.map V.ref, ev, SqL.of hl, own_core (R := fun D H' => D0.nx (σ.set i0 (some (.ref D))) H') m own hl pl hz hlen hkind qq hg he hw⟩) hy hyl hsw ok hs
end
end Oil
set_option Elab.async false
set_option linter.all false
set_option maxRecDepth 100000
set_option maxHeartbeats 2000000
/-! Own exceptions with fields: made by an own __init__, raised, asked for their class, read; f-strings at a point. -/
namespace Oil
open PySem PySem.Spec PyProof.Rows L2 LamX
/-! ### facts of their classes -/
def oexB (K : PySem.W.Frag) (C : Addr) : Bool := match K.lookup C with
  | some ⟨.type "type", _, .cls cd, sl⟩ => (match cd.mro, sl.toList with
    | .ref C' :: bm, [_, _, _, _, some (.builtin n), _] => C' == C && n == "ValueError.__new__" && !cd.hasDel && cd.hasDict && PySem.HandSPX.refsVE bm
    | _, _ => false)
  | _ => false
theorem oexB_ok {K : PySem.W.Frag} {C : Addr} (h : oexB K C = true) : ∃ nm q N bs bm sn sub ab col dd k0 k1 k2 k3 k5, K.lookup C = some (excClassObj nm q C N bs bm true sn sub ab col dd k0 k1 k2 k3 k5 "ValueError.__new__") ∧ PySem.HandSPX.refsVE bm = true := by
  unfold oexB at h
  split at h
  · rename_i dd cd sl ho
    split at h
    · rename_i C' bm k0 k1 k2 k3 n k5 hm hs
      simp only [Bool.and_eq_true, beq_iff_eq, Bool.not_eq_true'] at h
      obtain ⟨⟨⟨⟨e1, e2⟩, hdel⟩, hd⟩, hr⟩ := h
      subst e1 e2
      obtain ⟨nm, bs, mro, ns, qn, hdct, sn, sub, ab, col, del⟩ := cd
      dsimp only at hm hdel hd
      subst hm hdel hd
      have hsl : sl = #[k0, k1, k2, k3, some (.builtin "ValueError.__new__"), k5] := by
        obtain ⟨l⟩ := sl
        simp only at hs
        rw [hs]
      subst hsl
      exact ⟨nm, qn, ns, bs, bm, sn, sub, ab, col, dd, k0, k1, k2, k3, k5, ho, hr⟩
    · cases h
  · cases h
/-- an own exception class with an own __init__ -/
structure ExcO (K : PySem.W.Frag) (mg : Str → Option Value) (x : Str) : Prop where
  g : mg x = some (.ref (He.ga K x))
  o : OexC K (He.ga K x)
  i : PySem.W.findIn K (.ref (He.ga K x)) "__init__" = some (some (.ref (He.ma K (He.ga K x) "__init__")))
  t : PySem.W.typeIn K (.ref (He.ma K (He.ga K x) "__init__")) = some (.type "function")
def excOF (x : Str) : Fact := fun K => (He.Fa.glo x).ok K && (oexB K (He.ga K x) && (He.eqO (PySem.W.findIn K (.ref (He.ga K x)) "__setattr__") (some (some (.builtin "object.__setattr__"))) && (decide (PySem.W.subIn K (.ref (He.ga K x)) (.type "BaseException") = some true) && (decide (PySem.W.typeIn K (.ref (He.ga K x)) = some (.type "type")) &&
  (PySem.W.keepIn K (.ref (He.ga K x)) && (He.eqO (PySem.W.findIn K (.ref (He.ga K x)) "__init__") (some (some (.ref (He.ma K (He.ga K x) "__init__")))) && decide (PySem.W.typeIn K (.ref (He.ma K (He.ga K x) "__init__")) = some (.type "function"))))))))
theorem excO_ok {K : PySem.W.Frag} {h : Heap} {mg : Str → Option Value} (X : K.In h) (G : h.Ns mainGlobals mg) {x : Str} (c : excOF x K = true) : ExcO K mg x := by
  obtain ⟨c1, c⟩ := He.ba c
  obtain ⟨c2, c⟩ := He.ba c
  obtain ⟨c3, c⟩ := He.ba c
  obtain ⟨c4, c⟩ := He.ba c
  obtain ⟨c5, c⟩ := He.ba c
  obtain ⟨c6, c⟩ := He.ba c
  obtain ⟨c7, c8⟩ := He.ba c
  exact ⟨He.glo_ok X G c1, ⟨oexB_ok c2, He.eqO_ok c3, of_decide_eq_true c4, of_decide_eq_true c5, c6⟩, He.eqO_ok c7, of_decide_eq_true c8⟩
/-- no attribute of the class has the field's name -/
def nofF (x f : Str) : Fact := fun K => He.eqO (PySem.W.findIn K (.ref (He.ga K x)) f) (some none)
/-- C.__init__ is ValueError's, C the class x -/
structure WeI (K : PySem.W.Frag) (x : Str) : Prop where
  r : ClX.CRead K (He.ga K x) (.type "type")
  v : PySem.W.findCls K (.ref (He.ga K x)) (.type "type") "__init__" = some (.val (.builtin "ValueError.__init__"))
def weiB (o : Option PySem.W.CFound) : Bool := match o with
  | some (.val (.builtin n)) => n == "ValueError.__init__"
  | _ => false
theorem weiB_ok {o : Option PySem.W.CFound} (h : weiB o = true) : o = some (.val (.builtin "ValueError.__init__")) := by
  unfold weiB at h
  split at h
  · rw [beq_iff_eq.mp h]
  · cases h
def weiF (x : Str) : Fact := fun K => PySem.W.readsIn K (He.ga K x) (.type "type") && weiB (PySem.W.findCls K (.ref (He.ga K x)) (.type "type") "__init__")
theorem wei_ok {K : PySem.W.Frag} {x : Str} (c : weiF x K = true) : WeI K x := by
  obtain ⟨h3, c2⟩ := He.ba c
  refine ⟨⟨h3, ?_⟩, weiB_ok c2⟩
  unfold PySem.W.readsIn at h3
  obtain ⟨h, _⟩ := He.ba h3
  obtain ⟨h, _⟩ := He.ba h
  obtain ⟨h, h3⟩ := He.ba h
  obtain ⟨_, h2⟩ := He.ba h
  unfold PySem.W.specialIn
  rw [beq_iff_eq.mp h2, Option.bind_some]
  exact beq_iff_eq.mp h3
/-! ### rules -/
section
variable {X : Cx} {e : Expr} {es : List Expr} {σ : L2.St} {H : Hp} {Q : VK} {D : Ends} {k j : Nat} {E : XK} {x : Str} {p p1 p2 pos pos2 : Pos} {f : Str}
/-- W.__init__(self, ..), W an own class over ValueError without an own __init__: nothing of it is told -/
theorem ev_weinit {pl : Sem Bool} (W : WeI X.K x) (hm : X.mg x = some (.ref (He.ga X.K x))) (q : AV X (e :: es) σ H fun vs H1 => ∃ (a C : Addr) (ws : List V), vs = .ref a :: ws ∧ ws.length ≤ 1000 ∧ OexC X.K C ∧ H1 a = some (exo a C none) ∧ Q .non H1)
    (hg : Gl X x := by rfl) (hd : (x == ("__debug__" : Str)) = false := by decide)
    (hc : eval (.Call (.Attribute (.Name x p1) "__init__" p2) (e :: es) [] pos) X.env = (do
      let ov ← eval (.Name x p1) X.env
      standAt p2.atName
      let (f, first) ← holding [ov] (getMethod ov "__init__" pl)
      callWith pos f first (backTo pos (starEach (e :: es) X.env)) (backToKw pos (keywordEach [] X.env))) := by rfl)
    (he : starEach (e :: es) X.env = (false, eval e X.env) :: starEach es X.env := by rfl) (hpl : (backTo pos (starEach es X.env)).any (·.1) = false := by rfl) : EV X (.Call (.Attribute (.Name x p1) "__init__" p2) (e :: es) [] pos) σ H Q := by
  intro pins s I
  refine PySem.W.methodCall_KW (ld_glob I hg hm ?_ hd) hc
  refine PySem.W.method_cls I.kIn W.r.ga (PySem.W.cls_value I.kIn W.r.rd W.v (by decide +kernel) ?_)
  show wpAny _ _ (callWith pos (Value.builtin "ValueError.__init__") [] (backTo pos (starEach (e :: es) X.env)) []) _ _ _
  refine PyProof.Rows.callWith_method1 (thn (q pos pins _ (I.tok _)) fun us s1 ⟨vs, H1, I1, r1, a, C, ws, ev, hl, T, ea, q⟩ => ?_) he hpl
  subst ev
  cases r1 with
  | @cons _ u0 _ ur ra rw' =>
    obtain rfl : u0 = Value.ref a := ra
    have hlen : ur.length ≤ sizeLine := by
      rw [← Paired.length rw', sizeLine_eq]
      omega
    exact oinit_ok T I1 ea hlen fun s' J => ⟨.non, H1, J, rfl, q⟩
/-- self.f = e, self an exception that is being made -/
theorem sv_ost {o : Expr} {p' : Pos} (q : EV X e σ H fun y H1 => EV X o σ H1 fun x H2 => ∃ a C : Addr, x = .ref a ∧ OexC X.K C ∧ PySem.W.findIn X.K (.ref C) f = some none ∧
    ((H2 a = some (exo a C none) ∧ ∀ dx, H2 dx = none → dx ≠ a → D.nx σ (upd (upd H2 dx (exd dx [(f, y)])) a (exo a C (some dx)))) ∨
      ∃ (dx : Addr) (fs : List (Str × V)), H2 a = some (exo a C (some dx)) ∧ H2 dx = some (exd dx fs) ∧ fs.length ≤ 900 ∧ D.nx σ (upd H2 dx (exd dx ((f, y) :: fs)))))
    (hs : swapsWith e (some (.Attribute o f p')) pos.line X.env = pure false := by rfl) : SV X (.Assign [.Attribute o f p'] e pos) σ H D := SV.of (ps_ost pe_ev pe_ev hs) q
/-- what an own __init__ of an exception promises: the fields that it makes of its arguments -/
def spExcI (C : Addr) (R : List V → Hp → List (Str × V) → Prop) : Sp := fun vs H Q _ => ∃ a ws fs, vs = .ref a :: ws ∧ H a = some (exo a C none) ∧ R ws H fs ∧
  ∀ H' dx, (∀ b o, b ≠ a → H b = some o → H' b = some o) → H' a = some (exo a C (some dx)) → H' dx = some (exd dx fs) → H dx = none → Q .non H'
/-- raise x(e, ..), x such a class -/
theorem sv_raiseX {fd : FuncData} {ps : List Str} {R : List V → Hp → List (Str × V) → Prop} (C : Cal X k E) (O : ExcO X.K X.mg x)
    (F : FnOk X.prog X.w X.K X.mg X.base (L2.CX X.prog X.w) j (He.ma X.K (He.ga X.K x) "__init__") fd ps (spExcI (He.ga X.K x) R)) (hb : Binds X.K fd ps []) (hj : j + 1 ≤ k) (up : ∀ ws H H' fs, R ws H fs → Same H H' → R ws H' fs)
    (q : AV X (e :: es) σ H fun vs H1 => vs.length ≤ 1000 ∧ ∃ fs, R vs H1 fs ∧ ∀ d H3, Same H1 H3 → H1 d = none → H3 d = some (.xd fs) → E (.ref (He.ga X.K x)) (some d) H3)
    (hg : Gl X x := by rfl) (hdb : (x == ("__debug__" : Str)) = false := by decide) (he : starEach (e :: es) X.env = (false, eval e X.env) :: starEach es X.env := by rfl) (hpl : (backTo pos (starEach es X.env)).any (·.1) = false := by rfl) :
    SV X (.Raise (some (.Call (.Name x p) (e :: es) [] pos)) none pos2) σ H D := by
  refine SV.of (ps_raise C.calm C.tk (pmk_oex (CX := L2.CX X.prog X.w) O.o O.i O.t F (C.hr.mono hj) hb .nil (fun _ _ _ _ _ _ _ h => ?_) hg O.g pa_av hdb he hpl)) (AV.mono q fun vs H1 ⟨hl, fs, r, q⟩ => ⟨hl, fun a na => ?_⟩)
  · obtain ⟨_, _, _, _, _, _, _, _, _, _, _, _, hE⟩ := h
    exact hE.elim
  · have S1 : Same H1 (upd H1 a (exo a (He.ga X.K x) none)) := same_upd na
    refine ⟨a, vs ++ [], fs, rfl, upd_same, by rw [List.append_nil]; exact up _ _ _ _ r S1, fun H' dx B ea ed nd => ⟨rfl, dx, fs, ea, ed, non_of S1 nd, ?_⟩⟩
    have hda : dx ≠ a := fun z => by
      rw [z, upd_same] at nd
      cases nd
    refine q dx _ (fun b o hb => ?_) (non_of S1 nd) upd_same
    have nba : b ≠ a := ne_of_none hb na
    rw [upd_ne (ne_of_none hb (non_of S1 nd)), del_ne nba]
    exact B b o nba (S1 b o hb)
/-- the def of such an __init__, told by its body -/
theorem fno {P : Program} {w : World} {K : PySem.W.Frag} {mg : Str → Option Value} {base : Heap} {x qual : Str} {st : Stmt} {f : Addr} {N ps : List Str} {k : Nat} {sp : Sp}
    (F : ∃ fd, FunD K x qual (defArgs st) (defBody st) (defScope st) [] [] f fd) (S : FnScope N ps (defScope st))
    (hb : ∀ (kV doc pm : Value) (an : Option Addr) (cdv ct : Value) (us : List Value), us.length = ps.length → bindArgs (PySem.W.fnOf x qual (defArgs st) (defBody st) (defScope st) .none kV doc pm an cdv ct) ⟨us, []⟩ = pure (ps.zip us))
    (len : ∀ vs H Q E, sp vs H Q E → vs.length = ps.length)
    (hbody : ∀ (cdv : Value) (A : Around) (outer : List Env) (s : Shared) (H : Hp) (vs : List V) (Q : VK) (E : XK), Room k (A.deeper (envOfC qual (defScope st) s.heap.objs.size f cdv)) → sp vs H Q E →
      LV (cxOf (L2.CX P w) P w K mg base N qual (defScope st) f cdv A outer s H E) (defBody st) (start N vs) H { nx := fun _ H' => Q .non H', rt := Q }) :
    ∃ fd, FnOk P w K mg base (L2.CX P w) (k + 1) f fd ps sp ∧ Binds K fd ps [] := by
  obtain ⟨fd, FD⟩ := F
  have FF := He5.fun_of FD
  obtain ⟨oc, od, kV, doc, pm, an, cdv, ct, osl, e, lk, hcd⟩ := FF.ex
  subst e
  exact ⟨_, fn_of lk hcd S len fun A outer s H vs Q E hr hsp => ⟨_, pss_lv, hbody cdv A outer s H vs Q E hr hsp⟩, .all (hb kV doc pm an cdv ct)⟩
/-! ### f-strings -/
theorem ev_fmtI (q : EV X e σ H fun v H1 => ∃ i : Int, v = .int i ∧ i.natAbs.log2 < 1920 ∧ Q (.str (toString i)) H1) : EV X (.FormattedValue e (-1) none pos) σ H Q := EV.of (pe_fmt pe_ev) (EV.mono q fun v H1 h => .inr h)
theorem ev_fmtS (q : EV X e σ H fun v H1 => ∃ y : Str, v = .str y ∧ y.length ≤ sizeLine ∧ Q (.str y) H1) : EV X (.FormattedValue e (-1) none pos) σ H Q := EV.of (pe_fmt pe_ev) (EV.mono q fun v H1 h => .inl h)
/-- the parts, one behind the other -/
def JV (X : Cx) : List Expr → Str → L2.St → Hp → (Str → Hp → Prop) → Prop
  | [], acc, _, H, Q => Q acc H
  | e :: es, acc, σ, H, Q => EV X e σ H fun v H1 => ∃ y : Str, v = .str y ∧ (acc ++ y).length ≤ sizeLine ∧ JV X es (acc ++ y) σ H1 Q
theorem pj_all : ∀ es : List Expr, PJ X es (es.map fun e => EV X e)
  | [] => .nil
  | e :: es => .cons pe_ev (pj_all es)
theorem tjs_of : ∀ (es : List Expr) (acc : Str) (σ : L2.St) (H : Hp) (Q : Str → Hp → Prop), JV X es acc σ H Q → tJs (es.map fun e => EV X e) acc σ H Q
  | [], _, _, _, _, h => h
  | e :: es, acc, σ, H, Q, h => EV.mono h fun v H1 ⟨y, ev, hl, q⟩ => ⟨y, ev, hl, tjs_of es (acc ++ y) σ H1 Q q⟩
theorem ev_fstr {v1 v2 : Expr} {rest : List Expr} (q : JV X (v1 :: v2 :: rest) Str.empty σ H fun z H1 => Q (.str z) H1) : EV X (.JoinedStr (v1 :: v2 :: rest) pos) σ H Q := EV.of (pe_joined (pj_all _)) (tjs_of _ _ _ _ _ q)
theorem ev_fstr1 (q : EV X e σ H Q) : EV X (.JoinedStr [e] pos) σ H Q := EV.of (pe_joined1 pe_ev) q
theorem len_app (a b : Str) : (a ++ b).length = a.length + b.length := by
  first
    | exact Str.length_append a b
    | simp
/-- a message: what it says is of no account -/
def MV (X : Cx) : List Expr → Nat → L2.St → Hp → (Hp → Prop) → Prop
  | [], _, _, H, Q => Q H
  | e :: es, n, σ, H, Q => EV X e σ H fun v H1 => ∃ (y : Str) (m : Nat), v = .str y ∧ y.length ≤ m ∧ n + m ≤ 1000000 ∧ MV X es (n + m) σ H1 Q
theorem jv_of : ∀ (es : List Expr) (acc : Str) (n : Nat) (σ : L2.St) (H : Hp) (Q : Hp → Prop) (R : Str → Hp → Prop), acc.length ≤ n → MV X es n σ H Q → (∀ z H1, Q H1 → R z H1) → JV X es acc σ H R
  | [], _, _, _, _, _, _, _, h, k => k _ _ h
  | e :: es, acc, n, σ, H, Q, R, hn, h, k => EV.mono h fun v H1 ⟨y, m, ev, hl, hz, q⟩ => ⟨y, ev, by rw [len_app, sizeLine_eq]; omega, jv_of es (acc ++ y) (n + m) σ H1 Q R (by rw [len_app]; omega) q k⟩
theorem ev_msg {v1 v2 : Expr} {rest : List Expr} (q : MV X (v1 :: v2 :: rest) 0 σ H fun H1 => ∀ z, Q (.str z) H1) : EV X (.JoinedStr (v1 :: v2 :: rest) pos) σ H Q := ev_fstr (jv_of _ _ 0 _ _ _ _ (Nat.le_refl 0) q fun z H1 h => h z)
/-- the parts of a message: a text, a text in a name, a number -/
theorem mv_str {z : Str} {jj : Nat} {n m : Nat} {pp : Pos} {R : Hp → Prop} (hz : z.length ≤ m) (hn : n + m ≤ 1000000) (q : MV X es (n + m) σ H R) : MV X (.Constant (.str z) jj pp :: es) n σ H R := ev_str ⟨z, m, rfl, hz, hn, q⟩
theorem mv_txt {z : Str} {n m : Nat} {pp : Pos} {R : Hp → Prop} (h : EV X e σ H fun v H1 => v = .str z ∧ z.length ≤ m ∧ n + m ≤ 1000000 ∧ MV X es (n + m) σ H1 R) : MV X (.FormattedValue e (-1) none pp :: es) n σ H R :=
  ev_fmtS (EV.mono h fun v H1 ⟨ev, hz, hn, q⟩ => ⟨z, ev, by rw [sizeLine_eq]; omega, z, m, rfl, hz, hn, q⟩)
theorem mv_int {i : Int} {n : Nat} {pp : Pos} {R : Hp → Prop} (h : EV X e σ H fun v H1 => v = .int i ∧ i.natAbs.log2 < 1920 ∧ n + 1921 ≤ 1000000 ∧ MV X es (n + 1921) σ H1 R) : MV X (.FormattedValue e (-1) none pp :: es) n σ H R :=
  ev_fmtI (EV.mono h fun v H1 ⟨ev, hi, hn, q⟩ => ⟨i, ev, hi, _, 1921, rfl, PyProof.Rows.int_text_len_1921 hi, hn, q⟩)
theorem mv_nil {n : Nat} {R : Hp → Prop} (q : R H) : MV X [] n σ H R := q
theorem log_small {i : Int} (h1 : -1000000000000000000000 ≤ i) (h2 : i ≤ 1000000000000000000000) : i.natAbs.log2 < 1920 := by
  have h3 : i.natAbs < 2 ^ 1920 := by
    have h4 : i.natAbs ≤ 1000000000000000000000 := by omega
    exact Nat.lt_of_le_of_lt h4 (by decide +kernel)
  by_cases h0 : i.natAbs = 0
  · rw [h0]
    decide +kernel
  · exact (Nat.log2_lt h0).mpr h3
/-! ### what was caught, asked -/
/-- isinstance(e, c), e what was caught, an exception with fields or without -/
theorem ev_isX {a D' : Addr} {oe : Obj} {d : Option Addr} {pn : Pins} {e1 e2 : Expr} {p : Pos} (C : ExcC X.K D') (hz : Zc (.ref D') d oe) (hf : ∃ vs, oe.data = .fields vs) (hdx : ∀ dx, d = some dx → ∃ fs, H dx = some (.xd fs)) (hm : X.mg "isinstance" = none)
    (q : EV (X.suite a ((a, oe) :: pn)) e1 σ H fun x H1 => EV (X.suite a ((a, oe) :: pn)) e2 σ H1 fun c H2 => ∃ (cv : Value) (b : Bool), H2 = H ∧ x = .ref a ∧ (∀ u, RelV c u → u = cv) ∧ PySem.W.kitOne X.K (.ref D') cv = some b ∧ Q (.bl b) H) (hg : Gl X "isinstance" := by rfl)
    (he : starEach [e1, e2] X.env = (false, eval e1 X.env) :: starEach [e2] X.env := by rfl) (he2 : starEach [e2] X.env = (false, eval e2 X.env) :: starEach [] X.env := by rfl) (hpl : (backTo pos (starEach [e2] X.env)).any (·.1) = false := by rfl) :
    EV (X.suite a ((a, oe) :: pn)) (.Call (.Name "isinstance" p) [e1, e2] [] pos) σ H Q := by
  have cr : CallR (X.suite a ((a, oe) :: pn)) (.builtin "isinstance") (fun xs H2 Q => ∃ (c : V) (cv : Value) (b : Bool), H2 = H ∧ xs = [.ref a, c] ∧ (∀ u, RelV c u → u = cv) ∧ PySem.W.kitOne X.K (.ref D') cv = some b ∧ Q (.bl b) H) := by
    intro pins s σ H2 xs us Q I r h
    obtain ⟨c, cv, b, rfl, rfl, hcv, e, q⟩ := h
    cases r with
    | cons rx rr =>
      cases rr with
      | cons rt rr =>
        cases rr
        cases rx
        have ec := hcv _ rt
        subst ec
        obtain ⟨hget, _⟩ := I.pin (a, oe) (List.mem_append.mpr (.inl List.mem_cons_self))
        obtain ⟨vs, hv⟩ := hf
        have J : ∃ od, PySem.W.InstAt s.heap a oe D' od := by
          obtain ⟨oc, od, oda, osl⟩ := oe
          obtain ⟨h1, h2⟩ := hz
          dsimp only at h1 h2 hv
          subst h1 h2 hv
          cases od with
          | none => exact ⟨none, hget, rfl, rfl, trivial⟩
          | some dx =>
            obtain ⟨fs, hfs⟩ := hdx dx rfl
            obtain ⟨mA, ⟨o, es, ep, ho, _⟩, _⟩ : ObjOk X.prog X.w H2 s.heap dx (.xd fs) := I.hok dx _ hfs
            exact ⟨some o, hget, rfl, rfl, ho⟩
        obtain ⟨od, J⟩ := J
        have hcl : (PySem.W.clsIn X.K D').isSome = true := by
          obtain ⟨cd, hc, _⟩ := PySem.W.any_some C.hd
          rw [hc]
          rfl
        exact PySem.W.kia_one (PySem.W.kitx_exc (ox := oe) (od := od) hcl C.hg C.hk C.hs C.ha C.hn C.ht C.hm) I.kIn J e (fun z => nomatch z) fun tk => ⟨.bl b, H2, I.kept (t' := tk) fun _ _ z => z, rfl, q⟩
  refine EV.of (pe_callB (X := X.suite a ((a, oe) :: pn)) cr hg hm (by decide +kernel) (pa_cons pe_ev (pa_cons pe_ev pa_nil he2) he) (by decide) (by decide) he hpl) ?_
  refine EV.mono q fun x H1 q1 => EV.mono q1 fun c H2 ⟨cv, b, eH, ex, hc, hk, q⟩ => ⟨c, cv, b, eH, by rw [ex], hc, hk, q⟩
theorem xfC_of {K : PySem.W.Frag} {C : Addr} (h : ExcC K C) : XfC K C := ⟨h.hg, h.hk, h.hs, h.hd⟩
/-- e.f, e what was caught -/
theorem ev_xf {a C : Addr} {oe : Obj} {d : Addr} {pn : Pins} (T : ExcC X.K C) (hno : PySem.W.findIn X.K (.ref C) f = some none) (hz : Zc (.ref C) (some d) oe) (hf : ∃ vs, oe.data = .fields vs)
    (q : EV (X.suite a ((a, oe) :: pn)) e σ H fun x H1 => x = .ref a ∧ ∃ fs v, H1 d = some (.xd fs) ∧ fs.lookup f = some v ∧ Q v H1) (hb : attributeBase e f X.env (eval e X.env) = eval e X.env := by rfl) : EV (X.suite a ((a, oe) :: pn)) (.Attribute e f pos) σ H Q :=
  EV.of (pe_xf (xfC_of T) hno hz hf pe_ev hb) (EV.mono q fun x H1 ⟨ex, fs, v, hd, hl, q⟩ => ⟨ex, rfl, d, fs, v, rfl, hd, hl, q⟩)
end
end Oil
set_option Elab.async false
set_option linter.all false
set_option maxRecDepth 100000
set_option maxHeartbeats 2000000
/-! Plain laws: hidden oil at one post. -/
namespace Oil
open PySem PySem.Spec PyProof.Rows L2
/-- the way in which the post h has so much oil -/
def Wy.pst (w : Wy) (h : Nat) (x : Int) : Wy := ⟨w.cap, w.posts.set h (x, (w.at h).2)⟩
theorem pst_len (w : Wy) (h : Nat) (x : Int) : (w.pst h x).posts.length = w.posts.length := by simp [Wy.pst]
theorem pst_at (w : Wy) {h : Nat} (hh : h < w.posts.length) (x : Int) (j : Nat) : (w.pst h x).at j = if j % w.posts.length = h then (x, (w.at h).2) else w.at j := by
  have hn : 0 < w.posts.length := by omega
  have hj : j % w.posts.length < w.posts.length := Nat.mod_lt _ hn
  rw [← at_mod (w.pst h x) j, pst_len, ← at_mod w j]
  generalize j % w.posts.length = m at hj
  refine at_opt ?_
  show (w.posts.set h _)[m]? = _
  by_cases e : h = m
  · subst e
    rw [if_pos rfl, List.getElem?_set_self hh]
  · rw [if_neg (fun h => e h.symm), List.getElem?_set_ne e]
    exact opt_at hj
theorem pst_at2 (w : Wy) {h : Nat} (hh : h < w.posts.length) (x : Int) (j : Nat) : ((w.pst h x).at j).2 = (w.at j).2 := by
  rw [pst_at w hh]
  split
  · rename_i e
    rw [← at_mod w j, e]
  · rfl
theorem pst_ok {w : Wy} (ok : w.ok) {h : Nat} (hh : h < w.posts.length) {x : Int} (h0 : 0 ≤ x) (h1 : x ≤ 1000000000) : (w.pst h x).ok := by
  obtain ⟨a, b, c, d, e⟩ := ok
  refine ⟨a, b, by rw [pst_len]; exact c, by rw [pst_len]; exact d, fun p hp => ?_⟩
  have k := Wy.ok.at_ok ⟨a, b, c, d, e⟩ h
  rcases List.mem_or_eq_of_mem_set hp with hp | rfl
  · exact e p hp
  · exact ⟨h0, h1, k.2.2⟩
/-- more oil at the post: no less is left -/
theorem pst_mono (w : Wy) {h : Nat} (hh : h < w.posts.length) {x y : Int} (hxy : x ≤ y) (i : Nat) {o p : Int} (hop : o ≤ p) : ∀ {n : Nat} {u : Int}, (w.pst h x).walk i o n = some u → ∃ v, (w.pst h y).walk i p n = some v ∧ u ≤ v
  | 0, u, e => by
    injection e with e
    exact ⟨p, rfl, by omega⟩
  | n + 1, u, e => by
    have e1 : (w.pst h x).walk i o (n + 1) = ((w.pst h x).walk i o n).bind ((w.pst h x).step (i + n)) := rfl
    rw [e1] at e
    cases h1 : (w.pst h x).walk i o n with
    | none =>
      rw [h1] at e
      cases e
    | some a =>
      rw [h1] at e
      have h2 : (w.pst h x).step (i + n) a = some u := e
      obtain ⟨b, hb, hab⟩ := pst_mono w hh hxy i hop h1
      have e2 : (w.pst h y).walk i p (n + 1) = (w.pst h y).step (i + n) b := by
        show ((w.pst h y).walk i p n).bind _ = _
        rw [hb]
        rfl
      rw [e2]
      have s1 := pst_at2 w hh x (i + n)
      have s2 := pst_at2 w hh y (i + n)
      have s3 : ((w.pst h x).at (i + n)).1 ≤ ((w.pst h y).at (i + n)).1 := by
        rw [pst_at w hh, pst_at w hh]
        split
        · exact hxy
        · omega
      have c1 : (w.pst h x).cap = w.cap := rfl
      have c2 : (w.pst h y).cap = w.cap := rfl
      unfold Wy.step at h2 ⊢
      split at h2
      · cases h2
      · injection h2 with h2
        rw [if_neg (by omega)]
        exact ⟨_, rfl, by omega⟩
/-- a number for what is left -/
def rk : Option Int → Int
  | none => -1
  | some r => r
def Wy.rkw (w : Wy) (h i : Nat) (o : Int) (n : Nat) (x : Int) : Int := rk ((w.pst h x).walk i o n)
theorem rkw_mono (w : Wy) {h : Nat} (hh : h < w.posts.length) (i : Nat) {o : Int} (ho : 0 ≤ o) (n : Nat) {x y : Int} (hxy : x ≤ y) : w.rkw h i o n x ≤ w.rkw h i o n y := by
  unfold Wy.rkw
  cases e : (w.pst h x).walk i o n with
  | none =>
    cases e2 : (w.pst h y).walk i o n with
    | none => exact Int.le_refl _
    | some v =>
      have := walk_nonneg ho e2
      show (-1 : Int) ≤ v
      omega
  | some u =>
    obtain ⟨v, hv, huv⟩ := pst_mono w hh hxy i (Int.le_refl o) e
    rw [hv]
    exact huv
theorem rk_inj {a b : Option Int} (ha : ∀ r, a = some r → 0 ≤ r) (hb : ∀ r, b = some r → 0 ≤ r) (h : rk a = rk b) : a = b := by
  cases a with
  | none =>
    cases b with
    | none => rfl
    | some r =>
      have := hb r rfl
      have h' : (-1 : Int) = r := h
      omega
  | some r =>
    cases b with
    | none =>
      have := ha r rfl
      have h' : r = (-1 : Int) := h
      omega
    | some s =>
      have h' : r = s := h
      rw [h']
/-- m is the first number from which on f is at least l -/
structure First (f : Int → Int) (l m : Int) : Prop where
  lo : 0 ≤ m
  hi : m ≤ 1000000001
  bf : ∀ x, 0 ≤ x → x < m → f x < l
  af : ∀ x, m ≤ x → x ≤ 1000000000 → l ≤ f x
theorem first_mid {f : Int → Int} {r a b x : Int} (ha : First f r a) (hb : First f (r + 1) b) (h0 : 0 ≤ x) (h1 : x ≤ 1000000000) : (a ≤ x ∧ x ≤ b - 1) ↔ f x = r := by
  constructor
  · intro ⟨h2, h3⟩
    have h4 := ha.af x h2 h1
    have h5 := hb.bf x h0 (by omega)
    omega
  · intro e
    constructor
    · refine Int.not_lt.mp fun h => ?_
      have := ha.bf x h0 h
      omega
    · refine Int.not_lt.mp fun h => ?_
      have := hb.af x (by omega) h1
      omega
/-- an observer: the way, the post, what is possible, what was seen -/
structure Ob where
  way : Wy
  hid : Nat
  low : Int
  high : Int
  seen : List (Int × Int × Int × Option Int)
structure Ob.ok (b : Ob) : Prop where
  w : b.way.ok
  h : b.hid < b.way.posts.length
  l0 : 0 ≤ b.low
  l1 : b.low ≤ b.high
  l2 : b.high ≤ 1000000000
  n : b.seen.length ≤ 1000
/-- what is possible behind an observation -/
def Ob.next (b : Ob) (i o n : Int) (left : Option Int) (lo hi : Int) : Ob := ⟨b.way, b.hid, lo, hi, b.seen ++ [(i, o, n, left)]⟩
def ob0 (w : Wy) (i : Nat) : Ob := ⟨w, i, 0, 1000000000, []⟩
theorem ob0_ok {w : Wy} (ok : w.ok) {i : Nat} (hi : i < w.posts.length) : (ob0 w i).ok := ⟨ok, hi, Int.le_refl 0, by show (0 : Int) ≤ 1000000000; decide, Int.le_refl _, Nat.zero_le _⟩
end Oil
set_option Elab.async false
set_option linter.all false
set_option maxRecDepth 100000
set_option maxHeartbeats 2000000
/-! Objects that change: fields as targets, in of an own class. -/
namespace Oil
open PySem PySem.Spec PyProof.Rows L2
theorem paired_app {α β : Type} {F : α → β → Prop} : ∀ {a c : List α} {b d : List β}, Paired F a b → Paired F c d → Paired F (a ++ c) (b ++ d)
  | _, _, _, _, .nil, h => h
  | _, _, _, _, .cons r t, h => .cons r (paired_app t h)
section
variable {X : Cx} {σ : L2.St} {H : Hp} {Q : VK} {k j : Nat} {E : XK} {CC f : Addr} {sp : Sp} {pos : Pos}
/-- o.f = v, the target -/
theorem gv_fld {o : Expr} {g : Str} {v : V} {R : L2.St → Hp → Prop} (q : EV X o σ H fun x H1 => ∃ a CC dx fs, x = .ref a ∧ H1 a = some (.ins CC dx fs) ∧ Cls X.K CC ∧ NoAttr X.K CC g ∧ fs.length < 1000 ∧ R σ (upd H1 a (.ins CC dx (putF g v fs))))
    (ha : ∀ v, assign (.Attribute o g pos) X.env v = (do
      let ov ← holding [v] (eval o X.env)
      standAt pos.atName
      holding [v, ov] (setAttr ov g v)
      release [v, ov] []) := by intro _; rfl) : GV X (.Attribute o g pos) v σ H R := by
  intro pins s u I r
  rw [ha]
  refine wpAny_bind (wpAny_holding (thn (q pins s I) fun ov s1 ⟨x, H1, I1, rx, a, CC, dx, fs, ex, ea, c, n, l, q1⟩ => ?_))
  subst ex
  obtain rfl : ov = Value.ref a := rx
  refine wpAny_bind (wpAny_standAt (wpAny_bind (wpAny_holding (setattr_ok (I1.tok _) ea c n l r fun s2 I2 => ?_))))
  exact wpAny_release ⟨σ, _, I2, q1⟩
/-- x in o, o of an own class -/
theorem op_inO (C : Cal X k E) (hm : Meth X.K CC "__contains__" f) (F : FnR X.prog X.w X.K X.mg X.base (L2.CX X.prog X.w) j f sp) (hj : j ≤ k) :
    OpR X (compareOp .In) (fun x y H Q => ∃ a dx fs, y = .ref a ∧ H a = some (.ins CC dx fs) ∧ sp [y, x] H (fun z H' => ∃ b, z = .bl b ∧ Q (.bl b) H') E) := by
  intro pins s σ H x y v u Q I rx ry h
  obtain ⟨a, dx, fs, rfl, ha, q⟩ := h
  cases (show u = Value.ref a from ry)
  obtain ⟨od, J⟩ := inst_of I ha
  obtain ⟨m, hF⟩ := I.fr
  refine PySem.W.in_K hF I.ok.mod.kin J hm.at_ hm.fn (thn (wpAny_call (run_fnR (vs := [.ref a, x]) (us := [.ref a, v]) F (C.hr.mono hj) C.hx I (.cons rfl (.cons rx .nil)) q)) fun w' s' ⟨z, H', I', rz, b, ez, qz⟩ => ?_)
  subst ez
  cases (show w' = Value.bool b from rz)
  exact PySem.wpAny_truthy_bool ⟨.bl b, H', I', rfl, qz⟩
theorem op_notInO (C : Cal X k E) (hm : Meth X.K CC "__contains__" f) (F : FnR X.prog X.w X.K X.mg X.base (L2.CX X.prog X.w) j f sp) (hj : j ≤ k) :
    OpR X (compareOp .NotIn) (fun x y H Q => ∃ a dx fs, y = .ref a ∧ H a = some (.ins CC dx fs) ∧ sp [y, x] H (fun z H' => ∃ b, z = .bl b ∧ Q (.bl (!b)) H') E) := by
  intro pins s σ H x y v u Q I rx ry h
  obtain ⟨a, dx, fs, rfl, ha, q⟩ := h
  cases (show u = Value.ref a from ry)
  obtain ⟨od, J⟩ := inst_of I ha
  obtain ⟨m, hF⟩ := I.fr
  refine PySem.W.notIn_K hF I.ok.mod.kin J hm.at_ hm.fn (thn (wpAny_call (run_fnR (vs := [.ref a, x]) (us := [.ref a, v]) F (C.hr.mono hj) C.hx I (.cons rfl (.cons rx .nil)) q)) fun w' s' ⟨z, H', I', rz, b, ez, qz⟩ => ?_)
  subst ez
  cases (show w' = Value.bool b from rz)
  exact PySem.wpAny_truthy_bool ⟨.bl (!b), H', I', rfl, qz⟩
end
end Oil
set_option Elab.async false
set_option linter.all false
set_option maxRecDepth 100000
set_option maxHeartbeats 2000000
/-! Live walks: scenes, operations, histories. -/
namespace Oil
open PySem PySem.Spec PyProof.Rows L2
section
variable {X : Cx} {σ : L2.St} {H : Hp} {Q : VK}
/-- t == () -/
theorem op_eqTE (hu : X.A.units < cLine) : OpR X (compareOp .Eq) (fun x y H Q => ∃ a b xs, x = .ref a ∧ y = .ref b ∧ SqT X.K H a xs ∧ SqT X.K H b [] ∧ Q (.bl (decide (xs = []))) H) := by
  intro pins s σ H x y v u Q I rx ry h
  obtain ⟨a, b, xs, rfl, rfl, ea, eb, q⟩ := h
  cases (show v = Value.ref a from rx)
  cases (show u = Value.ref b from ry)
  obtain ⟨ia, ra, ta, _⟩ := I.tuple ea
  obtain ⟨ib, rb, tb, _⟩ := I.tuple eb
  have lb : ib = [] := List.eq_nil_of_length_eq_zero (by rw [← Vals.length rb]; rfl)
  have la := Vals.length ra
  subst lb
  refine SeqAt.eq_tupleAt (e := fun _ => true) ta tb hu (fun j _ h2 => absurd h2 (by simp)) ⟨.bl _, H, I, ?_, q⟩
  have e : decide (xs = []) = ((List.range (min ia.toArray.size ([] : List Value).toArray.size)).all (fun _ => true) && ia.toArray.size == ([] : List Value).toArray.size) := by
    cases xs with
    | nil => cases ia with
      | nil => rfl
      | cons => simp at la
    | cons => cases ia with
      | nil => simp at la
      | cons => simp
  rw [e]
  rfl
end
/-- a scene: the way, the post, the oil, the legs walked -/
structure Sc where
  way : Wy
  post : Nat
  oil : Int
  legs : Nat
structure Sc.ok (s : Sc) : Prop where
  w : s.way.ok
  p : s.post < s.way.posts.length
  o0 : 0 ≤ s.oil
  o1 : s.oil ≤ s.way.cap
/-- operations -/
inductive Dd where
  | walk (n : Nat)
  | spill (o : Int)
  | refill (p : Nat) (o : Int)
  | trade (c : Int)
  deriving DecidableEq
def Dd.vs : Dd → List V
  | .walk n => [.str "walk", .int (n : Nat)]
  | .spill o => [.str "spill", .int o]
  | .refill p o => [.str "refill", .int (p : Nat), .int o]
  | .trade c => [.str "trade", .int c]
def IsDd (H : Hp) (v : V) (d : Dd) : Prop := ∃ p, v = .ref p ∧ H p = some (.tup d.vs)
def IsSc (K : PySem.W.Frag) (H : Hp) (v : V) (s : Sc) : Prop := ∃ p wv, v = .ref p ∧ H p = some (.tup [wv, .int (s.post : Nat), .int s.oil, .int (s.legs : Nat)]) ∧ IsWy K H wv s.way
abbrev En := Dd × Sc
def IsEn (K : PySem.W.Frag) (H : Hp) (v : V) (e : En) : Prop := ∃ p dv sv, v = .ref p ∧ H p = some (.tup [dv, sv]) ∧ IsDd H dv e.1 ∧ IsSc K H sv e.2
def IsEs (K : PySem.W.Frag) (H : Hp) (v : V) (es : List En) : Prop := ∃ p vs, v = .ref p ∧ H p = some (.tup vs) ∧ Paired (IsEn K H) vs es
section
variable {K : PySem.W.Frag} {H H' : Hp} {v : V}
theorem IsDd.up {d : Dd} (h : IsDd H v d) (k : Kp K H H') : IsDd H' v d := by
  obtain ⟨p, e, h⟩ := h
  exact ⟨p, e, k.tup h⟩
theorem IsSc.up {s : Sc} (h : IsSc K H v s) (k : Kp K H H') : IsSc K H' v s := by
  obtain ⟨p, wv, e, h, w⟩ := h
  exact ⟨p, wv, e, k.tup h, w.up k⟩
theorem IsEn.up {e : En} (h : IsEn K H v e) (k : Kp K H H') : IsEn K H' v e := by
  obtain ⟨p, dv, sv, e1, h, d, s⟩ := h
  exact ⟨p, dv, sv, e1, k.tup h, d.up k, s.up k⟩
theorem IsEs.up {es : List En} (h : IsEs K H v es) (k : Kp K H H') : IsEs K H' v es := by
  obtain ⟨p, vs, e1, h, r⟩ := h
  exact ⟨p, vs, e1, k.tup h, Paired.mapP r fun _ _ q => IsEn.up q k⟩
end
/-- a live walk -/
structure Lw where
  sc : Sc
  done : List En
  undone : List En
structure Lw.ok (x : Lw) : Prop where
  s : x.sc.ok
  d : ∀ e ∈ x.done, e.2.ok
  u : ∀ e ∈ x.undone, e.2.ok
  n : x.done.length ≤ 900
  m : x.undone.length ≤ 900
/-- whether it is open, and what is kept -/
structure Kc where
  op : Bool
  k1 : V
  k2 : V
  k3 : V
def lwF (sv dv uv : V) (c : Kc) : List (Str × V) := [(("scene" : Str), sv), (("done" : Str), dv), (("undone" : Str), uv), (("is_open" : Str), V.bl c.op), (("kept_scene" : Str), c.k1), (("kept_done" : Str), c.k2), (("kept_undone" : Str), c.k3)]
def IsLw (K : PySem.W.Frag) (H : Hp) (a : Addr) (c : Kc) (x : Lw) : Prop := x.ok ∧ ∃ dx sv dv uv, H a = some (.ins (He.ga K "LiveWalk") dx (lwF sv dv uv c)) ∧ IsSc K H sv x.sc ∧ IsEs K H dv x.done ∧ IsEs K H uv x.undone
section
variable {K : PySem.W.Frag} {H H' : Hp} {a d : Addr} {c : Kc} {x : Lw}
theorem IsLw.up (h : IsLw K H a c x) (k : Kp K H H') (e : ∀ o, H a = some o → H' a = some o) : IsLw K H' a c x := by
  obtain ⟨ok, dx, sv, dv, uv, ha, hs, hd, hu⟩ := h
  exact ⟨ok, dx, sv, dv, uv, e _ ha, hs.up k, hd.up k, hu.up k⟩
theorem IsLw.upS (h : IsLw K H a c x) (S : Same H H') : IsLw K H' a c x := h.up (Same.kp S) (S a)
theorem IsLw.upB (h : IsLw K H a c x) (k : Kp K H H') (B : But d H H') (n : a ≠ d) : IsLw K H' a c x := h.up k fun o e => B a o n e
end
/-- what the operations make of a scene -/
def Sc.walked (s : Sc) (n : Nat) (u : Int) : Sc := ⟨s.way, (s.post + n) % s.way.posts.length, u, s.legs + n⟩
def Sc.spill (s : Sc) (o : Int) : Sc := ⟨s.way, s.post, s.oil - o, s.legs⟩
def Sc.refill (s : Sc) (p : Nat) (o : Int) : Sc := ⟨s.way.pst p o, s.post, s.oil, s.legs⟩
def Sc.trade (s : Sc) (c : Int) : Sc := ⟨s.way.hold c, s.post, min s.oil c, s.legs⟩
def Lw.enter (x : Lw) (d : Dd) (s : Sc) : Lw := ⟨s, x.done ++ [(d, x.sc)], []⟩
theorem walked_ok {s : Sc} (ok : s.ok) {n : Nat} {u : Int} (h : s.way.walk s.post s.oil n = some u) : (s.walked n u).ok := by
  obtain ⟨w, p, o0, o1⟩ := ok
  refine ⟨w, Nat.mod_lt _ w.n1, walk_nonneg o0 h, ?_⟩
  cases n with
  | zero =>
    injection h with h
    show u ≤ s.way.cap
    omega
  | succ n => exact walk_capped w s.post h
theorem spill_ok {s : Sc} (ok : s.ok) {o : Int} (h0 : 0 ≤ o) (h1 : o ≤ s.oil) : (s.spill o).ok := by
  obtain ⟨w, p, o0, o1⟩ := ok
  exact ⟨w, p, by show 0 ≤ s.oil - o; omega, by show s.oil - o ≤ s.way.cap; omega⟩
theorem refill_ok {s : Sc} (ok : s.ok) {p : Nat} {o : Int} (hp : p < s.way.posts.length) (h0 : 0 ≤ o) (h1 : o ≤ 1000000000) : (s.refill p o).ok := by
  obtain ⟨w, q, o0, o1⟩ := ok
  exact ⟨pst_ok w hp h0 h1, by show s.post < (s.way.pst p o).posts.length; rw [pst_len]; exact q, o0, o1⟩
theorem trade_ok {s : Sc} (ok : s.ok) {c : Int} (h0 : 1 ≤ c) (h1 : c ≤ 1000000000) : (s.trade c).ok := by
  obtain ⟨⟨a, b, n1, n2, ps⟩, q, o0, o1⟩ := ok
  exact ⟨⟨h0, h1, n1, n2, ps⟩, q, by show 0 ≤ min s.oil c; omega, by show min s.oil c ≤ c; omega⟩
theorem enter_ok {x : Lw} (ok : x.ok) {d : Dd} {s : Sc} (hs : s.ok) (hn : x.done.length < 900) : (x.enter d s).ok := by
  refine ⟨hs, fun e he => ?_, fun e he => (nomatch he), ?_, Nat.zero_le _⟩
  · rcases List.mem_append.mp he with he | he
    · exact ok.d e he
    · rw [List.mem_singleton.mp he]
      exact ok.s
  · show (x.done ++ [(d, x.sc)]).length ≤ 900
    rw [List.length_append]
    simp only [List.length_singleton]
    omega
def lw0 (w : Wy) (i : Nat) (o : Int) : Lw := ⟨⟨w, i, o, 0⟩, [], []⟩
theorem lw0_ok {w : Wy} (ok : w.ok) {i : Nat} {o : Int} (hi : i < w.posts.length) (h0 : 0 ≤ o) (h1 : o ≤ w.cap) : (lw0 w i o).ok :=
  ⟨⟨ok, hi, h0, h1⟩, fun e he => (nomatch he), fun e he => (nomatch he), Nat.zero_le _, Nat.zero_le _⟩
/-! ### the last of a list -/
theorem paired_nil {α β : Type} {F : α → β → Prop} {b : List β} (h : Paired F [] b) : b = [] := by
  cases h
  rfl
theorem paired_nil' {α β : Type} {F : α → β → Prop} {a : List α} (h : Paired F a []) : a = [] := by
  cases h
  rfl
theorem paired_unsnoc {α β : Type} {F : α → β → Prop} : ∀ {a : List α} {b : List β} {y : β}, Paired F a (b ++ [y]) → ∃ c x, a = c ++ [x] ∧ Paired F c b ∧ F x y
  | _, [], _, .cons r .nil => ⟨[], _, rfl, .nil, r⟩
  | _, _ :: b, y, .cons r t => by
    obtain ⟨c, x, e, h, hf⟩ := paired_unsnoc (b := b) t
    exact ⟨_ :: c, x, by rw [e]; rfl, .cons r h, hf⟩
theorem paired_at {α β : Type} {F : α → β → Prop} : ∀ {a : List α} {b : List β} {i : Nat} {x : α}, Paired F a b → a[i]? = some x → ∃ y, b[i]? = some y ∧ F x y
  | _, _, _, _, .nil, e => by simp at e
  | _, _, 0, _, .cons r _, e => by
    simp at e
    subst e
    exact ⟨_, rfl, r⟩
  | _, _, i + 1, _, .cons _ t, e => by
    obtain ⟨y, h1, h2⟩ := paired_at (i := i) t (by simpa using e)
    exact ⟨y, by simpa using h1, h2⟩
theorem atI_snoc {α : Type} (l : List α) (x : α) : atI (l ++ [x]) (-1) = some x := by
  have hl : (l ++ [x]).length = l.length + 1 := by rw [List.length_append]; rfl
  unfold atI ixN
  rw [if_neg (by decide), if_pos (by rw [hl]; omega)]
  have e : (-1 + ((l ++ [x]).length : Int)).toNat = l.length := by rw [hl]; omega
  rw [e]
  show (l ++ [x])[l.length]? = some x
  rw [List.getElem?_append_right (Nat.le_refl _), Nat.sub_self]
  rfl
theorem cut_last (us : List V) (u : V) : cutV (us ++ [u]) none (some (-1)) = us := by
  unfold cutV
  have hl : (us ++ [u]).length = us.length + 1 := by rw [List.length_append]; rfl
  have e : HT.sIx (us ++ [u]).length (us ++ [u]).length (some (-1)) = us.length := by
    show (if (-1 : Int) < 0 then ((-1 : Int) + ((us ++ [u]).length : Int)).toNat else min (-1 : Int).toNat (us ++ [u]).length) = us.length
    rw [if_pos (by decide), hl]
    omega
  rw [e, HT.sIx_none, List.drop_zero, Nat.sub_zero, List.take_left]
/-- [d for d, s in done] -/
theorem lc_dds {X : Cx} {tg elt : Expr} {scope : Scope} {own : List (Str × Nat)} {σ : L2.St} {Q : VK} {K : PySem.W.Frag} {vs : List V} {es : List En} {H1 : Hp} {K0 : Hp → Prop} {m1 m2 : Nat} (hp : Paired (IsEn K H1) vs es) (hn : vs.length ≤ 1000) (hK : ∀ H', Same H1 H' → K0 H')
    (hg : ∀ Y, IsBlk X scope Y → ∀ (a : Addr) (u1 u2 : V) (σ : L2.St) (H : Hp) (R : L2.St → Hp → Prop), H a = some (.tup [u1, u2]) → R ((σ.set m1 (some u1)).set m2 (some u2)) H → GV Y tg (.ref a) σ H R)
    (he : ∀ Y, IsBlk X scope Y → ∀ (u1 u2 : V) (H : Hp) (R : VK), R u1 H → EV Y elt (((wipe σ (own.map (·.2))).set m1 (some u1)).set m2 (some u2)) H R)
    (q : ∀ H' D us, Same H1 H' → H1 D = none → H' D = some (.lst us) → Paired (IsDd H') us (es.map (·.1)) → Q (.ref D) H')
    (hw : ∀ v u : V, wipe (((wipe σ (own.map (·.2))).set m1 (some v)).set m2 (some u)) (own.map (·.2)) = wipe σ (own.map (·.2)) := by intro _ _; rfl) : LcL X scope own tg elt σ Q vs K0 H1 := by
  intro D zD
  have hl := Paired.length hp
  refine ⟨fun i H' => Same H1 H' ∧ ∃ us, H' D = some (.lst us) ∧ us.length = i ∧ Paired (IsDd H1) us ((es.take i).map (·.1)), ⟨same_upd' (Same.refl _) zD, [], upd_same, rfl, by rw [List.take_zero]; exact .nil⟩, fun i H' _ hp => hK _ hp.1, fun i x H' hx hp' => ?_, fun H' hp' => ?_⟩
  · obtain ⟨S, us, hD, hu, pu⟩ := hp'
    have hi : i < vs.length := (List.getElem?_eq_some_iff.mp hx).1
    obtain ⟨e, e1, hpr⟩ := paired_at hp hx
    obtain ⟨p, dv, sv, rfl, hpa, hd, _⟩ := hpr
    intro Y hY
    refine hg Y hY p dv sv _ _ _ (S _ _ hpa) ⟨hw _ _, fun Y2 hY2 => he Y2 hY2 dv sv _ _ ⟨us, hD, by rw [sizeLine_eq]; omega, same_upd' S zD, us ++ [dv], upd_same, by rw [List.length_append, hu]; rfl, ?_⟩⟩
    rw [List.take_succ, e1, List.map_append]
    exact paired_app pu (.cons hd .nil)
  · obtain ⟨S, us, hD, hu, pu⟩ := hp'
    rw [hl, List.take_length] at pu
    exact q H' D us S zD hD (Paired.mapP pu fun _ _ ⟨p, e, h⟩ => ⟨p, e, S _ _ h⟩)
end Oil
set_option Elab.async false
set_option linter.all false
set_option maxRecDepth 100000
set_option maxHeartbeats 2000000
/-! Dicts with texts as keys, at a point. -/
namespace Oil
open PySem PySem.Spec PyProof.Rows L2
section
variable {X : Cx} {σ : L2.St} {H : Hp} {Q : VK} {D : Ends} {pos cpos p apos tpos : Pos} {o i e k v : Expr} {kk : Nat} {E : XK}
/-- the pairs of a display -/
def DV (X : Cx) : List (Option Expr) → List Expr → List (Key × V) → L2.St → Hp → (List (Key × V) → Hp → Prop) → Prop
  | some k :: ks, v :: vs, acc, σ, H, Q => EV X k σ H fun x H1 => EV X v σ H1 fun y H2 => ∃ z : Str, x = .str z ∧ DV X ks vs (acc ++ [(.inr z, y)]) σ H2 Q
  | _, _, acc, _, H, Q => Q acc H
def evs (X : Cx) : List (Option Expr) → List Expr → List (TE × TE)
  | some k :: ks, v :: vs => (EV X k, EV X v) :: evs X ks vs
  | _, _ => []
theorem pps_all : ∀ (ks : List (Option Expr)) (vs : List Expr), ks.all (·.isSome) = true → ks.length = vs.length → PPs X pos ks vs (evs X ks vs)
  | [], [], _, _ => pps_nil
  | some k :: ks, v :: vs, h, hl => pps_cons pe_ev pe_ev (pps_all ks vs (by simpa using h) (by simpa using hl))
  | none :: ks, v :: vs, h, _ => by simp at h
  | _ :: _, [], _, hl => by simp at hl
  | [], _ :: _, _, hl => by simp at hl
theorem tpairs_of : ∀ (ks : List (Option Expr)) (vs : List Expr) (acc : List (Key × V)) (σ : L2.St) (H : Hp) (R : List (Key × V) → Hp → Prop) (R' : List (V × V) → Hp → Prop), (∀ bs H1, R (acc ++ bs) H1 → R' (bs.map fun kv => (kV kv.1, kv.2)) H1) → DV X ks vs acc σ H R → tPairs (evs X ks vs) σ H R'
  | [], _, acc, σ, H, R, R', hR, h => by
    have h' : R acc H := by cases ‹List Expr› <;> exact h
    exact hR [] H (by rw [List.append_nil]; exact h')
  | none :: _, _, acc, σ, H, R, R', hR, h => by
    have h' : R acc H := by cases ‹List Expr› <;> exact h
    exact hR [] H (by rw [List.append_nil]; exact h')
  | some k :: ks, [], acc, σ, H, R, R', hR, h => hR [] H (by rw [List.append_nil]; exact h)
  | some k :: ks, v :: vs, acc, σ, H, R, R', hR, h => by
    refine EV.mono (show EV X k σ H _ from h) fun x H1 h1 => EV.mono h1 fun y H2 ⟨z, ex, h2⟩ => ?_
    refine tpairs_of ks vs (acc ++ [(.inr z, y)]) σ H2 R _ (fun bs H3 hb => ?_) h2
    have := hR ((.inr z, y) :: bs) H3 (by simpa using hb)
    rw [ex]
    exact this
/-- {"x": v, ..} -/
theorem ev_dispT {ks : List (Option Expr)} {vs : List Expr} (q : ∀ p, H p = none → DV X ks vs [] σ (upd H p (.dK [])) fun kvs H2 => H2 p = some (.dK []) ∧ kvs.length ≤ 15 ∧ Q (.ref p) (upd H2 p (.dK (mergeK [] kvs))))
    (hall : ks.all (·.isSome) = true := by rfl) (hl : ks.length = vs.length := by rfl) (h0 : ks ≠ [] := by exact fun z => by cases z) (h15 : ks.length ≤ 15 := by decide) : EV X (.Dict ks vs pos) σ H Q := by
  refine EV.of (pe_disp (pps_all ks vs hall hl) hall hl h0 h15) fun p hp => ?_
  exact tpairs_of ks vs [] σ _ _ _ (fun bs H1 ⟨h1, h2, h3⟩ => ⟨h1, bs, rfl, h2, h3⟩) (q p hp)
theorem ev_dgetT (C : Cal X kk E) (q : EV X o σ H fun x H1 => EV X i σ H1 fun y H2 => ∃ a v kvs, ∃ z : Str, x = .ref a ∧ y = .str z ∧ H2 a = some (.dK kvs) ∧ valV kvs (.inr z) = some v ∧ Q v H2) (hs : NoSl i := by intro _ _; rfl) : EV X (.Subscript o i pos) σ H Q :=
  EV.of (pe_dget (by have := C.hr.units; omega) pe_ev pe_ev hs) (EV.mono q fun x H1 q1 => EV.mono q1 fun y H2 ⟨a, v, kvs, z, ex, ey, h, hv, q2⟩ => ⟨a, v, ex, .inl ⟨kvs, .inr z, .inl h, ey, hv.symm⟩, q2⟩)
/-- d["x"] = v, the target -/
theorem gv_dputT (C : Cal X kk E) {v : V} {R : L2.St → Hp → Prop} (q : EV X o σ H fun x H1 => EV X i σ H1 fun y H2 => ∃ a kvs, ∃ z : Str, x = .ref a ∧ y = .str z ∧ H2 a = some (.dK kvs) ∧ kvs.length < sizeLine ∧ R σ (upd H2 a (.dK (putK kvs (.inr z) v))))
    (ha : ∀ v, assign (.Subscript o i pos) X.env v = (do
      let ov ← holding [v] (eval o X.env)
      let iv ← holding [v, ov] (eval i X.env)
      standAt pos
      holding [v, ov, iv] (setItem ov iv v)
      release [v, ov, iv] []) := by intro _; rfl) : GV X (.Subscript o i pos) v σ H R :=
  GV.of (pg_sub pe_ev pe_ev (set_dict (by have := C.hr.units; omega)) ha) (EV.mono q fun x H1 q1 => EV.mono q1 fun y H2 ⟨a, kvs, z, ex, ey, h, hl, q2⟩ => ⟨a, _, ex, .inl ⟨kvs, .inr z, h, ey, hl, rfl⟩, q2⟩)
/-- list(l), a new list -/
theorem ev_listL (hm : X.mg "list" = none) (q : EV X e σ H fun x H1 => ∃ a xs, x = .ref a ∧ (SqL X.K H1 a xs ∨ SqT X.K H1 a xs) ∧ ∀ H' D, Same H1 H' → H1 D = none → H' D = some (.lst xs) → Q (.ref D) H') (hg : Gl X "list" := by rfl)
    (he : starEach [e] X.env = (false, eval e X.env) :: starEach [] X.env := by rfl) (hpl : (backTo pos (starEach [] X.env)).any (·.1) = false := by rfl) : EV X (.Call (.Name "list" p) [e] [] pos) σ H Q :=
  ev_callT call_list_of hm (av_cons (EV.mono q fun x H1 ⟨a, xs, ex, h, q⟩ => av_nil ⟨a, xs, by rw [ex], h, fun D hD => q _ D (same_upd hD) hD upd_same⟩) he) (hg := hg) (he := he) (hpl := hpl)
end
/-- l != [] -/
theorem op_neLE {X : Cx} (hu : X.A.units < cLine) : OpR X (compareOp .NotEq) (fun x y H Q => ∃ a b xs, x = .ref a ∧ y = .ref b ∧ SqL X.K H a xs ∧ SqL X.K H b [] ∧ Q (.bl (!decide (xs = []))) H) := by
  intro pins s σ H x y v u Q I rx ry h
  obtain ⟨a, b, xs, rfl, rfl, ea, eb, q⟩ := h
  cases (show v = Value.ref a from rx)
  cases (show u = Value.ref b from ry)
  obtain ⟨ia, ra, ta, _⟩ := I.list ea
  obtain ⟨ib, rb, tb, _⟩ := I.list eb
  have lb : ib = [] := List.eq_nil_of_length_eq_zero (by rw [← Vals.length rb]; rfl)
  have la := Vals.length ra
  subst lb
  cases xs with
  | nil =>
    have e : ia = [] := List.eq_nil_of_length_eq_zero (by rw [← la]; rfl)
    subst e
    exact SeqAt.RcNeAt.lists (e := fun _ => true) ta.isList tb.isList rfl hu (fun j h1 _ => absurd h1 (by simp)) X.prog X.w _ _ ⟨.bl _, H, I, rfl, q⟩
  | cons x0 xs =>
    refine SeqAt.RcNeAt.lists_lengths ta.isList tb.isList ?_ hu X.prog X.w _ _ ⟨.bl _, H, I, rfl, q⟩
    cases ia with
    | nil => simp at la
    | cons => rfl
/-- an own live walk, a dict -/
def hK (c l p o w : V) : List (Key × V) := [(.inr "capacity", c), (.inr "posts", l), (.inr "post", p), (.inr "oil", o), (.inr "walked", w)]
/-- what an operation makes of a scene, and its result -/
def DdGo (s : Sc) : Dd → Sc → Rd → Prop
  | .walk n, s', r => ∃ (u : Int) (xs : List Int), s.way.walk s.post s.oil n = some u ∧ xs.length = n ∧ (∀ j, j < xs.length → s.way.walk s.post s.oil (j + 1) = xs[j]?) ∧ s' = s.walked n u ∧ r = .lst xs
  | .spill o, s', r => s' = s.spill o ∧ r = .int (s.oil - o)
  | .refill p o, s', r => s' = s.refill p o ∧ r = .int (s.way.at p).1
  | .trade c, s', r => s' = s.trade c ∧ r = .int (max 0 (s.oil - c))
def DdOut (s : Sc) (d : Dd) (j : Nat) (f : Int) : Prop := ∃ (n : Nat) (u : Int), d = .walk n ∧ j < n ∧ s.way.walk s.post s.oil j = some u ∧ s.way.walk s.post s.oil (j + 1) = none ∧ f = min s.way.cap (u + (s.way.at (s.post + j)).1)
/-- its arguments are right -/
def DdOk (s : Sc) : Dd → Prop
  | .walk n => n ≤ 1000
  | .spill o => 0 ≤ o ∧ o ≤ s.oil
  | .refill p o => p < s.way.posts.length ∧ 0 ≤ o ∧ o ≤ 1000000000
  | .trade c => 1 ≤ c ∧ c ≤ 1000000000
theorem go_ok {s s' : Sc} {d : Dd} {r : Rd} (ok : s.ok) (h : DdOk s d) (g : DdGo s d s' r) : s'.ok := by
  cases d with
  | walk n =>
    obtain ⟨u, xs, h1, _, _, rfl, _⟩ := g
    exact walked_ok ok h1
  | spill o =>
    obtain ⟨rfl, _⟩ := g
    exact spill_ok ok h.1 h.2
  | refill p o =>
    obtain ⟨rfl, _⟩ := g
    exact refill_ok ok h.1 h.2.1 h.2.2
  | trade c =>
    obtain ⟨rfl, _⟩ := g
    exact trade_ok ok h.1 h.2
theorem walk_list_det {w : Wy} {i : Nat} {o : Int} {xs ys : List Int} (hl : xs.length = ys.length) (h1 : ∀ j, j < xs.length → w.walk i o (j + 1) = xs[j]?) (h2 : ∀ j, j < ys.length → w.walk i o (j + 1) = ys[j]?) : xs = ys := by
  refine List.ext_getElem? fun j => ?_
  by_cases hj : j < xs.length
  · rw [← h1 j hj, h2 j (by omega)]
  · rw [List.getElem?_eq_none (by omega), List.getElem?_eq_none (by omega)]
theorem go_det {s s1 s2 : Sc} {d : Dd} {r1 r2 : Rd} (g1 : DdGo s d s1 r1) (g2 : DdGo s d s2 r2) : s1 = s2 ∧ r1 = r2 := by
  cases d with
  | walk n =>
    obtain ⟨u, xs, h1, h2, h3, rfl, rfl⟩ := g1
    obtain ⟨u', xs', h1', h2', h3', rfl, rfl⟩ := g2
    have : u = u' := by
      rw [h1] at h1'
      exact Option.some.inj h1'
    subst this
    exact ⟨rfl, by rw [walk_list_det (by omega) h3 h3']⟩
  | spill o => obtain ⟨rfl, rfl⟩ := g1; obtain ⟨rfl, rfl⟩ := g2; exact ⟨rfl, rfl⟩
  | refill p o => obtain ⟨rfl, rfl⟩ := g1; obtain ⟨rfl, rfl⟩ := g2; exact ⟨rfl, rfl⟩
  | trade c => obtain ⟨rfl, rfl⟩ := g1; obtain ⟨rfl, rfl⟩ := g2; exact ⟨rfl, rfl⟩
theorem out_not_go {s s1 : Sc} {d : Dd} {r1 : Rd} {j : Nat} {f : Int} (o : DdOut s d j f) (g : DdGo s d s1 r1) : False := by
  obtain ⟨n, u, rfl, hj, h1, h2, _⟩ := o
  obtain ⟨u', xs, h3, _⟩ := g
  rw [walk_gone (m := j + 1) (n := n) (by omega) h2] at h3
  cases h3
theorem out_det {s : Sc} {d : Dd} {j j' : Nat} {f f' : Int} (o : DdOut s d j f) (o' : DdOut s d j' f') : j = j' ∧ f = f' := by
  obtain ⟨n, u, rfl, hj, h1, h2, rfl⟩ := o
  obtain ⟨n', u', e, hj', h1', h2', rfl⟩ := o'
  have ej : j = j' := by
    rcases Nat.lt_trichotomy j j' with h | h | h
    · rw [walk_gone (m := j + 1) (n := j') (by omega) h2] at h1'
      cases h1'
    · exact h
    · rw [walk_gone (m := j' + 1) (n := j) (by omega) h2'] at h1
      cases h1
  subst ej
  rw [h1] at h1'
  rw [Option.some.inj h1']
  exact ⟨rfl, rfl⟩
/-- objects whose place tells what they are -/
def Pl : HO → Prop
  | .lst _ => True
  | .tup _ => True
  | .dK _ => True
  | .ins _ _ _ => True
  | _ => False
/-- all but what stands at two places stays -/
def Fra (d a : Addr) (H H' : Hp) : Prop := ∀ b o, b ≠ d → b ≠ a → Pl o → H b = some o → H' b = some o
theorem Fra.tr {d a : Addr} {H H1 H' : Hp} (f : Fra d a H H1) (g : Fra d a H1 H') : Fra d a H H' := fun b o n1 n2 p e => g b o n1 n2 p (f b o n1 n2 p e)
theorem Fra.same {d a : Addr} {H H' : Hp} (S : Same H H') : Fra d a H H' := fun b o _ _ _ e => S b o e
theorem Fra.but1 {d a : Addr} {H H' : Hp} (B : But d H H') : Fra d a H H' := fun b o n _ _ e => B b o n e
theorem Fra.but2 {d a : Addr} {H H' : Hp} (B : But a H H') : Fra d a H H' := fun b o _ n _ e => B b o n e
theorem Fra.ext {d a : Addr} {H H' : Hp} (E : LamX.ExtN H H') : Fra d a H H' := fun b o _ _ p e => E b o e fun ps z => by
  rw [z] at p
  exact p
/-- an own live walk in the heap; d: the row's place, a: the live walk's -/
def IsHd (d : Addr) (H : Hp) (v : V) (s : Sc) : Prop := ∃ p l vs, v = .ref p ∧ H p = some (.dK (hK (.int s.way.cap) (.ref l) (.int (s.post : Nat)) (.int s.oil) (.int (s.legs : Nat)))) ∧ l ≠ d ∧ H l = some (.lst vs) ∧ AreP H vs s.way.posts
def IsPe (d : Addr) (H : Hp) (v : V) (e : En) : Prop := ∃ p dv hv, v = .ref p ∧ H p = some (.tup [dv, hv]) ∧ IsDd H dv e.1 ∧ IsHd d H hv e.2
def IsPa (d : Addr) (H : Hp) (v : V) (es : List En) : Prop := ∃ l us, v = .ref l ∧ l ≠ d ∧ H l = some (.lst us) ∧ Paired (IsPe d H) us es
section
variable {d a : Addr} {H H' : Hp} {v : V} {ds : List V} {C dx : Addr} {fs : List (Str × V)}
theorem fra_tup (F : Fra d a H H') (hd : H d = some (.lst ds)) (ha : H a = some (.ins C dx fs)) {b : Addr} {xs : List V} (e : H b = some (.tup xs)) : H' b = some (.tup xs) := by
  refine F b _ (fun z => ?_) (fun z => ?_) trivial e
  · rw [z, hd] at e
    cases e
  · rw [z, ha] at e
    cases e
theorem fra_lst (F : Fra d a H H') (ha : H a = some (.ins C dx fs)) {b : Addr} {xs : List V} (n : b ≠ d) (e : H b = some (.lst xs)) : H' b = some (.lst xs) := by
  refine F b _ n (fun z => ?_) trivial e
  rw [z, ha] at e
  cases e
theorem fra_dK (F : Fra d a H H') (hd : H d = some (.lst ds)) (ha : H a = some (.ins C dx fs)) {b : Addr} {xs : List (Key × V)} (e : H b = some (.dK xs)) : H' b = some (.dK xs) := by
  refine F b _ (fun z => ?_) (fun z => ?_) trivial e
  · rw [z, hd] at e
    cases e
  · rw [z, ha] at e
    cases e
theorem IsDd.fra {x : Dd} (h : IsDd H v x) (F : Fra d a H H') (hd : H d = some (.lst ds)) (ha : H a = some (.ins C dx fs)) : IsDd H' v x := by
  obtain ⟨p, e, h⟩ := h
  exact ⟨p, e, fra_tup F hd ha h⟩
theorem IsHd.fra {s : Sc} (h : IsHd d H v s) (F : Fra d a H H') (hd : H d = some (.lst ds)) (ha : H a = some (.ins C dx fs)) : IsHd d H' v s := by
  obtain ⟨p, l, vs, e, hp, n, hl, ps⟩ := h
  exact ⟨p, l, vs, e, fra_dK F hd ha hp, n, fra_lst F ha n hl, Paired.mapP ps fun _ _ ⟨q, e, h⟩ => ⟨q, e, fra_tup F hd ha h⟩⟩
theorem IsPe.fra {e : En} (h : IsPe d H v e) (F : Fra d a H H') (hd : H d = some (.lst ds)) (ha : H a = some (.ins C dx fs)) : IsPe d H' v e := by
  obtain ⟨p, dv, hv, ev, hp, h1, h2⟩ := h
  exact ⟨p, dv, hv, ev, fra_tup F hd ha hp, h1.fra F hd ha, h2.fra F hd ha⟩
theorem IsPa.fra {es : List En} (h : IsPa d H v es) (F : Fra d a H H') (hd : H d = some (.lst ds)) (ha : H a = some (.ins C dx fs)) : IsPa d H' v es := by
  obtain ⟨l, us, ev, n, hl, h⟩ := h
  exact ⟨l, us, ev, n, fra_lst F ha n hl, Paired.mapP h fun _ _ q => IsPe.fra q F hd ha⟩
theorem IsHd.same {s : Sc} (h : IsHd d H v s) (S : Same H H') : IsHd d H' v s := by
  obtain ⟨p, l, vs, e, hp, n, hl, ps⟩ := h
  exact ⟨p, l, vs, e, S _ _ hp, n, S _ _ hl, AreP.upS ps S⟩
theorem IsDd.same {x : Dd} (h : IsDd H v x) (S : Same H H') : IsDd H' v x := by
  obtain ⟨p, e, h⟩ := h
  exact ⟨p, e, S _ _ h⟩
theorem IsPe.same {e : En} (h : IsPe d H v e) (S : Same H H') : IsPe d H' v e := by
  obtain ⟨p, dv, hv, ev, hp, h1, h2⟩ := h
  exact ⟨p, dv, hv, ev, S _ _ hp, h1.same S, h2.same S⟩
theorem IsPa.same {es : List En} (h : IsPa d H v es) (S : Same H H') : IsPa d H' v es := by
  obtain ⟨l, us, ev, n, hl, h⟩ := h
  exact ⟨l, us, ev, n, S _ _ hl, Paired.mapP h fun _ _ q => IsPe.same q S⟩
/-- drawing leaves it -/
theorem IsHd.but {s : Sc} (h : IsHd d H v s) (B : But d H H') (hd : H d = some (.lst ds)) : IsHd d H' v s := by
  have nt : ∀ {b xs}, H b = some (.tup xs) → H' b = some (.tup xs) := fun {b xs} e => B b _ (fun z => by rw [z, hd] at e; cases e) e
  obtain ⟨p, l, vs, e, hp, n, hl, ps⟩ := h
  exact ⟨p, l, vs, e, B _ _ (fun z => by rw [z, hd] at hp; cases hp) hp, n, B _ _ n hl, Paired.mapP ps fun _ _ ⟨q, e, h⟩ => ⟨q, e, nt h⟩⟩
end
/-- a result that is new -/
def Rd.new (H0 H : Hp) (v : V) : Rd → Prop
  | .non => v = .non
  | .int i => v = .int i
  | .lst ns => ∃ l, v = .ref l ∧ H0 l = none ∧ H l = some (.lst (ns.map V.int))
  | .tup ns => ∃ l, v = .ref l ∧ H0 l = none ∧ H l = some (.tup (ns.map V.int))
theorem paired_set {α β : Type} {F : α → β → Prop} : ∀ {a : List α} {b : List β}, Paired F a b → ∀ (i : Nat) {x : α} {y : β}, F x y → Paired F (a.set i x) (b.set i y)
  | _, _, .nil, _, _, _, _ => .nil
  | _, _, .cons _ t, 0, _, _, h => .cons h t
  | _, _, .cons r t, i + 1, _, _, h => .cons r (paired_set t i h)
theorem vstr_ne {a b : Str} (h : ¬ a = b) : ¬ V.str a = V.str b := fun e => h (by injection e)
/-- all that a live walk tells, in a list -/
def IsTo (H0 H : Hp) (v : V) (s : Sc) : Prop := ∃ t l us, v = .ref t ∧ H0 t = none ∧ H t = some (.lst [.int s.way.cap, .ref l, .int (s.post : Nat), .int s.oil, .int (s.legs : Nat)]) ∧ H0 l = none ∧ H l = some (.lst us) ∧ AreP H us s.way.posts
def dTo (s : Sc) : PyData := .list [.int s.way.cap, dPL s.way.posts, .int (s.post : Nat), .int s.oil, .int (s.legs : Nat)]
theorem dp_to {K : PySem.W.Frag} {H : Hp} {t l : Addr} {us : List V} {s : Sc} (ht : H t = some (.lst [.int s.way.cap, .ref l, .int (s.post : Nat), .int s.oil, .int (s.legs : Nat)])) (hl : H l = some (.lst us)) (ps : AreP H us s.way.posts) : Dp K H (.ref t) (dTo s) :=
  .lst (SqL.of ht) (.cons (.int _) (.cons (dp_pl (SqL.of hl) ps) (.cons (.int _) (.cons (.int _) (.cons (.int _) .nil)))))
/-- results as data -/
def dRd : Rd → PyData
  | .non => .none
  | .int i => .int i
  | .lst ns => .list (ns.map PyData.int)
  | .tup ns => .tuple (ns.map PyData.int)
theorem dp_rd' {K : PySem.W.Frag} {H : Hp} {v : V} {r : Rd} (h : Rd.is H v r) : Dp K H v (dRd r) := by
  cases r with
  | non => cases (show v = .non from h); exact .non
  | int i => cases (show v = .int i from h); exact .int i
  | lst ns => obtain ⟨l, rfl, q⟩ := h; exact .lst (SqL.of q) (dp_intsA ns)
  | tup ns => obtain ⟨l, rfl, q⟩ := h; exact .tup (SqT.of q) (dp_intsA ns)
theorem drd_lay (r : Rd) : PyData.canLay0 (dRd r) = true ∧ PyData.depth (dRd r) ≤ 60 := by
  cases r with
  | non => exact ⟨by decide +kernel, by simp [dRd, PyData.depth]⟩
  | int i => exact ⟨by simp [dRd, PyData.canLay0], by simp [dRd, PyData.depth]⟩
  | lst ns => exact ⟨by simp only [dRd, PyData.canLay0]; exact ints_lay ns, by simp only [dRd, PyData.depth]; rw [ints_depth ns]; omega⟩
  | tup ns => exact ⟨by simp only [dRd, PyData.canLay0]; exact ints_lay ns, by simp only [dRd, PyData.depth]; rw [ints_depth ns]; omega⟩
theorem drd1_shaped (r : Rd) : SeqAt.shaped (.list [dRd r]) = true := shaped_list fun d hd => by
  rw [List.mem_singleton.mp hd]
  exact drd_lay r
/-- operations as data -/
def dDd : Dd → PyData
  | .walk n => .tuple [.str "walk", .int (n : Nat)]
  | .spill o => .tuple [.str "spill", .int o]
  | .refill p o => .tuple [.str "refill", .int (p : Nat), .int o]
  | .trade c => .tuple [.str "trade", .int c]
theorem dp_dd {K : PySem.W.Frag} {H : Hp} {v : V} {d : Dd} (h : IsDd H v d) : Dp K H v (dDd d) := by
  obtain ⟨p, rfl, h⟩ := h
  cases d with
  | walk n => exact .tup (SqT.of h) (.cons (.str _) (.cons (.int _) .nil))
  | spill o => exact .tup (SqT.of h) (.cons (.str _) (.cons (.int _) .nil))
  | refill p o => exact .tup (SqT.of h) (.cons (.str _) (.cons (.int _) (.cons (.int _) .nil)))
  | trade c => exact .tup (SqT.of h) (.cons (.str _) (.cons (.int _) .nil))
theorem dp_dds {K : PySem.W.Frag} {H : Hp} : ∀ {us : List V} {ds : List Dd}, Paired (IsDd H) us ds → DpAll K H us (ds.map dDd)
  | _, _, .nil => .nil
  | _, _, .cons r t => .cons (dp_dd r) (dp_dds t)
theorem ddd_lay (d : Dd) : PyData.canLay0 (dDd d) = true ∧ PyData.depth (dDd d) ≤ 60 := by
  cases d with
  | walk n => exact ⟨by simp [dDd, PyData.canLay0, PyData.canLayAll0]; decide +kernel, by simp [dDd, PyData.depth, PyData.depthAll]⟩
  | spill o => exact ⟨by simp [dDd, PyData.canLay0, PyData.canLayAll0]; decide +kernel, by simp [dDd, PyData.depth, PyData.depthAll]⟩
  | refill p o => exact ⟨by simp [dDd, PyData.canLay0, PyData.canLayAll0]; decide +kernel, by simp [dDd, PyData.depth, PyData.depthAll]⟩
  | trade c => exact ⟨by simp [dDd, PyData.canLay0, PyData.canLayAll0]; decide +kernel, by simp [dDd, PyData.depth, PyData.depthAll]⟩
theorem dds_shaped (ds : List Dd) : SeqAt.shaped (.list (ds.map dDd)) = true := shaped_list fun d hd => by
  obtain ⟨x, _, rfl⟩ := List.mem_map.mp hd
  exact ddd_lay x
theorem to_shaped (s : Sc) : SeqAt.shaped (dTo s) = true := shaped_list fun d hd => by
  have e1 : ∀ i : Int, PyData.canLay0 (.int i) = true ∧ PyData.depth (.int i) ≤ 60 := fun i => ⟨by simp [PyData.canLay0], by simp [PyData.depth]⟩
  simp only [List.mem_cons, List.not_mem_nil, or_false] at hd
  rcases hd with rfl | rfl | rfl | rfl | rfl
  · exact e1 _
  · have h : SeqAt.shaped (dPL s.way.posts) = true := shaped_pl _
    have h2 : (PyData.canLay0 (dPL s.way.posts) && decide (PyData.depth (dPL s.way.posts) ≤ 64)) = true := h
    refine ⟨(He.ba h2).1, ?_⟩
    have key : ∀ ps : List (Int × Int), PyData.depthAll (ps.map dP) ≤ 1 := fun ps => by
      induction ps with
      | nil => simp [PyData.depthAll]
      | cons p ps ih =>
        simp only [List.map_cons, PyData.depthAll, dP, PyData.depth]
        omega
    have := key s.way.posts
    simp only [dPL, PyData.depth]
    omega
  · exact e1 _
  · exact e1 _
  · exact e1 _
/-- [d for d, s in l], l a list of pairs -/
theorem lc_ddG {X : Cx} {tg elt : Expr} {scope : Scope} {own : List (Str × Nat)} {σ : L2.St} {Q : VK} {α : Type} {F : V → α → Prop} {f : α → Dd} {vs : List V} {es : List α} {H1 : Hp} {K0 : Hp → Prop} {m1 m2 : Nat} (hp : Paired F vs es) (hF : ∀ v e, F v e → ∃ p dv sv, v = .ref p ∧ H1 p = some (.tup [dv, sv]) ∧ IsDd H1 dv (f e)) (hn : vs.length ≤ 1000) (hK : ∀ H', Same H1 H' → K0 H')
    (hg : ∀ Y, IsBlk X scope Y → ∀ (a : Addr) (u1 u2 : V) (σ : L2.St) (H : Hp) (R : L2.St → Hp → Prop), H a = some (.tup [u1, u2]) → R ((σ.set m1 (some u1)).set m2 (some u2)) H → GV Y tg (.ref a) σ H R)
    (he : ∀ Y, IsBlk X scope Y → ∀ (u1 u2 : V) (H : Hp) (R : VK), R u1 H → EV Y elt (((wipe σ (own.map (·.2))).set m1 (some u1)).set m2 (some u2)) H R)
    (q : ∀ H' D us, Same H1 H' → H1 D = none → H' D = some (.lst us) → Paired (IsDd H') us (es.map f) → Q (.ref D) H')
    (hw : ∀ v u : V, wipe (((wipe σ (own.map (·.2))).set m1 (some v)).set m2 (some u)) (own.map (·.2)) = wipe σ (own.map (·.2)) := by intro _ _; rfl) : LcL X scope own tg elt σ Q vs K0 H1 := by
  intro D zD
  have hl := Paired.length hp
  refine ⟨fun i H' => Same H1 H' ∧ ∃ us, H' D = some (.lst us) ∧ us.length = i ∧ Paired (IsDd H1) us ((es.take i).map f), ⟨same_upd' (Same.refl _) zD, [], upd_same, rfl, by rw [List.take_zero]; exact .nil⟩, fun i H' _ hp => hK _ hp.1, fun i x H' hx hp' => ?_, fun H' hp' => ?_⟩
  · obtain ⟨S, us, hD, hu, pu⟩ := hp'
    have hi : i < vs.length := (List.getElem?_eq_some_iff.mp hx).1
    obtain ⟨e, e1, hpr⟩ := paired_at hp hx
    obtain ⟨p, dv, sv, rfl, hpa, hd⟩ := hF _ _ hpr
    intro Y hY
    refine hg Y hY p dv sv _ _ _ (S _ _ hpa) ⟨hw _ _, fun Y2 hY2 => he Y2 hY2 dv sv _ _ ⟨us, hD, by rw [sizeLine_eq]; omega, same_upd' S zD, us ++ [dv], upd_same, by rw [List.length_append, hu]; rfl, ?_⟩⟩
    rw [List.take_succ, e1, List.map_append]
    exact paired_app pu (.cons hd .nil)
  · obtain ⟨S, us, hD, hu, pu⟩ := hp'
    rw [hl, List.take_length] at pu
    exact q H' D us S zD hD (Paired.mapP pu fun _ _ ⟨p, e, h⟩ => ⟨p, e, S _ _ h⟩)
theorem rd_new_is {H0 H H' : Hp} {v : V} {r : Rd} (h : Rd.new H0 H v r) (T : ∀ b o, H0 b = none → Pl o → H b = some o → H' b = some o) : Rd.is H' v r := by
  cases r with
  | non => exact h
  | int i => exact h
  | lst ns =>
    obtain ⟨l, e, z, h⟩ := h
    exact ⟨l, e, T _ _ z trivial h⟩
  | tup ns =>
    obtain ⟨l, e, z, h⟩ := h
    exact ⟨l, e, T _ _ z trivial h⟩
theorem Rd.is.same {H H' : Hp} {v : V} {r : Rd} (h : Rd.is H v r) (S : Same H H') : Rd.is H' v r := by
  cases r with
  | non => exact h
  | int i => exact h
  | lst ns =>
    obtain ⟨l, e, h⟩ := h
    exact ⟨l, e, S _ _ h⟩
  | tup ns =>
    obtain ⟨l, e, h⟩ := h
    exact ⟨l, e, S _ _ h⟩
theorem hd_two {d e : Addr} {H : Hp} {v : V} {s : Sc} (h1 : IsHd d H v s) (h2 : IsHd e H v s) : ∃ p l vs, v = .ref p ∧ H p = some (.dK (hK (.int s.way.cap) (.ref l) (.int (s.post : Nat)) (.int s.oil) (.int (s.legs : Nat)))) ∧ l ≠ d ∧ l ≠ e ∧ H l = some (.lst vs) ∧ AreP H vs s.way.posts := by
  obtain ⟨p, l, vs, rfl, hp, n, hl, ps⟩ := h1
  obtain ⟨p', l', vs', e', hp', n', hl', ps'⟩ := h2
  cases e'
  rw [hp] at hp'
  have el : l = l' := by
    simp only [hK, Option.some.injEq, HO.dK.injEq, List.cons.injEq, Prod.mk.injEq, V.ref.injEq] at hp'
    exact hp'.2.1.2
  subst el
  exact ⟨p, l, vs, rfl, hp, n, n', hl, ps⟩
end Oil
set_option Elab.async false
set_option linter.all false
set_option maxRecDepth 100000
set_option maxHeartbeats 2000000
/-! Texts and bytes at a point: f-strings with a format, products, slices, items. -/
namespace Oil
open PySem PySem.Spec PyProof.Rows L2
section
open Builtin Builtin.Str Builtin.Int Builtin.Float
theorem gives_after_cut {a : Int} {t : Tok} {m : PySem.Made} {k : String → Sem PySem.Fin} (g : ∀ n, Gives (k n) m) : Gives (do let n ← typeNameOfCut 200 (.int a t); k n) m :=
  fun prog w A R s hq => wpAny_bind (wpAny_typeNameOfCut_int (g "int" prog w A R s hq))
/-- a format of an int, no sign, no type, any width, any grouping -/
structure FmtOk (sp : Str) (f : FormatSpec) : Prop where
  ne : (sp.length == 0) = false
  asc : ((sp.cps.toList.drop 1).any (· ≥ 128) || (sp.cps.getD 0 0 ≥ 128 && !([60, 62, 61, 94] : List Nat).contains (sp.cps.getD 1 0))) = false
  p : ∀ n, parseFormatSpec sp.cps.toList n 62 = .ok f
  ty : f.type.getD (if sp.cps.back? == some 0 then 0 else 100) = 100
  pr : f.precision = none
  z : f.noNeg0 = false
  al : f.alt = false
  w : ¬ f.width.getD 0 > 100000
  sz : sp.length ≤ sizeLine
theorem gives_sp (a : Int) (t u : Tok) (h : a.natAbs.log2 < 1920) {sp : Str} {f : FormatSpec} (ok : FmtOk sp f) : Gives («int.__format__» ⟨[.int a t, .str sp u], []⟩) (.str (intSpecText f a)) := by
  obtain ⟨hne, hasc, hp, hty, hpr, hz, hal, hw, _⟩ := ok
  unfold «int.__format__»
  simp only [selfAndOne, noKeywords, Int.intOfSelf, asInt?, asStr?, List.isEmpty_nil, if_true, pure_bind, bind_assoc, hne, hasc, Bool.false_eq_true, if_false, show (Value.str sp u == Value.none) = false from rfl]
  refine gives_after_typeNameOf (T := "str") (fun s => typeIs_str s _ _) (by decide) fun _ => ?_
  refine gives_after_cut fun n => ?_
  simp only [hp n, hty]
  rw [if_pos (by decide)]
  show Gives (if _ then _ else _) _
  rw [if_neg (by simp [hpr])]
  show Gives (if _ then _ else _) _
  rw [if_neg (by simp [hz])]
  show Gives (if _ then _ else _) _
  rw [if_neg (by decide)]
  show Gives (do let r ← Builtin.overDigitLimit? a; _) _
  rw [PySem.overDigitLimit_small h]
  show Gives (if _ then _ else _) _
  rw [if_neg (by simpa using hw)]
  simp only [hal, Bool.false_eq_true, if_false, show ((10 : Nat) == 10) = true by decide, if_true]
  exact .of_eq (by kernel_rfl)
/-- the formats of the log -/
def fm3 : FormatSpec := { fill := 32, align := 62, width := some 3 }
def fm2 : FormatSpec := { fill := 32, align := 62, width := some 2 }
def fm13 : FormatSpec := { fill := 95, align := 62, width := some 13, grouping := some ',' }
theorem fm3_ok : FmtOk ">3" fm3 := ⟨by decide +kernel, by decide +kernel, fun n => by rfl, by decide +kernel, rfl, rfl, rfl, by decide +kernel, by decide +kernel⟩
theorem fm2_ok : FmtOk ">2" fm2 := ⟨by decide +kernel, by decide +kernel, fun n => by rfl, by decide +kernel, rfl, rfl, rfl, by decide +kernel, by decide +kernel⟩
theorem fm13_ok : FmtOk "_>13," fm13 := ⟨by decide +kernel, by decide +kernel, fun n => by rfl, by decide +kernel, rfl, rfl, rfl, by decide +kernel, by decide +kernel⟩
end
section
variable {X : Cx} {a b e e2 : Expr} {es : List Expr} {σ : L2.St} {H : Hp} {Q : VK} {D : Ends} {pos apos cpos p p2 : Pos} {Qt Qf : Hp → Prop}
/-- {e:sp} -/
theorem ev_fmtSp {spec : Expr} {sp : Str} {f : Builtin.Float.FormatSpec} (ok : FmtOk sp f) (q : EV X e σ H fun v H1 => EV X spec σ H1 fun r H2 => ∃ i : Int, v = .int i ∧ r = .str sp ∧ i.natAbs.log2 < 1920 ∧ (intSpecText f i).length ≤ sizeLine ∧ Q (.str (intSpecText f i)) H2) : EV X (.FormattedValue e (-1) (some spec) pos) σ H Q := by
  intro pins s I
  refine wpAny_FormattedValue_spec (thn (q pins s I) fun v s1 ⟨x, H1, I1, r1, q1⟩ => thn (q1 pins s1 I1) fun r s2 ⟨y, H2, I2, r2, i, ex, ey, hi, hz, q2⟩ => ?_)
  subst ex
  subst ey
  obtain ⟨t, rfl⟩ := r1
  obtain ⟨u, rfl⟩ := r2
  refine ⟨sp, u, rfl, ?_⟩
  exact wpAny_formatField_spec ok.ne (fun s' => typeIs_int s' i t) PySem.F.slot_int_format PySem.F.entry_int_format PySem.F.args_int_format_2 (fun w => gives_sp i t w hi ok) ⟨.str _, H2, I2.tok _, ⟨_, rfl⟩, q2⟩ ok.sz hz
/-- x * n, a text -/
theorem op_mulS : OpR X (binaryOp .Mult) (fun x y H Q => ∃ (z : Str) (n : Int), x = .str z ∧ y = .int n ∧ z.length ≤ 1 ∧ n ≤ 1000000 ∧ -1000000 ≤ n ∧ Q (.str (Txt.mul z n)) H) := by
  intro pins s σ H x y v u Q I rx ry h
  obtain ⟨z, n, rfl, rfl, hz, h1, h2, q⟩ := h
  obtain ⟨t, rfl⟩ := rx
  obtain ⟨t', rfl⟩ := ry
  exact SB.mul (PyProof.Rows.mulOk_of 1 1000000 hz (by omega) (by omega) (by decide) (by decide)) fun t' k => ⟨.str _, H, I.tok _, ⟨_, rfl⟩, q⟩
theorem ev_ixS (q : EV X a σ H fun x H1 => EV X b σ H1 fun y H2 => ∃ z i c, x = .str z ∧ y = .int i ∧ z.length ≤ sizeLine ∧ atI z.cps.toList i = some c ∧ Q (.str ⟨#[c]⟩) H2) (hs : PlainIx b := by intro _ _; rfl) : EV X (.Subscript a b pos) σ H Q := EV.of (pe_ix ix_str pe_ev pe_ev hs) q
/-- b[i], an item of bytes -/
theorem ix_byt : IxR X (fun x y H Q => ∃ (ns : List Int) (i : Nat) (n : Int), x = .byt (byteArr ns) ∧ y = .int (i : Nat) ∧ B8 ns ∧ ns.length ≤ 1000000 ∧ ns[i]? = some n ∧ Q (.int n) H) := by
  intro value slice pins s σ H x y v u Q I rx ry h hs
  obtain ⟨ns, i, n, rfl, rfl, h8, hl, he, q⟩ := h
  obtain ⟨t, rfl⟩ := rx
  obtain ⟨t', rfl⟩ := ry
  have hi := (List.getElem?_eq_some_iff.mp he).1
  have e1 : (byteArr ns)[i]? = some n.toNat.toUInt8 := by
    show ((ns.map fun n : Int => n.toNat.toUInt8).toArray)[i]? = _
    rw [List.getElem?_toArray, List.getElem?_map, he]
    rfl
  refine tail_any (PySem.W.typeIs_bytes s _ t) PySem.W.FB.slot_bytes_getitem.lookup (getItem_gives (PySem.W.typeIs_bytes s _ t) (by decide) PySem.W.FB.slot_bytes_getitem PySem.W.FB.entry_bytes_getitem (PySem.W.FB.args_bytes_getitem_2 _ _) (PySem.W.gives_bytes_getitem _ _ t t' n.toNat.toUInt8 ?_ ?_) ?_) hs
  · simp only [Builtin.Bytes.fitsIndex, Bool.and_eq_true, decide_eq_true_eq]
    omega
  · have hz : (byteArr ns).size = ns.length := byteArr_size _
    rw [hz, seqIndex_of (by omega) (by omega)]
    show (byteArr ns)[((i : Nat) : Int).toNat]? = _
    rw [Int.toNat_natCast]
    exact e1
  · have hn := h8 n (List.mem_of_getElem? he)
    have eb : (((n.toNat.toUInt8).toNat : Nat) : Int) = n := PySem.W.byte_back hn.1 hn.2
    rw [eb]
    exact ⟨.int n, H, I.tok _, ⟨_, rfl⟩, q⟩
theorem ev_ixB (q : EV X a σ H fun x H1 => EV X b σ H1 fun y H2 => ∃ (ns : List Int) (i : Nat) (n : Int), x = .byt (byteArr ns) ∧ y = .int (i : Nat) ∧ B8 ns ∧ ns.length ≤ 1000000 ∧ ns[i]? = some n ∧ Q (.int n) H2) (hs : PlainIx b := by intro _ _; rfl) : EV X (.Subscript a b pos) σ H Q := EV.of (pe_ix ix_byt pe_ev pe_ev hs) q
/-- x[:i], x[i:] of texts -/
theorem ev_uptoS (q : EV X e σ H fun x H1 => EV X a σ H1 fun y H2 => ∃ z i, x = .str z ∧ y = .int i ∧ z.length ≤ sizeLine ∧ Q (.str (cutS z none (some i))) H2) : EV X (.Subscript e (.Slice none (some a) none p2) pos) σ H Q :=
  EV.of (pe_slice sl_str pe_ev po_none (po_some pe_ev)) (EV.mono q fun x H1 q1 => EV.mono q1 fun y H2 ⟨z, i, ex, ey, hz, q⟩ => ⟨i, ey, z, ex, hz, q⟩)
theorem ev_fromS (q : EV X e σ H fun x H1 => EV X a σ H1 fun y H2 => ∃ z i, x = .str z ∧ y = .int i ∧ z.length ≤ sizeLine ∧ Q (.str (cutS z (some i) none)) H2) : EV X (.Subscript e (.Slice (some a) none none p2) pos) σ H Q :=
  EV.of (pe_slice sl_str pe_ev (po_some pe_ev) po_none) (EV.mono q fun x H1 q1 => EV.mono q1 fun y H2 ⟨z, i, ex, ey, hz, q⟩ => ⟨i, ey, z, ex, hz, q⟩)
/-- b[:i] of bytes -/
theorem ev_uptoB (q : EV X e σ H fun x H1 => EV X a σ H1 fun y H2 => ∃ (ns : List Int) (k : Nat), x = .byt (byteArr ns) ∧ y = .int (k : Nat) ∧ ns.length ≤ 1000000 ∧ k ≤ ns.length ∧ Q (.byt (byteArr (ns.take k))) H2) : EV X (.Subscript e (.Slice none (some a) none p2) pos) σ H Q :=
  EV.of (pe_slice sl_byt pe_ev po_none (po_some pe_ev)) (EV.mono q fun x H1 q1 => EV.mono q1 fun y H2 ⟨ns, k, ex, ey, hz, hk, q⟩ => ⟨k, ey, byteArr ns, ex, by rw [byteArr_size]; omega, by rw [byteArr_upto hk]; exact q⟩)
/-- x.split(y), x.join(l) -/
theorem ev_split {o : Expr} (q : EV X o σ H fun x H1 => ∃ z, x = .str z ∧ EV X e σ H1 fun y H2 => ∃ w, y = .str w ∧ (w.length == 0) = false ∧ z.length + 2 ≤ sizeLine ∧ ∀ H' D, Same H2 H' → H2 D = none → H' D = some (.lst ((Txt.split z w).map V.str)) → Q (.ref D) H')
    (hs : starEach [e] X.env = [(false, eval e X.env)] := by rfl) (hbase : attributeBase o "split" X.env (eval o X.env) = eval o X.env := by rfl) (hline : (apos.endLine == cpos.line) = true := by rfl) : EV X (.Call (.Attribute o "split" apos) [e] [] cpos) σ H Q := by
  intro pins s I
  refine (pe_split (pe_ev (X := X) (e := o)) (pe_ev (X := X) (e := e)) hs hbase hline).run pins s σ H Q I ?_
  exact EV.mono q fun x H1 ⟨z, ex, q1⟩ => ⟨⟨z, ex⟩, EV.mono q1 fun y H2 ⟨w, ey, hw, hz, q⟩ => ⟨z, w, ex, by rw [ey], hw, hz, fun D hD => q _ D (same_upd hD) hD upd_same⟩⟩
theorem ev_join {o : Expr} (q : EV X o σ H fun x H1 => ∃ z, x = .str z ∧ EV X e σ H1 fun y H2 => ∃ (p : Addr) (ys : List Str), y = .ref p ∧ SqL X.K H2 p (ys.map V.str) ∧ (ys.map (·.length)).sum + ys.length * z.length ≤ 16777216 ∧ Q (.str (Txt.join z ys)) H2)
    (hs : starEach [e] X.env = [(false, eval e X.env)] := by rfl) (hbase : attributeBase o "join" X.env (eval o X.env) = eval o X.env := by rfl) (hline : (apos.endLine == cpos.line) = true := by rfl) : EV X (.Call (.Attribute o "join" apos) [e] [] cpos) σ H Q := by
  intro pins s I
  refine (pe_join (pe_ev (X := X) (e := o)) (pe_ev (X := X) (e := e)) hs hbase hline).run pins s σ H Q I ?_
  exact EV.mono q fun x H1 ⟨z, ex, q1⟩ => ⟨⟨z, ex⟩, EV.mono q1 fun y H2 ⟨p, ys, ey, hp, hz, q⟩ => ⟨z, p, ys, ex, by rw [ey], .inl hp, hz, q⟩⟩
end
end Oil
set_option Elab.async false
set_option linter.all false
set_option maxRecDepth 100000
set_option maxHeartbeats 2000000
/-! Plain laws: numbers as texts, filled up, in groups of three. -/
namespace Oil
open PySem PySem.Spec PyProof.Rows L2 TL
/-- digits in groups of three -/
def grp (ds : List Nat) : List Nat := if h : ds.length ≤ 3 then ds else grp (ds.take (ds.length - 3)) ++ 44 :: ds.drop (ds.length - 3)
termination_by ds.length
decreasing_by
  rw [List.length_take]
  omega
theorem grp_small {ds : List Nat} (h : ds.length ≤ 3) : grp ds = ds := by
  rw [grp, dif_pos h]
theorem grp_step {ds : List Nat} (h : ¬ ds.length ≤ 3) : grp ds = grp (ds.take (ds.length - 3)) ++ 44 :: ds.drop (ds.length - 3) := by
  rw [grp, dif_neg h]
theorem grp_len : ∀ (k : Nat) (ds : List Nat), ds.length ≤ 3 * k + 3 → (grp ds).length ≤ ds.length + k
  | 0, ds, h => by rw [grp_small (by omega)]; omega
  | k + 1, ds, h => by
    by_cases h3 : ds.length ≤ 3
    · rw [grp_small h3]; omega
    · rw [grp_step h3]
      have := grp_len k (ds.take (ds.length - 3)) (by rw [List.length_take]; omega)
      rw [List.length_append, List.length_cons, List.length_drop]
      rw [List.length_take] at this
      omega
theorem grfr : ∀ (turns : Nat) (ds : List Nat) (room : Int) (out : List Nat), room ≤ 0 → ds ≠ [] → ds.length ≤ turns → groupsFromRight' 3 44 turns ds.reverse room out = grp ds ++ out
  | 0, ds, room, out, _, hne, hl => by
    cases ds with
    | nil => exact absurd rfl hne
    | cons => simp at hl
  | t + 1, ds, room, out, hr, hne, hl => by
    have hpos : 1 ≤ ds.length := by
      cases ds with
      | nil => exact absurd rfl hne
      | cons => simp
    have hn : min 3 (max (max ((ds.reverse.length : Nat) : Int) room) 1).toNat = min 3 ds.length := by
      rw [List.length_reverse]
      omega
    show (if ((ds.reverse.drop (min 3 (max (max ((ds.reverse.length : Nat) : Int) room) 1).toNat)).isEmpty && decide (room - ((min 3 (max (max ((ds.reverse.length : Nat) : Int) room) 1).toNat : Nat) : Int) ≤ 0)) = true then
        List.replicate (min 3 (max (max ((ds.reverse.length : Nat) : Int) room) 1).toNat - ds.reverse.length) 48 ++ (ds.reverse.take (min 3 (max (max ((ds.reverse.length : Nat) : Int) room) 1).toNat)).reverse ++ out
      else groupsFromRight' 3 44 t (ds.reverse.drop (min 3 (max (max ((ds.reverse.length : Nat) : Int) room) 1).toNat)) (room - ((min 3 (max (max ((ds.reverse.length : Nat) : Int) room) 1).toNat : Nat) : Int) - 1)
        (44 :: (List.replicate (min 3 (max (max ((ds.reverse.length : Nat) : Int) room) 1).toNat - ds.reverse.length) 48 ++ (ds.reverse.take (min 3 (max (max ((ds.reverse.length : Nat) : Int) room) 1).toNat)).reverse ++ out))) = _
    rw [hn]
    by_cases h3 : ds.length ≤ 3
    · have hm : min 3 ds.length = ds.length := Nat.min_eq_right h3
      rw [hm, grp_small h3, List.drop_of_length_le (by rw [List.length_reverse]; exact Nat.le_refl _), if_pos (by simp; omega), List.length_reverse, Nat.sub_self, List.replicate_zero, List.nil_append, List.take_of_length_le (by rw [List.length_reverse]; exact Nat.le_refl _), List.reverse_reverse]
    · have hm : min 3 ds.length = 3 := Nat.min_eq_left (by omega)
      rw [hm]
      have e1 : ds.reverse.drop 3 = (ds.take (ds.length - 3)).reverse := by rw [List.drop_reverse]
      have e2 : (ds.reverse.take 3).reverse = ds.drop (ds.length - 3) := by rw [List.take_reverse, List.reverse_reverse]
      have hne2 : ds.take (ds.length - 3) ≠ [] := fun z => by
        have := congrArg List.length z
        rw [List.length_take] at this
        simp only [List.length_nil] at this
        omega
      rw [if_neg (by
        rw [e1]
        intro z
        simp only [Bool.and_eq_true, List.isEmpty_iff, List.reverse_eq_nil_iff] at z
        exact hne2 z.1), e1, e2, show 3 - ds.reverse.length = 0 by rw [List.length_reverse]; omega, List.replicate_zero, List.nil_append, grfr t _ _ _ (by omega) hne2 (by rw [List.length_take]; omega), grp_step h3]
      simp
/-- a number filled up on the left -/
def padL (c w : Nat) (l : List Nat) : List Nat := List.replicate (w - l.length) c ++ l
theorem digs_eq (n : Nat) : ((Nat.toDigits 10 n).map fun c => (if (100 : Nat) == 88 then c.toUpper else c).toNat) = numL n := rfl
theorem fm_plain (w : Nat) (n : Nat) : tl (intSpecText { fill := 32, align := 62, width := some w } ((n : Nat) : Int)) = padL 32 w (numL n) := by
  unfold intSpecText
  rw [decide_eq_false (by omega), Int.natAbs_natCast, digs_eq]
  have hne : (numL n).isEmpty = false := by
    cases e : numL n with
    | nil => exact absurd e (numL_ne n)
    | cons => rfl
  unfold intField' padL
  simp only [hne, Bool.false_eq_true, if_false]
  show List.replicate _ 32 ++ [] ++ [] ++ List.replicate 0 32 ++ (List.replicate (Int.toNat 0 - (numL n).length) 48 ++ numL n) ++ [] ++ List.replicate 0 32 = _
  simp
theorem fm13_text (n : Nat) : tl (intSpecText fm13 ((n : Nat) : Int)) = padL 95 13 (grp (numL n)) := by
  unfold fm13 intSpecText
  rw [decide_eq_false (by omega), Int.natAbs_natCast, digs_eq]
  have hne : (numL n).isEmpty = false := by
    cases e : numL n with
    | nil => exact absurd e (numL_ne n)
    | cons => rfl
  have hg : groupsFromRight' 3 44 ((numL n).length + Int.toNat 0 + 1) (numL n).reverse 0 [] = grp (numL n) := by
    rw [grfr _ _ _ _ (Int.le_refl 0) (numL_ne n) (by omega), List.append_nil]
  unfold intField' padL
  simp only [hne, Bool.false_eq_true, if_false]
  show List.replicate _ 95 ++ [] ++ [] ++ List.replicate 0 95 ++ groupsFromRight' 3 44 ((numL n).length + Int.toNat 0 + 1) (numL n).reverse 0 [] ++ [] ++ List.replicate 0 95 = _
  rw [hg]
  simp
  have hg' : groupsFromRight' 3 44 ((numL n).length + 1) (numL n).reverse 0 [] = grp (numL n) := hg
  rw [hg']
end Oil
set_option Elab.async false
set_option linter.all false
set_option maxRecDepth 100000
set_option maxHeartbeats 2000000
/-! Comprehensions over enumerate(list) and over a text. -/
namespace Oil
open PySem PySem.Spec PyProof.Rows L2 TL
section
variable {X : Cx} {tg e elt : Expr} {scope : Scope} {own : List (Str × Nat)} {σ : L2.St} {H : Hp} {Q : VK} {pos p p2 : Pos}
/-- turns by number, whatever is walked -/
theorem lc_turns {J : It} {n : Nat} {H1 : Hp} {D : Addr} {Qd : Hp → Prop} (Pv : Nat → Hp → Prop) (h0 : Pv 0 (upd H1 D (.lst []))) (stop : ∀ H, Pv n H → J.stop n H) (go : ∀ i H, i < n → Pv i H → J.go i H)
    (hs : ∀ i x H H', i < n → Pv i H → J.yld i H x H' → LcT X scope own tg elt σ D x H' (Pv (i + 1))) (hd : ∀ H, Pv n H → Qd H) :
    ∃ W : Nat → Nat → Hp → Prop, (∃ m, W 0 m (upd H1 D (.lst []))) ∧ ∀ i m H, W i m H →
      (J.stop i H ∧ Qd H) ∨ (J.go i H ∧ ∃ Nx : Hp → Prop, (∀ H', Nx H' → ∃ m', m' < m ∧ W (i + 1) m' H') ∧ ∀ x H', J.yld i H x H' → (blkG X scope tg) x (wipe σ (own.map (·.2))) H' fun σ2 H2 => wipe σ2 (own.map (·.2)) = wipe σ (own.map (·.2)) ∧ tYes σ2 H2 fun b H3 =>
        if b = true then (blkE X scope elt) σ2 H3 fun y H4 => ∃ acc, H4 D = some (.lst acc) ∧ acc.length < sizeLine ∧ Nx (upd H4 D (.lst (acc ++ [y]))) else Nx H3) := by
  refine ⟨fun i m H => m = n - i ∧ i ≤ n ∧ Pv i H, ⟨n, by simp, Nat.zero_le _, h0⟩, ?_⟩
  rintro i m H ⟨rfl, hi, p⟩
  by_cases hlt : i < n
  · exact .inr ⟨go i H hlt p, Pv (i + 1), fun H' p' => ⟨n - (i + 1), by omega, rfl, hlt, p'⟩, fun x H' y => lc_one (hs i x H H' hlt p y)⟩
  · have e : i = n := by omega
    subst e
    exact .inl ⟨stop H p, hd H p⟩
/-- [elt for i, x in enumerate(l)] -/
def LcE (X : Cx) (scope : Scope) (own : List (Str × Nat)) (tg elt : Expr) (σ : L2.St) (Q : VK) (a : Addr) (xs : List V) (H1 : Hp) : Prop :=
  ∀ D, H1 D = none → ∃ Pv : Nat → Hp → Prop, Pv 0 (upd H1 D (.lst [])) ∧ (∀ i H, i ≤ xs.length → Pv i H → SqL X.K H a xs) ∧ (∀ i x H T, xs[i]? = some x → Pv i H → H T = none → LcT X scope own tg elt σ D (.ref T) (upd H T (.tup [.int (i : Nat), x])) (Pv (i + 1))) ∧ ∀ H, Pv xs.length H → Q (.ref D) H
theorem ev_lcE {elts : List Expr} {kk : Nat} {tpos : Pos} (own : List (Str × Nat)) (hc : X.calm = true) (hN : X.N.Nodup) (hm : X.mg "enumerate" = none) (q : EV X e σ H fun x H1 => ∃ a xs, x = .ref a ∧ SqL X.K H1 a xs ∧ LcE X scope own (.Tuple elts kk tpos) elt σ Q a xs H1)
    (hg : Gl X "enumerate" := by rfl) (h1 : starEach [e] X.env = (false, eval e X.env) :: starEach [] X.env := by rfl) (hst : starEach [e] X.env = [(false, eval e X.env)] := by rfl)
    (ok : BlkOk X.N X.env.scope scope own := by exact blkOk_by (by kernel_rfl)) (hs : ∀ x, foldedSetIterable (.Call (.Name "enumerate" p) [e] [] p2) X.env x = pure x := by intro _; rfl) : EV X (.ListComp elt [⟨.Tuple elts kk tpos, .Call (.Name "enumerate" p) [e] [] p2, [], 0⟩] scope pos) σ H Q := by
  refine EV.of (pe_lc hc hN (pi_enum hg hm (pa_cons pe_ev pa_nil h1) hst) ok blk_pg blk_pts blk_pe hs) ?_
  refine EV.mono q fun x H1 ⟨a, xs, ex, hl, hD⟩ => ⟨a, xs, by rw [ex], hl, fun D hn => ?_⟩
  obtain ⟨Pv, h0, hk, ht, hd⟩ := hD D hn
  refine lc_turns (n := xs.length) Pv h0 (fun H p => ⟨xs, hk _ H (Nat.le_refl _) p, Nat.le_refl _⟩) (fun i H hi p => ⟨xs, xs[i], hk i H (Nat.le_of_lt hi) p, by simp [hi]⟩) (fun i x H H' hi p y => ?_) hd
  obtain ⟨T, z, rfl, hT, rfl, hx⟩ := y
  exact ht i z H T (hx xs (hk i H (Nat.le_of_lt hi) p)) p hT
theorem sv_lcE {elts : List Expr} {kk : Nat} {tpos : Pos} {y : Str} {py cpos : Pos} {D0 : Ends} (i0 : Nat) (own : List (Str × Nat)) (hc : X.calm = true) (hN : X.N.Nodup) (hm : X.mg "enumerate" = none) (q : EV X e σ H fun x H1 => ∃ a xs, x = .ref a ∧ SqL X.K H1 a xs ∧ LcE X scope own (.Tuple elts kk tpos) elt σ (fun v H1 => D0.nx (σ.set i0 (some v)) H1) a xs H1)
    (hy : X.N[i0]? = some y := by rfl) (hyl : X.env.scope.names.lookup y = some .local := by rfl) (hsw : swapsWith (.ListComp elt [⟨.Tuple elts kk tpos, .Call (.Name "enumerate" p) [e] [] p2, [], 0⟩] scope cpos) (some (.Name y py)) pos.line X.env = pure true := by exact sw_true rfl rfl (by decide +kernel) (by decide +kernel))
    (hg : Gl X "enumerate" := by rfl) (h1 : starEach [e] X.env = (false, eval e X.env) :: starEach [] X.env := by rfl) (hst : starEach [e] X.env = [(false, eval e X.env)] := by rfl)
    (ok : BlkOk X.N X.env.scope scope own := by exact blkOk_by (by kernel_rfl)) (hs : ∀ x, foldedSetIterable (.Call (.Name "enumerate" p) [e] [] p2) X.env x = pure x := by intro _; rfl) : SV X (.Assign [.Name y py] (.ListComp elt [⟨.Tuple elts kk tpos, .Call (.Name "enumerate" p) [e] [] p2, [], 0⟩] scope cpos) pos) σ H D0 := by
  refine SV.of (ps_setLc hc hN hy hyl hsw (pi_enum hg hm (pa_cons pe_ev pa_nil h1) hst) ok blk_pg blk_pts blk_pe hs) ?_
  refine EV.mono q fun x H1 ⟨a, xs, ex, hl, hD⟩ => ⟨a, xs, by rw [ex], hl, fun D hn => ?_⟩
  obtain ⟨Pv, h0, hk, ht, hd⟩ := hD D hn
  refine lc_turns (n := xs.length) Pv h0 (fun H p => ⟨xs, hk _ H (Nat.le_refl _) p, Nat.le_refl _⟩) (fun i H hi p => ⟨xs, xs[i], hk i H (Nat.le_of_lt hi) p, by simp [hi]⟩) (fun i x H H' hi p y => ?_) hd
  obtain ⟨T, z, rfl, hT, rfl, hx⟩ := y
  exact ht i z H T (hx xs (hk i H (Nat.le_of_lt hi) p)) p hT
/-- [elt for c in text] -/
def LcS (X : Cx) (scope : Scope) (own : List (Str × Nat)) (tg elt : Expr) (σ : L2.St) (Q : VK) (z : Str) (H1 : Hp) : Prop :=
  ∀ D, H1 D = none → ∃ Pv : Nat → Hp → Prop, Pv 0 (upd H1 D (.lst [])) ∧ (∀ i c H, (tl z)[i]? = some c → Pv i H → LcT X scope own tg elt σ D (.str ⟨#[c]⟩) H (Pv (i + 1))) ∧ ∀ H, Pv (tl z).length H → Q (.ref D) H
theorem ev_lcS (own : List (Str × Nat)) (hc : X.calm = true) (hN : X.N.Nodup) (q : EV X e σ H fun x H1 => ∃ z, x = .str z ∧ LcS X scope own tg elt σ Q z H1)
    (ok : BlkOk X.N X.env.scope scope own := by exact blkOk_by (by kernel_rfl)) (hs : ∀ x, foldedSetIterable e X.env x = pure x := by intro _; rfl) : EV X (.ListComp elt [⟨tg, e, [], 0⟩] scope pos) σ H Q := by
  refine EV.of (pe_lc hc hN (pi_str pe_ev) ok blk_pg blk_pts blk_pe hs) ?_
  refine EV.mono q fun x H1 ⟨z, ex, hD⟩ => ⟨z, ex, fun D hn => ?_⟩
  obtain ⟨Pv, h0, ht, hd⟩ := hD D hn
  have hz : (tl z).length = z.cps.size := by simp [tl]
  refine lc_turns (n := (tl z).length) Pv h0 (fun H p => by show z.cps.size ≤ (tl z).length; omega) (fun i H hi p => by show i < z.cps.size; omega) (fun i x H H' hi p y => ?_) hd
  obtain ⟨rfl, c, hc2, rfl⟩ := y
  exact ht i c _ (by rw [← hc2]; simp [tl]) p
end
end Oil
set_option Elab.async false
set_option linter.all false
set_option maxRecDepth 100000
set_option maxHeartbeats 2000000
/-! Plain laws: ways as text; comprehensions that make texts. -/
namespace Oil
open PySem PySem.Spec PyProof.Rows L2 TL
/-- a number as a text -/
def tNum (i : Int) : Str := Str.ofString (toString i)
theorem tl_tNum {i : Int} (h : 0 ≤ i) : tl (tNum i) = numL i.toNat := by
  obtain ⟨n, rfl⟩ : ∃ n : Nat, i = n := ⟨i.toNat, by omega⟩
  rw [Int.toNat_natCast]
  exact tl_num n
theorem tNum_len {i : Int} (h : 0 ≤ i) (h2 : i < 10000000000) : (tNum i).length ≤ 10 ∧ 1 ≤ (tNum i).length := by
  rw [len_tl, tl_tNum h]
  refine ⟨numL_len (by decide) (by omega), ?_⟩
  have := numL_ne i.toNat
  cases e : numL i.toNat with
  | nil => exact absurd e this
  | cons => simp
theorem numL_len10 {n : Nat} (h : n < 10000000000) : (numL n).length ≤ 10 := numL_len (by decide) h
theorem numL_head : ∀ n : Nat, 1 ≤ n → ∃ c r, numL n = c :: r ∧ c ≠ 48 := by
  intro n
  induction n using Nat.strongRecOn with
  | ind n ih =>
    intro h
    by_cases h10 : n < 10
    · exact ⟨48 + n, [], numL_lt h10, by omega⟩
    · obtain ⟨c, r, e, hc⟩ := ih (n / 10) (by omega) (by omega)
      exact ⟨c, r ++ [48 + n % 10], by rw [numL_step (by omega), e]; rfl, hc⟩
theorem digit_in {c : Nat} (h1 : 48 ≤ c) (h2 : c ≤ 57) : c ∈ ("0123456789" : Str).cps.toList := by
  have e : ("0123456789" : Str).cps.toList = [48, 49, 50, 51, 52, 53, 54, 55, 56, 57] := by decide +kernel
  rw [e]
  simp only [List.mem_cons, List.not_mem_nil, or_false]
  omega
def lantS : Str := "lantern"
def postS : Str := "post"
def txSp : Str := " "
def nlS : Str := "\n"
/-- the rows of a way's text -/
def rowLan (w : Wy) : List Nat := tl lantS ++ 32 :: numL w.cap.toNat
def rowPost (p : Int × Int) : List Nat := tl postS ++ 32 :: (numL p.1.toNat ++ 32 :: numL p.2.toNat)
def wyL (w : Wy) : List Nat := joinL [10] (rowLan w :: w.posts.map rowPost)
theorem tl_spS : tl txSp = [32] := by decide +kernel
theorem tl_nlS : tl nlS = [10] := by decide +kernel
theorem rowPost_len {p : Int × Int} (h : okP p) : (rowPost p).length ≤ 30 := by
  obtain ⟨a, b, c, d⟩ := h
  have h1 := numL_len10 (n := p.1.toNat) (by omega)
  have h2 := numL_len10 (n := p.2.toNat) (by omega)
  have e : (tl postS).length = 4 := by decide +kernel
  unfold rowPost
  simp only [List.length_append, List.length_cons, e]
  omega
theorem rowLan_len {w : Wy} (h : w.ok) : (rowLan w).length ≤ 30 := by
  have := h.c1
  have := h.c2
  have h1 := numL_len10 (n := w.cap.toNat) (by omega)
  have e : (tl lantS).length = 7 := by decide +kernel
  unfold rowLan
  simp only [List.length_append, List.length_cons, e]
  omega
theorem sum_le {l : List Nat} {k : Nat} (h : ∀ x ∈ l, x ≤ k) : l.sum ≤ l.length * k := by
  induction l with
  | nil => simp
  | cons a l ih =>
    have h1 := h a List.mem_cons_self
    have h2 := ih fun x hx => h x (List.mem_cons_of_mem _ hx)
    rw [List.sum_cons, List.length_cons, Nat.succ_mul]
    omega
/-- texts by their signs -/
theorem strs_len {ys : List Str} {ls : List (List Nat)} {k : Nat} (e : ys.map tl = ls) (h : ∀ l ∈ ls, l.length ≤ k) : (ys.map (·.length)).sum ≤ ys.length * k := by
  have := sum_le (l := ys.map (·.length)) (k := k) fun x hx => by
    obtain ⟨y, hy, rfl⟩ := List.mem_map.mp hx
    rw [len_tl]
    exact h _ (by rw [← e]; exact List.mem_map.mpr ⟨y, hy, rfl⟩)
  rw [List.length_map] at this
  exact this
theorem paired_strs {α : Type} {f : α → List Nat} : ∀ {vs : List V} {ps : List α}, Paired (fun v p => ∃ z : Str, v = .str z ∧ tl z = f p) vs ps → ∃ ys : List Str, vs = ys.map V.str ∧ ys.map tl = ps.map f
  | _, _, .nil => ⟨[], rfl, rfl⟩
  | _, _, .cons ⟨z, e, h⟩ t => by
    obtain ⟨ys, e1, e2⟩ := paired_strs t
    exact ⟨z :: ys, by rw [e, e1]; rfl, by rw [List.map_cons, List.map_cons, h, e2]⟩
theorem tl_joinT (y : Str) (ys : List Str) : tl (Txt.join y ys) = joinL (tl y) (ys.map tl) := by rw [join_eq, tl_join]
/-- [elt for a, b in posts], by what is told of each -/
theorem lc_prsG {X : Cx} {tg elt : Expr} {scope : Scope} {own : List (Str × Nat)} {σ : L2.St} {Q : VK} {vs : List V} {ps : List (Int × Int)} {H1 : Hp} {K0 : Hp → Prop} (m1 m2 : Nat) (φ : Int × Int → V → Prop) (hps : AreP H1 vs ps) (hn : ps.length ≤ 1000) (hK : ∀ H', Same H1 H' → K0 H')
    (hg : ∀ Y, IsBlk X scope Y → ∀ (p : Int × Int) (a : Addr) (σ : L2.St) (H : Hp) (R : L2.St → Hp → Prop), H a = some (.tup [.int p.1, .int p.2]) → R ((σ.set m1 (some (.int p.1))).set m2 (some (.int p.2))) H → GV Y tg (.ref a) σ H R)
    (he : ∀ Y, IsBlk X scope Y → ∀ (p : Int × Int) (H' : Hp) (R : VK), p ∈ ps → Same H1 H' → (∀ v H2, Same H' H2 → φ p v → R v H2) → EV Y elt (((wipe σ (own.map (·.2))).set m1 (some (.int p.1))).set m2 (some (.int p.2))) H' R)
    (q : ∀ H' D ws, Same H1 H' → H1 D = none → H' D = some (.lst ws) → Paired (fun v p => φ p v) ws ps → Q (.ref D) H')
    (hw : ∀ v u : V, wipe (((wipe σ (own.map (·.2))).set m1 (some v)).set m2 (some u)) (own.map (·.2)) = wipe σ (own.map (·.2)) := by intro _ _; rfl) : LcL X scope own tg elt σ Q vs K0 H1 := by
  intro D zD
  have hl := AreP.len hps
  refine ⟨fun i H' => Same H1 H' ∧ ∃ ws, H' D = some (.lst ws) ∧ ws.length = i ∧ Paired (fun v p => φ p v) ws (ps.take i), ⟨same_upd' (Same.refl _) zD, [], upd_same, rfl, by rw [List.take_zero]; exact .nil⟩, fun i H' _ hp => hK _ hp.1, fun i x H' hx hp => ?_, fun H' hp => ?_⟩
  · obtain ⟨S, ws, hD, hwl, pw⟩ := hp
    have hi : i < ps.length := by rw [← hl]; exact (List.getElem?_eq_some_iff.mp hx).1
    obtain ⟨u, e1, hpr⟩ := AreP.get hps (p := ps[i]) (List.getElem?_eq_getElem hi)
    rw [hx] at e1
    cases e1
    obtain ⟨pa, rfl, hpa⟩ := hpr
    intro Y hY
    refine hg Y hY ps[i] pa _ _ _ (S _ _ hpa) ⟨hw _ _, fun Y2 hY2 => he Y2 hY2 ps[i] _ _ (List.getElem_mem hi) S fun v H2 S2 hv => ⟨ws, S2 _ _ hD, by rw [sizeLine_eq]; omega, same_upd' (Same.trans S S2) zD, ws ++ [v], upd_same, by rw [List.length_append, hwl]; rfl, ?_⟩⟩
    rw [List.take_succ, List.getElem?_eq_getElem hi]
    exact paired_app pw (.cons hv .nil)
  · obtain ⟨S, ws, hD, hwl, pw⟩ := hp
    rw [hl, List.take_length] at pw
    exact q H' D ws S zD hD pw
/-! ### logs -/
theorem fm3_tl (n : Nat) : tl (intSpecText fm3 ((n : Nat) : Int)) = padL 32 3 (numL n) := fm_plain 3 n
theorem fm2_tl (n : Nat) : tl (intSpecText fm2 ((n : Nat) : Int)) = padL 32 2 (numL n) := fm_plain 2 n
theorem padL_len (c w : Nat) (l : List Nat) : (padL c w l).length ≤ w + l.length := by
  unfold padL
  rw [List.length_append, List.length_replicate]
  omega
theorem fm3_len {n : Nat} (h : n < 10000000000) : (intSpecText fm3 ((n : Nat) : Int)).length ≤ 40 := by
  rw [len_tl, fm3_tl]
  have := padL_len 32 3 (numL n)
  have := numL_len10 h
  omega
theorem fm2_len {n : Nat} (h : n < 10000000000) : (intSpecText fm2 ((n : Nat) : Int)).length ≤ 40 := by
  rw [len_tl, fm2_tl]
  have := padL_len 32 2 (numL n)
  have := numL_len10 h
  omega
theorem grp_len10 {n : Nat} (h : n < 10000000000) : (grp (numL n)).length ≤ 13 := by
  have h1 := numL_len10 h
  have := grp_len 3 (numL n) (by omega)
  omega
theorem fm13_len {n : Nat} (h : n < 10000000000) : (intSpecText fm13 ((n : Nat) : Int)).length ≤ 40 := by
  rw [len_tl, fm13_text]
  have := padL_len 95 13 (grp (numL n))
  have := grp_len10 h
  omega
/-- a row of a log -/
def logRow (k pl : Nat) (h : Int) : List Nat := padL 32 3 (numL k) ++ 32 :: (padL 32 2 (numL pl) ++ 32 :: padL 95 13 (grp (numL h.toNat)))
def logOut (k : Nat) (f : Int) : List Nat := padL 32 3 (numL k) ++ 32 :: 45 :: 45 :: 32 :: padL 95 13 (grp (numL f.toNat))
def logBase (w : Wy) (i : Nat) (o : Int) (xs : List Int) : List (List Nat) := logRow 0 i o :: (List.range xs.length).map fun j => logRow (j + 1) ((i + j + 1) % w.posts.length) (xs.getD j 0)
/-- the rows of the log of a walk -/
def LogR (w : Wy) (i : Nat) (o : Int) (n : Nat) (rs : List (List Nat)) : Prop := ∃ xs : List Int, (∀ j, j < xs.length → w.walk i o (j + 1) = xs[j]?) ∧
  ((xs.length = n ∧ rs = logBase w i o xs) ∨ (xs.length < n ∧ ∃ u, w.walk i o xs.length = some u ∧ w.walk i o (xs.length + 1) = none ∧ rs = logBase w i o xs ++ [logOut (xs.length + 1) (min w.cap (u + (w.at (i + xs.length)).1))]))
theorem walk_at_len {w : Wy} {i : Nat} {o : Int} {xs : List Int} (h : ∀ j, j < xs.length → w.walk i o (j + 1) = xs[j]?) {m : Nat} (hm : m ≤ xs.length) : ∃ u, w.walk i o m = some u := by
  cases m with
  | zero => exact ⟨o, rfl⟩
  | succ m => exact ⟨xs[m], by rw [h m (by omega), List.getElem?_eq_getElem (by omega)]⟩
theorem logR_det {w : Wy} {i : Nat} {o : Int} {n : Nat} {rs rs' : List (List Nat)} (h : LogR w i o n rs) (h' : LogR w i o n rs') : rs = rs' := by
  obtain ⟨xs, hx, h⟩ := h
  obtain ⟨ys, hy, h'⟩ := h'
  have key : ∀ {a b : List Int}, (∀ j, j < a.length → w.walk i o (j + 1) = a[j]?) → (∀ j, j < b.length → w.walk i o (j + 1) = b[j]?) → w.walk i o (a.length + 1) = none → ¬ a.length < b.length := fun ha hb hn hlt => by
    obtain ⟨u, hu⟩ := walk_at_len hb (m := _) hlt
    rw [hn] at hu
    cases hu
  rcases h with ⟨h1, rfl⟩ | ⟨h1, u, h2, h3, rfl⟩
  · rcases h' with ⟨h1', rfl⟩ | ⟨h1', u', h2', h3', rfl⟩
    · rw [walk_list_det (by omega) hx hy]
    · exact absurd (show ys.length < xs.length by omega) (key hy hx h3')
  · rcases h' with ⟨h1', rfl⟩ | ⟨h1', u', h2', h3', rfl⟩
    · exact absurd (show xs.length < ys.length by omega) (key hx hy h3)
    · have e : xs.length = ys.length := by
        have a := key hx hy h3
        have b := key hy hx h3'
        omega
      have exy := walk_list_det e hx hy
      subst exy
      rw [h2] at h2'
      rw [Option.some.inj h2']
theorem logRow_len {k pl : Nat} {h : Int} (hk : k < 10000000000) (hp : pl < 10000000000) (hh : h < 10000000000) : (logRow k pl h).length ≤ 100 := by
  have h1 := padL_len 32 3 (numL k)
  have h2 := padL_len 32 2 (numL pl)
  have h3 := padL_len 95 13 (grp (numL h.toNat))
  have a := numL_len10 hk
  have b := numL_len10 hp
  have c := grp_len10 (n := h.toNat) (by omega)
  unfold logRow
  simp only [List.length_append, List.length_cons]
  omega
theorem logOut_len {k : Nat} {h : Int} (hk : k < 10000000000) (hh : h < 10000000000) : (logOut k h).length ≤ 100 := by
  have h1 := padL_len 32 3 (numL k)
  have h3 := padL_len 95 13 (grp (numL h.toNat))
  have a := numL_len10 hk
  have c := grp_len10 (n := h.toNat) (by omega)
  unfold logOut
  simp only [List.length_append, List.length_cons]
  omega
end Oil
set_option Elab.async false
set_option linter.all false
set_option maxRecDepth 100000
set_option maxHeartbeats 2000000
/-! Bytes: to_bytes, list(b), extend, bytes(l), len(b), o.f += e; the plain law of a way's bytes. -/
namespace Oil
open PySem PySem.Spec PyProof.Rows L2
section
variable {X : Cx} {a b e e1 e2 : Expr} {es : List Expr} {σ : L2.St} {H : Hp} {Q : VK} {D : Ends} {pos apos cpos p p2 : Pos}
/-- the four bytes of a number, the greatest first -/
def be4 (n : Int) : List Int := [n / 256 / 256 / 256 % 256, n / 256 / 256 % 256, n / 256 % 256, n % 256]
theorem be4_eq (n : Int) : (PySem.W.KTBy.little 4 n).reverse = be4 n := rfl
theorem be4_B8 (n : Int) : B8 (be4 n) := by
  rw [← be4_eq]
  exact (little_B8 4 n).rev
theorem be4_len (n : Int) : (be4 n).length = 4 := rfl
theorem be4_back {n : Int} (h0 : 0 ≤ n) (h1 : n < 4294967296) : (((0 * 256 + n / 256 / 256 / 256 % 256) * 256 + n / 256 / 256 % 256) * 256 + n / 256 % 256) * 256 + n % 256 = n := by omega
/-- n.to_bytes(4, "big") -/
theorem ev_toBig4 {o : Expr} (q : EV X o σ H fun x H1 => ∃ n : Int, x = .int n ∧ 0 ≤ n ∧ n < 4294967296 ∧ EV X e1 σ H1 fun y H2 => EV X e2 σ H2 fun z H3 => y = .int 4 ∧ z = .str "big" ∧ Q (.byt (byteArr (be4 n))) H3)
    (hbase : attributeBase o "to_bytes" X.env (eval o X.env) = eval o X.env := by rfl)
    (hfew : ((backTo cpos (starEach [e1, e2] X.env)).all (fun x => !x.1) && (backToKw cpos (keywordEach [] X.env)).all (fun x => x.1.isSome) && decide ([e1, e2].length + ([] : List Keyword).length + (if ([] : List Keyword).isEmpty then 0 else 1) < 30)) = true := by rfl)
    (hline : (apos.endLine == cpos.line) = true := by rfl) (hs : starEach [e1, e2] X.env = (false, eval e1 X.env) :: starEach [e2] X.env := by rfl) (hs2 : starEach [e2] X.env = (false, eval e2 X.env) :: starEach [] X.env := by rfl) (hpl : (backTo cpos (starEach [e2] X.env)).any (·.1) = false := by rfl) :
    EV X (.Call (.Attribute o "to_bytes" apos) [e1, e2] [] cpos) σ H Q := by
  intro pins s I
  refine (pe_toBig (pe_ev (X := X) (e := o)) (pe_ev (X := X) (e := e1)) (pe_ev (X := X) (e := e2)) hbase hfew hline hs hs2 hpl).run pins s σ H Q I ?_
  exact EV.mono q fun x H1 ⟨n, ex, h0, h1, q⟩ => ⟨by rw [ex]; rfl, EV.mono q fun y H2 q => EV.mono q fun z H3 ⟨ey, ez, q⟩ => ⟨n, 4, ex, by rw [ey, ez]; rfl, by decide, h0, h1, q⟩⟩
/-- list(b) -/
theorem ev_listB (hc : X.calm = true) (hm : X.mg "list" = none) (q : EV X e σ H fun x H1 => ∃ ns, x = .byt (byteArr ns) ∧ B8 ns ∧ ns.length ≤ 1000000 ∧ ∀ D H2, Same H1 H2 → H1 D = none → H2 D = some (.lst (ns.map V.int)) → Q (.ref D) H2) (hg : Gl X "list" := by rfl)
    (na : starEach [e] X.env = (false, eval e X.env) :: starEach [] X.env := by rfl) : EV X (.Call (.Name "list" p) [e] [] pos) σ H Q :=
  EV.of (pe_listOfB hc hg hm pe_ev na) (EV.mono q fun x H1 ⟨ns, ex, h8, hz, q⟩ => ⟨byteArr ns, ex, by rw [byteArr_size, sizeLine_eq]; omega, fun D z => q D _ (same_upd z) z (by rw [upd_same, show bi (byteArr ns) = ns from bInts_of h8])⟩)
/-- xs.extend(e) -/
theorem ev_extend {o : Expr} (q : EV X o σ H fun x H1 => ∃ l, x = .ref l ∧ (∃ ys, SqL X.K H1 l ys) ∧ EV X e σ H1 fun y H2 => ∃ b xs zs, y = .ref b ∧ H2 l = some (.lst xs) ∧ H2 b = some (.lst zs) ∧ xs.length + zs.length ≤ sizeLine ∧ Q .non (upd H2 l (.lst (xs ++ zs))))
    (hbase : attributeBase o "extend" X.env (eval o X.env) = eval o X.env := by rfl)
    (hfew : ((backTo cpos (starEach [e] X.env)).all (fun x => !x.1) && (backToKw cpos (keywordEach [] X.env)).all (fun x => x.1.isSome)
      && decide (([e] : List Expr).length + ([] : List Keyword).length + (if ([] : List Keyword).isEmpty then 0 else 1) < 30)) = true := by rfl)
    (hline : (apos.endLine == cpos.line) = true := by rfl) (hs : starEach [e] X.env = (false, eval e X.env) :: starEach [] X.env := by rfl) (hplain : (backTo cpos (starEach [] X.env)).any (·.1) = false := by rfl) :
    EV X (.Call (.Attribute o "extend" apos) [e] [] cpos) σ H Q := by
  intro pins s I
  refine (pe_bm (r := rExtend) (to := fun σ H Q => EV X o σ H Q) F.plainAttrs_list F.slot_list_extend F.type_list_extend mt_extend pe_ev (pa_cons pe_ev pa_nil hs) hbase hfew hline hs hplain).run pins s σ H Q I ?_
  refine EV.mono q fun x H1 ⟨l, ex, hl, q⟩ => ⟨by rw [ex]; exact .inl ⟨rfl, hl⟩, EV.mono q fun y H2 ⟨b, xs, zs, ey, h1, h2, h3, q⟩ => ⟨l, b, xs, zs, ex, by rw [ey], h1, h2, h3, q⟩⟩
/-- bytes(l) -/
theorem ev_bytesL (hc : X.calm = true) (hm : X.mg "bytes" = none) (q : EV X e σ H fun x H1 => ∃ p ns, x = .ref p ∧ SqL X.K H1 p (ns.map V.int) ∧ B8 ns ∧ Q (.byt (byteArr ns)) H1) (hg : Gl X "bytes" := by rfl)
    (he : starEach [e] X.env = (false, eval e X.env) :: starEach [] X.env := by rfl) (hpl : (backTo pos (starEach [] X.env)).any (·.1) = false := by rfl) : EV X (.Call (.Name "bytes" p) [e] [] pos) σ H Q :=
  ev_callT (call_bytes_list hc) hm (av_cons (EV.mono q fun x H1 ⟨p, ns, ex, h, h8, q⟩ => av_nil ⟨p, ns, by rw [ex], h, h8, q⟩) he) (hg := hg) (he := he) (hpl := hpl)
/-- len(b) -/
theorem ev_lenBy (hc : X.calm = true) (hm : X.mg "len" = none) (q : EV X e σ H fun x H1 => ∃ ns, x = .byt (byteArr ns) ∧ ns.length ≤ 1000000 ∧ Q (.int (ns.length : Nat)) H1) (hg : Gl X "len" := by rfl)
    (he : starEach [e] X.env = (false, eval e X.env) :: starEach [] X.env := by rfl) (hpl : (backTo pos (starEach [] X.env)).any (·.1) = false := by rfl) : EV X (.Call (.Name "len" p) [e] [] pos) σ H Q :=
  ev_callB hc call_len hm (av_cons (EV.mono q fun x H1 ⟨ns, ex, hz, h⟩ => av_nil ⟨x, ns.length, rfl, by rw [ex]; exact ⟨by rw [byteArr_size, sizeLine_eq]; omega, by rw [byteArr_size]⟩, h⟩) he) (hg := hg) (he := he) (hpl := hpl)
/-- o.f += e, a number -/
theorem sv_fldadd {g : Str} {o : Expr} {tpos : Pos} (q : EV X o σ H fun x H1 => ∃ a CC dx fs, ∃ i : Int, x = .ref a ∧ H1 a = some (.ins CC dx fs) ∧ Cls X.K CC ∧ NoAttr X.K CC g ∧ fs.lookup g = some (.int i) ∧ EV X e σ H1 fun y H2 => ∃ (j : Int) (dx' : Addr) (fs' : List (Str × V)), y = .int j ∧ H2 a = some (.ins CC dx' fs') ∧ fs'.length < 1000 ∧ D.nx σ (upd H2 a (.ins CC dx' (putF g (.int (i + j)) fs')))) :
    SV X (.AugAssign (.Attribute o g tpos) .Add e pos) σ H D :=
  SV.of (ps_fldaug pe_ev pe_ev in_add) (EV.mono q fun x H1 ⟨a, CC, dx, fs, i, ex, ha, c, n, l, q⟩ => ⟨a, CC, dx, fs, .int i, ex, ha, c, n, l, EV.mono q fun y H2 ⟨j, dx', fs', ey, h2, hl, q⟩ => ⟨i, j, rfl, ey, dx', fs', h2, hl, q⟩⟩)
end
end Oil
set_option Elab.async false
set_option linter.all false
set_option maxRecDepth 100000
set_option maxHeartbeats 2000000
namespace OilLaw
open PySem PySem.Spec PyProof.Rows L2 Oil
def neqF (x y : Str) : Fact := fun K => !decide (He.ga K x = He.ga K y)
theorem neq_ok {K : PySem.W.Frag} {x y : Str} (h : neqF x y K = true) : He.ga K x ≠ He.ga K y := by
  unfold neqF at h
  simpa using h
def top (i : Nat) : Stmt := PySem.Challenge.pw_oilwalk_k59_whole_logs_and_stored_ways.main.body.getD i (.Pass ⟨0, 0, 0, 0⟩)
abbrev s__wall : Stmt := top 0
abbrev s_is_whole : Stmt := top 11
abbrev s_is_integer : Stmt := top 12
abbrev s_check_number : Stmt := top 13
abbrev s_parts_of : Stmt := top 15
abbrev s_joined : Stmt := top 16
abbrev s_repeated : Stmt := top 17
abbrev s_is_post : Stmt := top 22
abbrev s_check_start : Stmt := top 25
abbrev s_one_leg : Stmt := top 27
abbrev s_is_numeral : Stmt := top 34
abbrev s_format_way : Stmt := top 35
abbrev s_numbers_of : Stmt := top 36
abbrev s_parse_way : Stmt := top 37
abbrev s_log_text : Stmt := top 38
abbrev s_checksum_of : Stmt := top 45
abbrev s_encode_way : Stmt := top 46
abbrev s_decode_way : Stmt := top 48
abbrev s__law_taken : Stmt := top 50
abbrev s__law_posts : Stmt := top 51
abbrev s__law_capacity : Stmt := top 52
abbrev s__law_way : Stmt := top 53
abbrev s__law_drawn : Stmt := top 54
abbrev s__law_walked : Stmt := top 55
abbrev s__law_number : Stmt := top 56
abbrev s_law : Stmt := top 57
abbrev s_Stretch_init : Stmt := inClass (top 14) 0
abbrev s_Stretch_barred : Stmt := inClass (top 14) 1
abbrev s_Stretch_need : Stmt := inClass (top 14) 2
abbrev s_Stretch_gain : Stmt := inClass (top 14) 3
abbrev s_Stretch_top : Stmt := inClass (top 14) 4
abbrev s_Stretch_eq : Stmt := inClass (top 14) 5
abbrev s_Stretch_bool : Stmt := inClass (top 14) 6
abbrev s_Stretch_call : Stmt := inClass (top 14) 7
abbrev s_Stretch_add : Stmt := inClass (top 14) 8
abbrev s_Stretch_mul : Stmt := inClass (top 14) 9
abbrev s_Way_init : Stmt := inClass (top 23) 0
abbrev s_Way_even : Stmt := inClass (top 23) 1
abbrev s_Way_capacity : Stmt := inClass (top 23) 2
abbrev s_Way_posts : Stmt := inClass (top 23) 3
abbrev s_Way_surplus : Stmt := inClass (top 23) 4
abbrev s_Way_len : Stmt := inClass (top 23) 5
abbrev s_Way_getitem : Stmt := inClass (top 23) 6
abbrev s_Way_iter : Stmt := inClass (top 23) 7
abbrev s_Way_eq : Stmt := inClass (top 23) 8
abbrev s_Way_rshift : Stmt := inClass (top 23) 9
abbrev s_Way_invert : Stmt := inClass (top 23) 10
abbrev s_Way_need_post : Stmt := inClass (top 23) 11
abbrev s_Way_with_post : Stmt := inClass (top 23) 12
abbrev s_Way_with_capacity : Stmt := inClass (top 23) 13
abbrev s_Way_leg : Stmt := inClass (top 23) 14
abbrev s_Way_stretch : Stmt := inClass (top 23) 15
abbrev s_Way_path : Stmt := inClass (top 23) 16
abbrev s_Decoder_init : Stmt := inClass (top 47) 0
abbrev s_Decoder_take_byte : Stmt := inClass (top 47) 1
abbrev s_Decoder_take_number : Stmt := inClass (top 47) 2
def d__wall : He5.DefA := ⟨fun K => He.ga K "_wall", "_wall", "_wall", defArgs s__wall, defBody s__wall, defScope s__wall, [], []⟩
def d_is_whole : He5.DefA := ⟨fun K => He.ga K "is_whole", "is_whole", "is_whole", defArgs s_is_whole, defBody s_is_whole, defScope s_is_whole, [], []⟩
def d_is_integer : He5.DefA := ⟨fun K => He.ga K "is_integer", "is_integer", "is_integer", defArgs s_is_integer, defBody s_is_integer, defScope s_is_integer, [], []⟩
def d_check_number : He5.DefA := ⟨fun K => He.ga K "check_number", "check_number", "check_number", defArgs s_check_number, defBody s_check_number, defScope s_check_number, [], []⟩
def d_parts_of : He5.DefA := ⟨fun K => He.ga K "parts_of", "parts_of", "parts_of", defArgs s_parts_of, defBody s_parts_of, defScope s_parts_of, [], []⟩
def d_joined : He5.DefA := ⟨fun K => He.ga K "joined", "joined", "joined", defArgs s_joined, defBody s_joined, defScope s_joined, [], []⟩
def d_repeated : He5.DefA := ⟨fun K => He.ga K "repeated", "repeated", "repeated", defArgs s_repeated, defBody s_repeated, defScope s_repeated, [], []⟩
def d_is_post : He5.DefA := ⟨fun K => He.ga K "is_post", "is_post", "is_post", defArgs s_is_post, defBody s_is_post, defScope s_is_post, [], []⟩
def d_check_start : He5.DefA := ⟨fun K => He.ga K "check_start", "check_start", "check_start", defArgs s_check_start, defBody s_check_start, defScope s_check_start, [], []⟩
def d_one_leg : He5.DefA := ⟨fun K => He.ga K "one_leg", "one_leg", "one_leg", defArgs s_one_leg, defBody s_one_leg, defScope s_one_leg, [], []⟩
def d_is_numeral : He5.DefA := ⟨fun K => He.ga K "is_numeral", "is_numeral", "is_numeral", defArgs s_is_numeral, defBody s_is_numeral, defScope s_is_numeral, [], []⟩
def d_format_way : He5.DefA := ⟨fun K => He.ga K "format_way", "format_way", "format_way", defArgs s_format_way, defBody s_format_way, defScope s_format_way, [], []⟩
def d_numbers_of : He5.DefA := ⟨fun K => He.ga K "numbers_of", "numbers_of", "numbers_of", defArgs s_numbers_of, defBody s_numbers_of, defScope s_numbers_of, [], []⟩
def d_parse_way : He5.DefA := ⟨fun K => He.ga K "parse_way", "parse_way", "parse_way", defArgs s_parse_way, defBody s_parse_way, defScope s_parse_way, [], []⟩
def d_log_text : He5.DefA := ⟨fun K => He.ga K "log_text", "log_text", "log_text", defArgs s_log_text, defBody s_log_text, defScope s_log_text, [], []⟩
def d_checksum_of : He5.DefA := ⟨fun K => He.ga K "checksum_of", "checksum_of", "checksum_of", defArgs s_checksum_of, defBody s_checksum_of, defScope s_checksum_of, [], []⟩
def d_encode_way : He5.DefA := ⟨fun K => He.ga K "encode_way", "encode_way", "encode_way", defArgs s_encode_way, defBody s_encode_way, defScope s_encode_way, [], []⟩
def d_decode_way : He5.DefA := ⟨fun K => He.ga K "decode_way", "decode_way", "decode_way", defArgs s_decode_way, defBody s_decode_way, defScope s_decode_way, [], []⟩
def d__law_taken : He5.DefA := ⟨fun K => He.ga K "_law_taken", "_law_taken", "_law_taken", defArgs s__law_taken, defBody s__law_taken, defScope s__law_taken, [], []⟩
def d__law_posts : He5.DefA := ⟨fun K => He.ga K "_law_posts", "_law_posts", "_law_posts", defArgs s__law_posts, defBody s__law_posts, defScope s__law_posts, [], []⟩
def d__law_capacity : He5.DefA := ⟨fun K => He.ga K "_law_capacity", "_law_capacity", "_law_capacity", defArgs s__law_capacity, defBody s__law_capacity, defScope s__law_capacity, [], []⟩
def d__law_way : He5.DefA := ⟨fun K => He.ga K "_law_way", "_law_way", "_law_way", defArgs s__law_way, defBody s__law_way, defScope s__law_way, [], []⟩
def d__law_drawn : He5.DefA := ⟨fun K => He.ga K "_law_drawn", "_law_drawn", "_law_drawn", defArgs s__law_drawn, defBody s__law_drawn, defScope s__law_drawn, [], []⟩
def d__law_walked : He5.DefA := ⟨fun K => He.ga K "_law_walked", "_law_walked", "_law_walked", defArgs s__law_walked, defBody s__law_walked, defScope s__law_walked, [], []⟩
def d__law_number : He5.DefA := ⟨fun K => He.ga K "_law_number", "_law_number", "_law_number", defArgs s__law_number, defBody s__law_number, defScope s__law_number, [], []⟩
def d_law : He5.DefA := ⟨fun K => He.ga K "law", "law", "law", defArgs s_law, defBody s_law, defScope s_law, [], []⟩
def d_Stretch_init : He5.DefA := ⟨fun K => He.ma K (He.ga K "Stretch") "__init__", "__init__", "Stretch.__init__", defArgs s_Stretch_init, defBody s_Stretch_init, defScope s_Stretch_init, [], []⟩
def d_Stretch_barred : He5.DefA := ⟨fun K => cm K "Stretch" "barred", "barred", "Stretch.barred", defArgs s_Stretch_barred, defBody s_Stretch_barred, defScope s_Stretch_barred, [], []⟩
def d_Stretch_need : He5.DefA := ⟨fun K => gt K "Stretch" "need", "need", "Stretch.need", defArgs s_Stretch_need, defBody s_Stretch_need, defScope s_Stretch_need, [], []⟩
def d_Stretch_gain : He5.DefA := ⟨fun K => gt K "Stretch" "gain", "gain", "Stretch.gain", defArgs s_Stretch_gain, defBody s_Stretch_gain, defScope s_Stretch_gain, [], []⟩
def d_Stretch_top : He5.DefA := ⟨fun K => gt K "Stretch" "top", "top", "Stretch.top", defArgs s_Stretch_top, defBody s_Stretch_top, defScope s_Stretch_top, [], []⟩
def d_Stretch_eq : He5.DefA := ⟨fun K => He.ma K (He.ga K "Stretch") "__eq__", "__eq__", "Stretch.__eq__", defArgs s_Stretch_eq, defBody s_Stretch_eq, defScope s_Stretch_eq, [], []⟩
def d_Stretch_bool : He5.DefA := ⟨fun K => He.ma K (He.ga K "Stretch") "__bool__", "__bool__", "Stretch.__bool__", defArgs s_Stretch_bool, defBody s_Stretch_bool, defScope s_Stretch_bool, [], []⟩
def d_Stretch_call : He5.DefA := ⟨fun K => He.ma K (He.ga K "Stretch") "__call__", "__call__", "Stretch.__call__", defArgs s_Stretch_call, defBody s_Stretch_call, defScope s_Stretch_call, [], []⟩
def d_Stretch_add : He5.DefA := ⟨fun K => He.ma K (He.ga K "Stretch") "__add__", "__add__", "Stretch.__add__", defArgs s_Stretch_add, defBody s_Stretch_add, defScope s_Stretch_add, [], []⟩
def d_Stretch_mul : He5.DefA := ⟨fun K => He.ma K (He.ga K "Stretch") "__mul__", "__mul__", "Stretch.__mul__", defArgs s_Stretch_mul, defBody s_Stretch_mul, defScope s_Stretch_mul, [], []⟩
def d_Way_init : He5.DefA := ⟨fun K => He.ma K (He.ga K "Way") "__init__", "__init__", "Way.__init__", defArgs s_Way_init, defBody s_Way_init, defScope s_Way_init, [], []⟩
def d_Way_even : He5.DefA := ⟨fun K => cm K "Way" "even", "even", "Way.even", defArgs s_Way_even, defBody s_Way_even, defScope s_Way_even, [], []⟩
def d_Way_capacity : He5.DefA := ⟨fun K => gt K "Way" "capacity", "capacity", "Way.capacity", defArgs s_Way_capacity, defBody s_Way_capacity, defScope s_Way_capacity, [], []⟩
def d_Way_posts : He5.DefA := ⟨fun K => gt K "Way" "posts", "posts", "Way.posts", defArgs s_Way_posts, defBody s_Way_posts, defScope s_Way_posts, [], []⟩
def d_Way_surplus : He5.DefA := ⟨fun K => gt K "Way" "surplus", "surplus", "Way.surplus", defArgs s_Way_surplus, defBody s_Way_surplus, defScope s_Way_surplus, [], []⟩
def d_Way_len : He5.DefA := ⟨fun K => He.ma K (He.ga K "Way") "__len__", "__len__", "Way.__len__", defArgs s_Way_len, defBody s_Way_len, defScope s_Way_len, [], []⟩
def d_Way_getitem : He5.DefA := ⟨fun K => He.ma K (He.ga K "Way") "__getitem__", "__getitem__", "Way.__getitem__", defArgs s_Way_getitem, defBody s_Way_getitem, defScope s_Way_getitem, [], []⟩
def d_Way_iter : He5.DefA := ⟨fun K => He.ma K (He.ga K "Way") "__iter__", "__iter__", "Way.__iter__", defArgs s_Way_iter, defBody s_Way_iter, defScope s_Way_iter, [], []⟩
def d_Way_eq : He5.DefA := ⟨fun K => He.ma K (He.ga K "Way") "__eq__", "__eq__", "Way.__eq__", defArgs s_Way_eq, defBody s_Way_eq, defScope s_Way_eq, [], []⟩
def d_Way_rshift : He5.DefA := ⟨fun K => He.ma K (He.ga K "Way") "__rshift__", "__rshift__", "Way.__rshift__", defArgs s_Way_rshift, defBody s_Way_rshift, defScope s_Way_rshift, [], []⟩
def d_Way_invert : He5.DefA := ⟨fun K => He.ma K (He.ga K "Way") "__invert__", "__invert__", "Way.__invert__", defArgs s_Way_invert, defBody s_Way_invert, defScope s_Way_invert, [], []⟩
def d_Way_need_post : He5.DefA := ⟨fun K => He.ma K (He.ga K "Way") "need_post", "need_post", "Way.need_post", defArgs s_Way_need_post, defBody s_Way_need_post, defScope s_Way_need_post, [], []⟩
def d_Way_with_post : He5.DefA := ⟨fun K => He.ma K (He.ga K "Way") "with_post", "with_post", "Way.with_post", defArgs s_Way_with_post, defBody s_Way_with_post, defScope s_Way_with_post, [], []⟩
def d_Way_with_capacity : He5.DefA := ⟨fun K => He.ma K (He.ga K "Way") "with_capacity", "with_capacity", "Way.with_capacity", defArgs s_Way_with_capacity, defBody s_Way_with_capacity, defScope s_Way_with_capacity, [], []⟩
def d_Way_leg : He5.DefA := ⟨fun K => He.ma K (He.ga K "Way") "leg", "leg", "Way.leg", defArgs s_Way_leg, defBody s_Way_leg, defScope s_Way_leg, [], []⟩
def d_Way_stretch : He5.DefA := ⟨fun K => He.ma K (He.ga K "Way") "stretch", "stretch", "Way.stretch", defArgs s_Way_stretch, defBody s_Way_stretch, defScope s_Way_stretch, [], []⟩
def d_Way_path : He5.DefA := ⟨fun K => He.ma K (He.ga K "Way") "path", "path", "Way.path", defArgs s_Way_path, defBody s_Way_path, defScope s_Way_path, [], []⟩
def d_Decoder_init : He5.DefA := ⟨fun K => He.ma K (He.ga K "Decoder") "__init__", "__init__", "Decoder.__init__", defArgs s_Decoder_init, defBody s_Decoder_init, defScope s_Decoder_init, [], []⟩
def d_Decoder_take_byte : He5.DefA := ⟨fun K => He.ma K (He.ga K "Decoder") "take_byte", "take_byte", "Decoder.take_byte", defArgs s_Decoder_take_byte, defBody s_Decoder_take_byte, defScope s_Decoder_take_byte, [], []⟩
def d_Decoder_take_number : He5.DefA := ⟨fun K => He.ma K (He.ga K "Decoder") "take_number", "take_number", "Decoder.take_number", defArgs s_Decoder_take_number, defBody s_Decoder_take_number, defScope s_Decoder_take_number, [], []⟩
def fn0 : List He5.DefA := [d__wall, d_is_whole, d_is_integer, d_check_number, d_parts_of, d_joined, d_repeated, d_is_post, d_check_start, d_one_leg, d_is_numeral, d_format_way, d_numbers_of, d_parse_way, d_log_text, d_checksum_of, d_encode_way, d_decode_way, d__law_taken, d__law_posts, d__law_capacity, d__law_way, d__law_drawn, d__law_walked, d__law_number, d_law, d_Stretch_init, d_Stretch_barred, d_Stretch_need, d_Stretch_gain]
def fn1 : List He5.DefA := [d_Stretch_top, d_Stretch_eq, d_Stretch_bool, d_Stretch_call, d_Stretch_add, d_Stretch_mul, d_Way_init, d_Way_even, d_Way_capacity, d_Way_posts, d_Way_surplus, d_Way_len, d_Way_getitem, d_Way_iter, d_Way_eq, d_Way_rshift, d_Way_invert, d_Way_need_post, d_Way_with_post, d_Way_with_capacity, d_Way_leg, d_Way_stretch, d_Way_path, d_Decoder_init, d_Decoder_take_byte, d_Decoder_take_number]
def fn : List He5.DefA := fn0 ++ (fn1)
def fa0 : List Fact := [gloF "_wall", gloF "is_whole", gloF "is_integer", gloF "check_number", gloF "parts_of", gloF "joined", gloF "repeated", gloF "is_post", gloF "check_start", gloF "one_leg", gloF "is_numeral", gloF "format_way", gloF "numbers_of", gloF "parse_way", gloF "log_text", gloF "checksum_of", gloF "encode_way", gloF "decode_way", gloF "_law_taken", gloF "_law_posts", gloF "_law_capacity", gloF "_law_way", gloF "_law_drawn", gloF "_law_walked", gloF "_law_number", gloF "law", gloF "WalkError", excF "WalkError", gloF "InvalidWay", gloF "UnknownPost"]
def fa1 : List Fact := [excF "UnknownPost", gloF "InvalidNumber", excF "InvalidNumber", gloF "InvalidStretch", gloF "NotationError", gloF "DecodeError", gloF "Stretch", clsF "Stretch", mkrF "Stretch", sfF "Stretch", isiF "Stretch", noatF "Stretch" "__rmul__", noatF "Stretch" "least", noatF "Stretch" "more", noatF "Stretch" "most", methF "Stretch" "__init__", cmF "Stretch" "barred", propF "Stretch" "need", propF "Stretch" "gain", propF "Stretch" "top", methF "Stretch" "__eq__", methF "Stretch" "__bool__", methF "Stretch" "__call__", methF "Stretch" "__add__", methF "Stretch" "__mul__", gloF "Way", clsF "Way", mkrF "Way", sfF "Way", isiF "Way"]
def fa2 : List Fact := [noatF "Way" "__rrshift__", noatF "Way" "holds", noatF "Way" "rows", methF "Way" "__init__", cmF "Way" "even", propF "Way" "capacity", propF "Way" "posts", propF "Way" "surplus", methF "Way" "__len__", methF "Way" "__getitem__", methF "Way" "__iter__", methF "Way" "__eq__", methF "Way" "__rshift__", methF "Way" "__invert__", methF "Way" "need_post", methF "Way" "with_post", methF "Way" "with_capacity", methF "Way" "leg", methF "Way" "stretch", methF "Way" "path", gloF "Decoder", clsF "Decoder", mkrF "Decoder", sfF "Decoder", isiF "Decoder", noatF "Decoder" "line", noatF "Decoder" "place", methF "Decoder" "__init__", methF "Decoder" "take_byte", methF "Decoder" "take_number"]
def fa3 : List Fact := [neqF "Decoder" "Way", neqF "Decoder" "Stretch", intF "MAX_TIMES" 1000000000000000000, intF "MAX_POSTS" 12, intF "MAX_OIL" 1000000000, intF "MAX_LEGS" 1000000000000000000, strF "LANTERN" "lantern", strF "POST" "post", strF "DIGITS" "0123456789", intF "MAX_DIGITS" 10, intF "MAX_LOGGED" 100, intF "FIRST_BYTE" 79, intF "BYTE" 256, intF "WIDTH" 4, intF "CHECKSUM_FACTOR" 4, intF "CHECKSUM_MODULUS" 251, freeF "TypeError", freeF "ValueError", freeF "all", freeF "bool", freeF "bytes", freeF "classmethod", freeF "enumerate", freeF "int", freeF "isinstance", freeF "len", freeF "list", freeF "max", freeF "min", freeF "property"]
def fa4 : List Fact := [freeF "range", freeF "str", freeF "sum", freeF "tuple"]
def fa : List Fact := fa0 ++ (fa1 ++ (fa2 ++ (fa3 ++ (fa4))))
abbrev loose : List PySem.Str := (["_wall", "__name__", "WalkError", "InvalidWay", "UnknownPost", "InvalidNumber", "InvalidStretch", "NotationError", "DecodeError", "MAX_TIMES", "is_whole", "is_integer", "check_number", "Stretch", "parts_of", "joined", "repeated", "MAX_POSTS", "MAX_OIL", "MAX_LEGS", "is_post", "Way", "check_start", "one_leg", "LANTERN", "POST", "DIGITS", "MAX_DIGITS", "MAX_LOGGED", "is_numeral"] : List PySem.Str) ++ ((["format_way", "numbers_of", "parse_way", "log_text", "FIRST_BYTE", "BYTE", "WIDTH", "CHECKSUM_FACTOR", "CHECKSUM_MODULUS", "checksum_of", "encode_way", "Decoder", "decode_way", "_law_taken", "_law_posts", "_law_capacity", "_law_way", "_law_drawn", "_law_walked", "_law_number"] : List PySem.Str))
abbrev R : PySem.W.OpenRow := PySem.W.OpenLaw.row PySem.Challenge.rw_oilwalk_k59_whole_logs_and_stored_ways
abbrev hk : PySem.W.Hook := hookM 6 fa fn
def ob (s : PySem.W.SharedT) : He.AlD := obsMG 6 fa fn (HandSHeadRun.getT s)
theorem ob_eq (s : PySem.W.SharedT) : ob s = hk.obs s.abs := obsMG_eq (HandSHeadRun.getT_eq s)
set_option maxHeartbeats 0 in
theorem run (w : World) : HandSHeadRun.RunEq R (PySem.W.view R.prog [57]) hk ob 20000 loose w := by
  intro os
  kernel_rfl
structure Txt (K : PySem.W.Frag) (mg : Str → Option Value) : Prop where
  gl__wall : mg "_wall" = some (.ref (He.ga K "_wall"))
  gl_is_whole : mg "is_whole" = some (.ref (He.ga K "is_whole"))
  gl_is_integer : mg "is_integer" = some (.ref (He.ga K "is_integer"))
  gl_check_number : mg "check_number" = some (.ref (He.ga K "check_number"))
  gl_parts_of : mg "parts_of" = some (.ref (He.ga K "parts_of"))
  gl_joined : mg "joined" = some (.ref (He.ga K "joined"))
  gl_repeated : mg "repeated" = some (.ref (He.ga K "repeated"))
  gl_is_post : mg "is_post" = some (.ref (He.ga K "is_post"))
  gl_check_start : mg "check_start" = some (.ref (He.ga K "check_start"))
  gl_one_leg : mg "one_leg" = some (.ref (He.ga K "one_leg"))
  gl_is_numeral : mg "is_numeral" = some (.ref (He.ga K "is_numeral"))
  gl_format_way : mg "format_way" = some (.ref (He.ga K "format_way"))
  gl_numbers_of : mg "numbers_of" = some (.ref (He.ga K "numbers_of"))
  gl_parse_way : mg "parse_way" = some (.ref (He.ga K "parse_way"))
  gl_log_text : mg "log_text" = some (.ref (He.ga K "log_text"))
  gl_checksum_of : mg "checksum_of" = some (.ref (He.ga K "checksum_of"))
  gl_encode_way : mg "encode_way" = some (.ref (He.ga K "encode_way"))
  gl_decode_way : mg "decode_way" = some (.ref (He.ga K "decode_way"))
  gl__law_taken : mg "_law_taken" = some (.ref (He.ga K "_law_taken"))
  gl__law_posts : mg "_law_posts" = some (.ref (He.ga K "_law_posts"))
  gl__law_capacity : mg "_law_capacity" = some (.ref (He.ga K "_law_capacity"))
  gl__law_way : mg "_law_way" = some (.ref (He.ga K "_law_way"))
  gl__law_drawn : mg "_law_drawn" = some (.ref (He.ga K "_law_drawn"))
  gl__law_walked : mg "_law_walked" = some (.ref (He.ga K "_law_walked"))
  gl__law_number : mg "_law_number" = some (.ref (He.ga K "_law_number"))
  gl_law : mg "law" = some (.ref (He.ga K "law"))
  gl_WalkError : mg "WalkError" = some (.ref (He.ga K "WalkError"))
  ex_WalkError : ExcF K mg "WalkError"
  gl_InvalidWay : mg "InvalidWay" = some (.ref (He.ga K "InvalidWay"))
  gl_UnknownPost : mg "UnknownPost" = some (.ref (He.ga K "UnknownPost"))
  ex_UnknownPost : ExcF K mg "UnknownPost"
  gl_InvalidNumber : mg "InvalidNumber" = some (.ref (He.ga K "InvalidNumber"))
  ex_InvalidNumber : ExcF K mg "InvalidNumber"
  gl_InvalidStretch : mg "InvalidStretch" = some (.ref (He.ga K "InvalidStretch"))
  gl_NotationError : mg "NotationError" = some (.ref (He.ga K "NotationError"))
  gl_DecodeError : mg "DecodeError" = some (.ref (He.ga K "DecodeError"))
  gl_Stretch : mg "Stretch" = some (.ref (He.ga K "Stretch"))
  cls_Stretch : Cls K (He.ga K "Stretch")
  mk_Stretch : Mk K (He.ga K "Stretch") (He.ma K (He.ga K "Stretch") "__init__")
  sf_Stretch : PySem.W.selfFirst K (He.ga K "Stretch") = true
  isi_Stretch : IsiF K (He.ga K "Stretch")
  no_Stretch_rmul : NoAttr K (He.ga K "Stretch") "__rmul__"
  no_Stretch_least : NoAttr K (He.ga K "Stretch") "least"
  no_Stretch_more : NoAttr K (He.ga K "Stretch") "more"
  no_Stretch_most : NoAttr K (He.ga K "Stretch") "most"
  me_Stretch_init : Meth K (He.ga K "Stretch") "__init__" (He.ma K (He.ga K "Stretch") "__init__")
  cm_Stretch_barred : ClX.CMet K (He.ga K "Stretch") (.type "type") "barred" (He.ma K (He.ga K "Stretch") "barred") (cm K "Stretch" "barred") ∧ ClX.CRead K (He.ga K "Stretch") (.type "type")
  pr_Stretch_need : PropOf K (He.ga K "Stretch") "need" (He.ma K (He.ga K "Stretch") "need") (gt K "Stretch" "need")
  pr_Stretch_gain : PropOf K (He.ga K "Stretch") "gain" (He.ma K (He.ga K "Stretch") "gain") (gt K "Stretch" "gain")
  pr_Stretch_top : PropOf K (He.ga K "Stretch") "top" (He.ma K (He.ga K "Stretch") "top") (gt K "Stretch" "top")
  me_Stretch_eq : Meth K (He.ga K "Stretch") "__eq__" (He.ma K (He.ga K "Stretch") "__eq__")
  me_Stretch_bool : Meth K (He.ga K "Stretch") "__bool__" (He.ma K (He.ga K "Stretch") "__bool__")
  me_Stretch_call : Meth K (He.ga K "Stretch") "__call__" (He.ma K (He.ga K "Stretch") "__call__")
  me_Stretch_add : Meth K (He.ga K "Stretch") "__add__" (He.ma K (He.ga K "Stretch") "__add__")
  me_Stretch_mul : Meth K (He.ga K "Stretch") "__mul__" (He.ma K (He.ga K "Stretch") "__mul__")
  gl_Way : mg "Way" = some (.ref (He.ga K "Way"))
  cls_Way : Cls K (He.ga K "Way")
  mk_Way : Mk K (He.ga K "Way") (He.ma K (He.ga K "Way") "__init__")
  sf_Way : PySem.W.selfFirst K (He.ga K "Way") = true
  isi_Way : IsiF K (He.ga K "Way")
  no_Way_rrshift : NoAttr K (He.ga K "Way") "__rrshift__"
  no_Way_holds : NoAttr K (He.ga K "Way") "holds"
  no_Way_rows : NoAttr K (He.ga K "Way") "rows"
  me_Way_init : Meth K (He.ga K "Way") "__init__" (He.ma K (He.ga K "Way") "__init__")
  cm_Way_even : ClX.CMet K (He.ga K "Way") (.type "type") "even" (He.ma K (He.ga K "Way") "even") (cm K "Way" "even") ∧ ClX.CRead K (He.ga K "Way") (.type "type")
  pr_Way_capacity : PropOf K (He.ga K "Way") "capacity" (He.ma K (He.ga K "Way") "capacity") (gt K "Way" "capacity")
  pr_Way_posts : PropOf K (He.ga K "Way") "posts" (He.ma K (He.ga K "Way") "posts") (gt K "Way" "posts")
  pr_Way_surplus : PropOf K (He.ga K "Way") "surplus" (He.ma K (He.ga K "Way") "surplus") (gt K "Way" "surplus")
  me_Way_len : Meth K (He.ga K "Way") "__len__" (He.ma K (He.ga K "Way") "__len__")
  me_Way_getitem : Meth K (He.ga K "Way") "__getitem__" (He.ma K (He.ga K "Way") "__getitem__")
  me_Way_iter : Meth K (He.ga K "Way") "__iter__" (He.ma K (He.ga K "Way") "__iter__")
  me_Way_eq : Meth K (He.ga K "Way") "__eq__" (He.ma K (He.ga K "Way") "__eq__")
  me_Way_rshift : Meth K (He.ga K "Way") "__rshift__" (He.ma K (He.ga K "Way") "__rshift__")
  me_Way_invert : Meth K (He.ga K "Way") "__invert__" (He.ma K (He.ga K "Way") "__invert__")
  me_Way_need_post : Meth K (He.ga K "Way") "need_post" (He.ma K (He.ga K "Way") "need_post")
  me_Way_with_post : Meth K (He.ga K "Way") "with_post" (He.ma K (He.ga K "Way") "with_post")
  me_Way_with_capacity : Meth K (He.ga K "Way") "with_capacity" (He.ma K (He.ga K "Way") "with_capacity")
  me_Way_leg : Meth K (He.ga K "Way") "leg" (He.ma K (He.ga K "Way") "leg")
  me_Way_stretch : Meth K (He.ga K "Way") "stretch" (He.ma K (He.ga K "Way") "stretch")
  me_Way_path : Meth K (He.ga K "Way") "path" (He.ma K (He.ga K "Way") "path")
  gl_Decoder : mg "Decoder" = some (.ref (He.ga K "Decoder"))
  cls_Decoder : Cls K (He.ga K "Decoder")
  mk_Decoder : Mk K (He.ga K "Decoder") (He.ma K (He.ga K "Decoder") "__init__")
  sf_Decoder : PySem.W.selfFirst K (He.ga K "Decoder") = true
  isi_Decoder : IsiF K (He.ga K "Decoder")
  no_Decoder_line : NoAttr K (He.ga K "Decoder") "line"
  no_Decoder_place : NoAttr K (He.ga K "Decoder") "place"
  me_Decoder_init : Meth K (He.ga K "Decoder") "__init__" (He.ma K (He.ga K "Decoder") "__init__")
  me_Decoder_take_byte : Meth K (He.ga K "Decoder") "take_byte" (He.ma K (He.ga K "Decoder") "take_byte")
  me_Decoder_take_number : Meth K (He.ga K "Decoder") "take_number" (He.ma K (He.ga K "Decoder") "take_number")
  ne_Decoder_Way : He.ga K "Decoder" ≠ He.ga K "Way"
  ne_Decoder_Stretch : He.ga K "Decoder" ≠ He.ga K "Stretch"
  k_MAX_TIMES : ∃ t, mg "MAX_TIMES" = some (.int 1000000000000000000 t)
  k_MAX_POSTS : ∃ t, mg "MAX_POSTS" = some (.int 12 t)
  k_MAX_OIL : ∃ t, mg "MAX_OIL" = some (.int 1000000000 t)
  k_MAX_LEGS : ∃ t, mg "MAX_LEGS" = some (.int 1000000000000000000 t)
  k_LANTERN : ∃ t, mg "LANTERN" = some (.str "lantern" t)
  k_POST : ∃ t, mg "POST" = some (.str "post" t)
  k_DIGITS : ∃ t, mg "DIGITS" = some (.str "0123456789" t)
  k_MAX_DIGITS : ∃ t, mg "MAX_DIGITS" = some (.int 10 t)
  k_MAX_LOGGED : ∃ t, mg "MAX_LOGGED" = some (.int 100 t)
  k_FIRST_BYTE : ∃ t, mg "FIRST_BYTE" = some (.int 79 t)
  k_BYTE : ∃ t, mg "BYTE" = some (.int 256 t)
  k_WIDTH : ∃ t, mg "WIDTH" = some (.int 4 t)
  k_CHECKSUM_FACTOR : ∃ t, mg "CHECKSUM_FACTOR" = some (.int 4 t)
  k_CHECKSUM_MODULUS : ∃ t, mg "CHECKSUM_MODULUS" = some (.int 251 t)
  b_TypeError : mg "TypeError" = none
  b_ValueError : mg "ValueError" = none
  b_all : mg "all" = none
  b_bool : mg "bool" = none
  b_bytes : mg "bytes" = none
  b_classmethod : mg "classmethod" = none
  b_enumerate : mg "enumerate" = none
  b_int : mg "int" = none
  b_isinstance : mg "isinstance" = none
  b_len : mg "len" = none
  b_list : mg "list" = none
  b_max : mg "max" = none
  b_min : mg "min" = none
  b_property : mg "property" = none
  b_range : mg "range" = none
  b_str : mg "str" = none
  b_sum : mg "sum" = none
  b_tuple : mg "tuple" = none
  d__wall : ∃ fd, FunD K "_wall" "_wall" (defArgs s__wall) (defBody s__wall) (defScope s__wall) [] [] (He.ga K "_wall") fd
  d_is_whole : ∃ fd, FunD K "is_whole" "is_whole" (defArgs s_is_whole) (defBody s_is_whole) (defScope s_is_whole) [] [] (He.ga K "is_whole") fd
  d_is_integer : ∃ fd, FunD K "is_integer" "is_integer" (defArgs s_is_integer) (defBody s_is_integer) (defScope s_is_integer) [] [] (He.ga K "is_integer") fd
  d_check_number : ∃ fd, FunD K "check_number" "check_number" (defArgs s_check_number) (defBody s_check_number) (defScope s_check_number) [] [] (He.ga K "check_number") fd
  d_parts_of : ∃ fd, FunD K "parts_of" "parts_of" (defArgs s_parts_of) (defBody s_parts_of) (defScope s_parts_of) [] [] (He.ga K "parts_of") fd
  d_joined : ∃ fd, FunD K "joined" "joined" (defArgs s_joined) (defBody s_joined) (defScope s_joined) [] [] (He.ga K "joined") fd
  d_repeated : ∃ fd, FunD K "repeated" "repeated" (defArgs s_repeated) (defBody s_repeated) (defScope s_repeated) [] [] (He.ga K "repeated") fd
  d_is_post : ∃ fd, FunD K "is_post" "is_post" (defArgs s_is_post) (defBody s_is_post) (defScope s_is_post) [] [] (He.ga K "is_post") fd
  d_check_start : ∃ fd, FunD K "check_start" "check_start" (defArgs s_check_start) (defBody s_check_start) (defScope s_check_start) [] [] (He.ga K "check_start") fd
  d_one_leg : ∃ fd, FunD K "one_leg" "one_leg" (defArgs s_one_leg) (defBody s_one_leg) (defScope s_one_leg) [] [] (He.ga K "one_leg") fd
  d_is_numeral : ∃ fd, FunD K "is_numeral" "is_numeral" (defArgs s_is_numeral) (defBody s_is_numeral) (defScope s_is_numeral) [] [] (He.ga K "is_numeral") fd
  d_format_way : ∃ fd, FunD K "format_way" "format_way" (defArgs s_format_way) (defBody s_format_way) (defScope s_format_way) [] [] (He.ga K "format_way") fd
  d_numbers_of : ∃ fd, FunD K "numbers_of" "numbers_of" (defArgs s_numbers_of) (defBody s_numbers_of) (defScope s_numbers_of) [] [] (He.ga K "numbers_of") fd
  d_parse_way : ∃ fd, FunD K "parse_way" "parse_way" (defArgs s_parse_way) (defBody s_parse_way) (defScope s_parse_way) [] [] (He.ga K "parse_way") fd
  d_log_text : ∃ fd, FunD K "log_text" "log_text" (defArgs s_log_text) (defBody s_log_text) (defScope s_log_text) [] [] (He.ga K "log_text") fd
  d_checksum_of : ∃ fd, FunD K "checksum_of" "checksum_of" (defArgs s_checksum_of) (defBody s_checksum_of) (defScope s_checksum_of) [] [] (He.ga K "checksum_of") fd
  d_encode_way : ∃ fd, FunD K "encode_way" "encode_way" (defArgs s_encode_way) (defBody s_encode_way) (defScope s_encode_way) [] [] (He.ga K "encode_way") fd
  d_decode_way : ∃ fd, FunD K "decode_way" "decode_way" (defArgs s_decode_way) (defBody s_decode_way) (defScope s_decode_way) [] [] (He.ga K "decode_way") fd
  d__law_taken : ∃ fd, FunD K "_law_taken" "_law_taken" (defArgs s__law_taken) (defBody s__law_taken) (defScope s__law_taken) [] [] (He.ga K "_law_taken") fd
  d__law_posts : ∃ fd, FunD K "_law_posts" "_law_posts" (defArgs s__law_posts) (defBody s__law_posts) (defScope s__law_posts) [] [] (He.ga K "_law_posts") fd
  d__law_capacity : ∃ fd, FunD K "_law_capacity" "_law_capacity" (defArgs s__law_capacity) (defBody s__law_capacity) (defScope s__law_capacity) [] [] (He.ga K "_law_capacity") fd
  d__law_way : ∃ fd, FunD K "_law_way" "_law_way" (defArgs s__law_way) (defBody s__law_way) (defScope s__law_way) [] [] (He.ga K "_law_way") fd
  d__law_drawn : ∃ fd, FunD K "_law_drawn" "_law_drawn" (defArgs s__law_drawn) (defBody s__law_drawn) (defScope s__law_drawn) [] [] (He.ga K "_law_drawn") fd
  d__law_walked : ∃ fd, FunD K "_law_walked" "_law_walked" (defArgs s__law_walked) (defBody s__law_walked) (defScope s__law_walked) [] [] (He.ga K "_law_walked") fd
  d__law_number : ∃ fd, FunD K "_law_number" "_law_number" (defArgs s__law_number) (defBody s__law_number) (defScope s__law_number) [] [] (He.ga K "_law_number") fd
  d_law : ∃ fd, FunD K "law" "law" (defArgs s_law) (defBody s_law) (defScope s_law) [] [] (He.ga K "law") fd
  d_Stretch_init : ∃ fd, FunD K "__init__" "Stretch.__init__" (defArgs s_Stretch_init) (defBody s_Stretch_init) (defScope s_Stretch_init) [] [] (He.ma K (He.ga K "Stretch") "__init__") fd
  d_Stretch_barred : ∃ fd, FunD K "barred" "Stretch.barred" (defArgs s_Stretch_barred) (defBody s_Stretch_barred) (defScope s_Stretch_barred) [] [] (cm K "Stretch" "barred") fd
  d_Stretch_need : ∃ fd, FunD K "need" "Stretch.need" (defArgs s_Stretch_need) (defBody s_Stretch_need) (defScope s_Stretch_need) [] [] (gt K "Stretch" "need") fd
  d_Stretch_gain : ∃ fd, FunD K "gain" "Stretch.gain" (defArgs s_Stretch_gain) (defBody s_Stretch_gain) (defScope s_Stretch_gain) [] [] (gt K "Stretch" "gain") fd
  d_Stretch_top : ∃ fd, FunD K "top" "Stretch.top" (defArgs s_Stretch_top) (defBody s_Stretch_top) (defScope s_Stretch_top) [] [] (gt K "Stretch" "top") fd
  d_Stretch_eq : ∃ fd, FunD K "__eq__" "Stretch.__eq__" (defArgs s_Stretch_eq) (defBody s_Stretch_eq) (defScope s_Stretch_eq) [] [] (He.ma K (He.ga K "Stretch") "__eq__") fd
  d_Stretch_bool : ∃ fd, FunD K "__bool__" "Stretch.__bool__" (defArgs s_Stretch_bool) (defBody s_Stretch_bool) (defScope s_Stretch_bool) [] [] (He.ma K (He.ga K "Stretch") "__bool__") fd
  d_Stretch_call : ∃ fd, FunD K "__call__" "Stretch.__call__" (defArgs s_Stretch_call) (defBody s_Stretch_call) (defScope s_Stretch_call) [] [] (He.ma K (He.ga K "Stretch") "__call__") fd
  d_Stretch_add : ∃ fd, FunD K "__add__" "Stretch.__add__" (defArgs s_Stretch_add) (defBody s_Stretch_add) (defScope s_Stretch_add) [] [] (He.ma K (He.ga K "Stretch") "__add__") fd
  d_Stretch_mul : ∃ fd, FunD K "__mul__" "Stretch.__mul__" (defArgs s_Stretch_mul) (defBody s_Stretch_mul) (defScope s_Stretch_mul) [] [] (He.ma K (He.ga K "Stretch") "__mul__") fd
  d_Way_init : ∃ fd, FunD K "__init__" "Way.__init__" (defArgs s_Way_init) (defBody s_Way_init) (defScope s_Way_init) [] [] (He.ma K (He.ga K "Way") "__init__") fd
  d_Way_even : ∃ fd, FunD K "even" "Way.even" (defArgs s_Way_even) (defBody s_Way_even) (defScope s_Way_even) [] [] (cm K "Way" "even") fd
  d_Way_capacity : ∃ fd, FunD K "capacity" "Way.capacity" (defArgs s_Way_capacity) (defBody s_Way_capacity) (defScope s_Way_capacity) [] [] (gt K "Way" "capacity") fd
  d_Way_posts : ∃ fd, FunD K "posts" "Way.posts" (defArgs s_Way_posts) (defBody s_Way_posts) (defScope s_Way_posts) [] [] (gt K "Way" "posts") fd
  d_Way_surplus : ∃ fd, FunD K "surplus" "Way.surplus" (defArgs s_Way_surplus) (defBody s_Way_surplus) (defScope s_Way_surplus) [] [] (gt K "Way" "surplus") fd
  d_Way_len : ∃ fd, FunD K "__len__" "Way.__len__" (defArgs s_Way_len) (defBody s_Way_len) (defScope s_Way_len) [] [] (He.ma K (He.ga K "Way") "__len__") fd
  d_Way_getitem : ∃ fd, FunD K "__getitem__" "Way.__getitem__" (defArgs s_Way_getitem) (defBody s_Way_getitem) (defScope s_Way_getitem) [] [] (He.ma K (He.ga K "Way") "__getitem__") fd
  d_Way_iter : ∃ fd, FunD K "__iter__" "Way.__iter__" (defArgs s_Way_iter) (defBody s_Way_iter) (defScope s_Way_iter) [] [] (He.ma K (He.ga K "Way") "__iter__") fd
  d_Way_eq : ∃ fd, FunD K "__eq__" "Way.__eq__" (defArgs s_Way_eq) (defBody s_Way_eq) (defScope s_Way_eq) [] [] (He.ma K (He.ga K "Way") "__eq__") fd
  d_Way_rshift : ∃ fd, FunD K "__rshift__" "Way.__rshift__" (defArgs s_Way_rshift) (defBody s_Way_rshift) (defScope s_Way_rshift) [] [] (He.ma K (He.ga K "Way") "__rshift__") fd
  d_Way_invert : ∃ fd, FunD K "__invert__" "Way.__invert__" (defArgs s_Way_invert) (defBody s_Way_invert) (defScope s_Way_invert) [] [] (He.ma K (He.ga K "Way") "__invert__") fd
  d_Way_need_post : ∃ fd, FunD K "need_post" "Way.need_post" (defArgs s_Way_need_post) (defBody s_Way_need_post) (defScope s_Way_need_post) [] [] (He.ma K (He.ga K "Way") "need_post") fd
  d_Way_with_post : ∃ fd, FunD K "with_post" "Way.with_post" (defArgs s_Way_with_post) (defBody s_Way_with_post) (defScope s_Way_with_post) [] [] (He.ma K (He.ga K "Way") "with_post") fd
  d_Way_with_capacity : ∃ fd, FunD K "with_capacity" "Way.with_capacity" (defArgs s_Way_with_capacity) (defBody s_Way_with_capacity) (defScope s_Way_with_capacity) [] [] (He.ma K (He.ga K "Way") "with_capacity") fd
  d_Way_leg : ∃ fd, FunD K "leg" "Way.leg" (defArgs s_Way_leg) (defBody s_Way_leg) (defScope s_Way_leg) [] [] (He.ma K (He.ga K "Way") "leg") fd
  d_Way_stretch : ∃ fd, FunD K "stretch" "Way.stretch" (defArgs s_Way_stretch) (defBody s_Way_stretch) (defScope s_Way_stretch) [] [] (He.ma K (He.ga K "Way") "stretch") fd
  d_Way_path : ∃ fd, FunD K "path" "Way.path" (defArgs s_Way_path) (defBody s_Way_path) (defScope s_Way_path) [] [] (He.ma K (He.ga K "Way") "path") fd
  d_Decoder_init : ∃ fd, FunD K "__init__" "Decoder.__init__" (defArgs s_Decoder_init) (defBody s_Decoder_init) (defScope s_Decoder_init) [] [] (He.ma K (He.ga K "Decoder") "__init__") fd
  d_Decoder_take_byte : ∃ fd, FunD K "take_byte" "Decoder.take_byte" (defArgs s_Decoder_take_byte) (defBody s_Decoder_take_byte) (defScope s_Decoder_take_byte) [] [] (He.ma K (He.ga K "Decoder") "take_byte") fd
  d_Decoder_take_number : ∃ fd, FunD K "take_number" "Decoder.take_number" (defArgs s_Decoder_take_number) (defBody s_Decoder_take_number) (defScope s_Decoder_take_number) [] [] (He.ma K (He.ga K "Decoder") "take_number") fd
theorem txt_of {K : PySem.W.Frag} {h : Heap} {mg : Str → Option Value} (X : K.In h) (G : h.Ns mainGlobals mg) (c : SaysM fa fn K) : Txt K mg where
  gl__wall := He.glo_ok X G (c.fact 0 (f := gloF "_wall") rfl)
  gl_is_whole := He.glo_ok X G (c.fact 1 (f := gloF "is_whole") rfl)
  gl_is_integer := He.glo_ok X G (c.fact 2 (f := gloF "is_integer") rfl)
  gl_check_number := He.glo_ok X G (c.fact 3 (f := gloF "check_number") rfl)
  gl_parts_of := He.glo_ok X G (c.fact 4 (f := gloF "parts_of") rfl)
  gl_joined := He.glo_ok X G (c.fact 5 (f := gloF "joined") rfl)
  gl_repeated := He.glo_ok X G (c.fact 6 (f := gloF "repeated") rfl)
  gl_is_post := He.glo_ok X G (c.fact 7 (f := gloF "is_post") rfl)
  gl_check_start := He.glo_ok X G (c.fact 8 (f := gloF "check_start") rfl)
  gl_one_leg := He.glo_ok X G (c.fact 9 (f := gloF "one_leg") rfl)
  gl_is_numeral := He.glo_ok X G (c.fact 10 (f := gloF "is_numeral") rfl)
  gl_format_way := He.glo_ok X G (c.fact 11 (f := gloF "format_way") rfl)
  gl_numbers_of := He.glo_ok X G (c.fact 12 (f := gloF "numbers_of") rfl)
  gl_parse_way := He.glo_ok X G (c.fact 13 (f := gloF "parse_way") rfl)
  gl_log_text := He.glo_ok X G (c.fact 14 (f := gloF "log_text") rfl)
  gl_checksum_of := He.glo_ok X G (c.fact 15 (f := gloF "checksum_of") rfl)
  gl_encode_way := He.glo_ok X G (c.fact 16 (f := gloF "encode_way") rfl)
  gl_decode_way := He.glo_ok X G (c.fact 17 (f := gloF "decode_way") rfl)
  gl__law_taken := He.glo_ok X G (c.fact 18 (f := gloF "_law_taken") rfl)
  gl__law_posts := He.glo_ok X G (c.fact 19 (f := gloF "_law_posts") rfl)
  gl__law_capacity := He.glo_ok X G (c.fact 20 (f := gloF "_law_capacity") rfl)
  gl__law_way := He.glo_ok X G (c.fact 21 (f := gloF "_law_way") rfl)
  gl__law_drawn := He.glo_ok X G (c.fact 22 (f := gloF "_law_drawn") rfl)
  gl__law_walked := He.glo_ok X G (c.fact 23 (f := gloF "_law_walked") rfl)
  gl__law_number := He.glo_ok X G (c.fact 24 (f := gloF "_law_number") rfl)
  gl_law := He.glo_ok X G (c.fact 25 (f := gloF "law") rfl)
  gl_WalkError := He.glo_ok X G (c.fact 26 (f := gloF "WalkError") rfl)
  ex_WalkError := exc_ok X G (c.fact 27 (f := excF "WalkError") rfl)
  gl_InvalidWay := He.glo_ok X G (c.fact 28 (f := gloF "InvalidWay") rfl)
  gl_UnknownPost := He.glo_ok X G (c.fact 29 (f := gloF "UnknownPost") rfl)
  ex_UnknownPost := exc_ok X G (c.fact 30 (f := excF "UnknownPost") rfl)
  gl_InvalidNumber := He.glo_ok X G (c.fact 31 (f := gloF "InvalidNumber") rfl)
  ex_InvalidNumber := exc_ok X G (c.fact 32 (f := excF "InvalidNumber") rfl)
  gl_InvalidStretch := He.glo_ok X G (c.fact 33 (f := gloF "InvalidStretch") rfl)
  gl_NotationError := He.glo_ok X G (c.fact 34 (f := gloF "NotationError") rfl)
  gl_DecodeError := He.glo_ok X G (c.fact 35 (f := gloF "DecodeError") rfl)
  gl_Stretch := He.glo_ok X G (c.fact 36 (f := gloF "Stretch") rfl)
  cls_Stretch := He.cls_ok (c.fact 37 (f := clsF "Stretch") rfl)
  mk_Stretch := He.mkr_ok (c.fact 38 (f := mkrF "Stretch") rfl)
  sf_Stretch := (c.fact 39 (f := sfF "Stretch") rfl)
  isi_Stretch := isi_ok (c.fact 40 (f := isiF "Stretch") rfl)
  no_Stretch_rmul := He.noat_ok (c.fact 41 (f := noatF "Stretch" "__rmul__") rfl)
  no_Stretch_least := He.noat_ok (c.fact 42 (f := noatF "Stretch" "least") rfl)
  no_Stretch_more := He.noat_ok (c.fact 43 (f := noatF "Stretch" "more") rfl)
  no_Stretch_most := He.noat_ok (c.fact 44 (f := noatF "Stretch" "most") rfl)
  me_Stretch_init := He.meth_ok (c.fact 45 (f := methF "Stretch" "__init__") rfl)
  cm_Stretch_barred := cm_ok (c.fact 46 (f := cmF "Stretch" "barred") rfl)
  pr_Stretch_need := prop_ok (c.fact 47 (f := propF "Stretch" "need") rfl)
  pr_Stretch_gain := prop_ok (c.fact 48 (f := propF "Stretch" "gain") rfl)
  pr_Stretch_top := prop_ok (c.fact 49 (f := propF "Stretch" "top") rfl)
  me_Stretch_eq := He.meth_ok (c.fact 50 (f := methF "Stretch" "__eq__") rfl)
  me_Stretch_bool := He.meth_ok (c.fact 51 (f := methF "Stretch" "__bool__") rfl)
  me_Stretch_call := He.meth_ok (c.fact 52 (f := methF "Stretch" "__call__") rfl)
  me_Stretch_add := He.meth_ok (c.fact 53 (f := methF "Stretch" "__add__") rfl)
  me_Stretch_mul := He.meth_ok (c.fact 54 (f := methF "Stretch" "__mul__") rfl)
  gl_Way := He.glo_ok X G (c.fact 55 (f := gloF "Way") rfl)
  cls_Way := He.cls_ok (c.fact 56 (f := clsF "Way") rfl)
  mk_Way := He.mkr_ok (c.fact 57 (f := mkrF "Way") rfl)
  sf_Way := (c.fact 58 (f := sfF "Way") rfl)
  isi_Way := isi_ok (c.fact 59 (f := isiF "Way") rfl)
  no_Way_rrshift := He.noat_ok (c.fact 60 (f := noatF "Way" "__rrshift__") rfl)
  no_Way_holds := He.noat_ok (c.fact 61 (f := noatF "Way" "holds") rfl)
  no_Way_rows := He.noat_ok (c.fact 62 (f := noatF "Way" "rows") rfl)
  me_Way_init := He.meth_ok (c.fact 63 (f := methF "Way" "__init__") rfl)
  cm_Way_even := cm_ok (c.fact 64 (f := cmF "Way" "even") rfl)
  pr_Way_capacity := prop_ok (c.fact 65 (f := propF "Way" "capacity") rfl)
  pr_Way_posts := prop_ok (c.fact 66 (f := propF "Way" "posts") rfl)
  pr_Way_surplus := prop_ok (c.fact 67 (f := propF "Way" "surplus") rfl)
  me_Way_len := He.meth_ok (c.fact 68 (f := methF "Way" "__len__") rfl)
  me_Way_getitem := He.meth_ok (c.fact 69 (f := methF "Way" "__getitem__") rfl)
  me_Way_iter := He.meth_ok (c.fact 70 (f := methF "Way" "__iter__") rfl)
  me_Way_eq := He.meth_ok (c.fact 71 (f := methF "Way" "__eq__") rfl)
  me_Way_rshift := He.meth_ok (c.fact 72 (f := methF "Way" "__rshift__") rfl)
  me_Way_invert := He.meth_ok (c.fact 73 (f := methF "Way" "__invert__") rfl)
  me_Way_need_post := He.meth_ok (c.fact 74 (f := methF "Way" "need_post") rfl)
  me_Way_with_post := He.meth_ok (c.fact 75 (f := methF "Way" "with_post") rfl)
  me_Way_with_capacity := He.meth_ok (c.fact 76 (f := methF "Way" "with_capacity") rfl)
  me_Way_leg := He.meth_ok (c.fact 77 (f := methF "Way" "leg") rfl)
  me_Way_stretch := He.meth_ok (c.fact 78 (f := methF "Way" "stretch") rfl)
  me_Way_path := He.meth_ok (c.fact 79 (f := methF "Way" "path") rfl)
  gl_Decoder := He.glo_ok X G (c.fact 80 (f := gloF "Decoder") rfl)
  cls_Decoder := He.cls_ok (c.fact 81 (f := clsF "Decoder") rfl)
  mk_Decoder := He.mkr_ok (c.fact 82 (f := mkrF "Decoder") rfl)
  sf_Decoder := (c.fact 83 (f := sfF "Decoder") rfl)
  isi_Decoder := isi_ok (c.fact 84 (f := isiF "Decoder") rfl)
  no_Decoder_line := He.noat_ok (c.fact 85 (f := noatF "Decoder" "line") rfl)
  no_Decoder_place := He.noat_ok (c.fact 86 (f := noatF "Decoder" "place") rfl)
  me_Decoder_init := He.meth_ok (c.fact 87 (f := methF "Decoder" "__init__") rfl)
  me_Decoder_take_byte := He.meth_ok (c.fact 88 (f := methF "Decoder" "take_byte") rfl)
  me_Decoder_take_number := He.meth_ok (c.fact 89 (f := methF "Decoder" "take_number") rfl)
  ne_Decoder_Way := neq_ok (c.fact 90 (f := neqF "Decoder" "Way") rfl)
  ne_Decoder_Stretch := neq_ok (c.fact 91 (f := neqF "Decoder" "Stretch") rfl)
  k_MAX_TIMES := He.int_ok X G (c.fact 92 (f := intF "MAX_TIMES" 1000000000000000000) rfl)
  k_MAX_POSTS := He.int_ok X G (c.fact 93 (f := intF "MAX_POSTS" 12) rfl)
  k_MAX_OIL := He.int_ok X G (c.fact 94 (f := intF "MAX_OIL" 1000000000) rfl)
  k_MAX_LEGS := He.int_ok X G (c.fact 95 (f := intF "MAX_LEGS" 1000000000000000000) rfl)
  k_LANTERN := He.str_ok X G (c.fact 96 (f := strF "LANTERN" "lantern") rfl)
  k_POST := He.str_ok X G (c.fact 97 (f := strF "POST" "post") rfl)
  k_DIGITS := He.str_ok X G (c.fact 98 (f := strF "DIGITS" "0123456789") rfl)
  k_MAX_DIGITS := He.int_ok X G (c.fact 99 (f := intF "MAX_DIGITS" 10) rfl)
  k_MAX_LOGGED := He.int_ok X G (c.fact 100 (f := intF "MAX_LOGGED" 100) rfl)
  k_FIRST_BYTE := He.int_ok X G (c.fact 101 (f := intF "FIRST_BYTE" 79) rfl)
  k_BYTE := He.int_ok X G (c.fact 102 (f := intF "BYTE" 256) rfl)
  k_WIDTH := He.int_ok X G (c.fact 103 (f := intF "WIDTH" 4) rfl)
  k_CHECKSUM_FACTOR := He.int_ok X G (c.fact 104 (f := intF "CHECKSUM_FACTOR" 4) rfl)
  k_CHECKSUM_MODULUS := He.int_ok X G (c.fact 105 (f := intF "CHECKSUM_MODULUS" 251) rfl)
  b_TypeError := He.free_ok X G (c.fact 106 (f := freeF "TypeError") rfl)
  b_ValueError := He.free_ok X G (c.fact 107 (f := freeF "ValueError") rfl)
  b_all := He.free_ok X G (c.fact 108 (f := freeF "all") rfl)
  b_bool := He.free_ok X G (c.fact 109 (f := freeF "bool") rfl)
  b_bytes := He.free_ok X G (c.fact 110 (f := freeF "bytes") rfl)
  b_classmethod := He.free_ok X G (c.fact 111 (f := freeF "classmethod") rfl)
  b_enumerate := He.free_ok X G (c.fact 112 (f := freeF "enumerate") rfl)
  b_int := He.free_ok X G (c.fact 113 (f := freeF "int") rfl)
  b_isinstance := He.free_ok X G (c.fact 114 (f := freeF "isinstance") rfl)
  b_len := He.free_ok X G (c.fact 115 (f := freeF "len") rfl)
  b_list := He.free_ok X G (c.fact 116 (f := freeF "list") rfl)
  b_max := He.free_ok X G (c.fact 117 (f := freeF "max") rfl)
  b_min := He.free_ok X G (c.fact 118 (f := freeF "min") rfl)
  b_property := He.free_ok X G (c.fact 119 (f := freeF "property") rfl)
  b_range := He.free_ok X G (c.fact 120 (f := freeF "range") rfl)
  b_str := He.free_ok X G (c.fact 121 (f := freeF "str") rfl)
  b_sum := He.free_ok X G (c.fact 122 (f := freeF "sum") rfl)
  b_tuple := He.free_ok X G (c.fact 123 (f := freeF "tuple") rfl)
  d__wall := c.def_ 0 (d := d__wall) rfl
  d_is_whole := c.def_ 1 (d := d_is_whole) rfl
  d_is_integer := c.def_ 2 (d := d_is_integer) rfl
  d_check_number := c.def_ 3 (d := d_check_number) rfl
  d_parts_of := c.def_ 4 (d := d_parts_of) rfl
  d_joined := c.def_ 5 (d := d_joined) rfl
  d_repeated := c.def_ 6 (d := d_repeated) rfl
  d_is_post := c.def_ 7 (d := d_is_post) rfl
  d_check_start := c.def_ 8 (d := d_check_start) rfl
  d_one_leg := c.def_ 9 (d := d_one_leg) rfl
  d_is_numeral := c.def_ 10 (d := d_is_numeral) rfl
  d_format_way := c.def_ 11 (d := d_format_way) rfl
  d_numbers_of := c.def_ 12 (d := d_numbers_of) rfl
  d_parse_way := c.def_ 13 (d := d_parse_way) rfl
  d_log_text := c.def_ 14 (d := d_log_text) rfl
  d_checksum_of := c.def_ 15 (d := d_checksum_of) rfl
  d_encode_way := c.def_ 16 (d := d_encode_way) rfl
  d_decode_way := c.def_ 17 (d := d_decode_way) rfl
  d__law_taken := c.def_ 18 (d := d__law_taken) rfl
  d__law_posts := c.def_ 19 (d := d__law_posts) rfl
  d__law_capacity := c.def_ 20 (d := d__law_capacity) rfl
  d__law_way := c.def_ 21 (d := d__law_way) rfl
  d__law_drawn := c.def_ 22 (d := d__law_drawn) rfl
  d__law_walked := c.def_ 23 (d := d__law_walked) rfl
  d__law_number := c.def_ 24 (d := d__law_number) rfl
  d_law := c.def_ 25 (d := d_law) rfl
  d_Stretch_init := c.def_ 26 (d := d_Stretch_init) rfl
  d_Stretch_barred := c.def_ 27 (d := d_Stretch_barred) rfl
  d_Stretch_need := c.def_ 28 (d := d_Stretch_need) rfl
  d_Stretch_gain := c.def_ 29 (d := d_Stretch_gain) rfl
  d_Stretch_top := c.def_ 30 (d := d_Stretch_top) rfl
  d_Stretch_eq := c.def_ 31 (d := d_Stretch_eq) rfl
  d_Stretch_bool := c.def_ 32 (d := d_Stretch_bool) rfl
  d_Stretch_call := c.def_ 33 (d := d_Stretch_call) rfl
  d_Stretch_add := c.def_ 34 (d := d_Stretch_add) rfl
  d_Stretch_mul := c.def_ 35 (d := d_Stretch_mul) rfl
  d_Way_init := c.def_ 36 (d := d_Way_init) rfl
  d_Way_even := c.def_ 37 (d := d_Way_even) rfl
  d_Way_capacity := c.def_ 38 (d := d_Way_capacity) rfl
  d_Way_posts := c.def_ 39 (d := d_Way_posts) rfl
  d_Way_surplus := c.def_ 40 (d := d_Way_surplus) rfl
  d_Way_len := c.def_ 41 (d := d_Way_len) rfl
  d_Way_getitem := c.def_ 42 (d := d_Way_getitem) rfl
  d_Way_iter := c.def_ 43 (d := d_Way_iter) rfl
  d_Way_eq := c.def_ 44 (d := d_Way_eq) rfl
  d_Way_rshift := c.def_ 45 (d := d_Way_rshift) rfl
  d_Way_invert := c.def_ 46 (d := d_Way_invert) rfl
  d_Way_need_post := c.def_ 47 (d := d_Way_need_post) rfl
  d_Way_with_post := c.def_ 48 (d := d_Way_with_post) rfl
  d_Way_with_capacity := c.def_ 49 (d := d_Way_with_capacity) rfl
  d_Way_leg := c.def_ 50 (d := d_Way_leg) rfl
  d_Way_stretch := c.def_ 51 (d := d_Way_stretch) rfl
  d_Way_path := c.def_ 52 (d := d_Way_path) rfl
  d_Decoder_init := c.def_ 53 (d := d_Decoder_init) rfl
  d_Decoder_take_byte := c.def_ 54 (d := d_Decoder_take_byte) rfl
  d_Decoder_take_number := c.def_ 55 (d := d_Decoder_take_number) rfl
theorem fkp {K : PySem.W.Frag} {x qual : Str} {params : Arguments} {body : List Stmt} {scope : Scope} {f : Addr} (F : ∃ fd, FunD K x qual params body scope [] [] f fd) : PySem.W.keepIn K (.ref f) = true := by
  obtain ⟨_, F⟩ := F
  exact F.kp
end OilLaw
set_option Elab.async false
set_option linter.all false
set_option maxRecDepth 100000
set_option maxHeartbeats 2000000
set_option pp.maxSteps 4000
namespace OilLaw
open PySem PySem.Spec PyProof.Rows L2 Oil
local macro_rules | `(tactic| walk_at "kp") => `(tactic| first
  | exact Kp.refl
  | assumption
  | exact Same.kp (by assumption)
  | (refine Kp.tr (Same.kp ?_) ?_; assumption; walk_at "kp")
  | (refine Kp.tr ?_ ?_; assumption; walk_at "kp"))
local macro_rules | `(tactic| walk_at "same") => `(tactic| first
  | exact Same.refl _
  | assumption
  | (refine Same.tr ?_ ?_; assumption; walk_at "same"))
local macro_rules | `(tactic| walk_at "rp") => `(tactic| first
  | assumption
  | (refine IsSt.up ?_ ?_; assumption; walk_at "kp")
  | (refine IsWy.up ?_ ?_; assumption; walk_at "kp")
  | (refine IsPs.up ?_ ?_; assumption; walk_at "kp")
  | (refine IsPr.up ?_ ?_; assumption; walk_at "kp")
  | (refine Kp.tup ?_ ?_; rotate_left; assumption; walk_at "kp"))
/-! ### is_whole, is_integer, check_number -/
section
variable {P : Program} {w : World} {K : PySem.W.Frag} {mg : Str → Option Value} {base : Heap}
theorem sc_is_whole : FnScope ["value"] ["value"] (defScope s_is_whole) := ⟨rfl, rfl, rfl, by decide +kernel, rfl, by decide +kernel, by decide +kernel⟩
theorem ok_is_whole (T : Txt K mg) : FnR P w K mg base (L2.CX P w) 1 (He.ga K "is_whole") spWhole := by
  refine fnr T.d_is_whole sc_is_whole (fun _ _ _ _ _ _ us hl => match us, hl with | [_], _ => rfl) (fun vs H Q E h => ?_) fun cdv A outer s H vs Q E hr h => ?_
  · obtain ⟨v, rfl, _⟩ := h
    rfl
  · obtain ⟨v, rfl, ty, q⟩ := h
    obtain ⟨n, tx, e1, e2⟩ := ty.ty (K := K)
    rw [wh_eq] at q
    refine lv_one (sv_ret (ev_andV (ev_isi T.b_isinstance (ev_var 0 rfl (ev_gty T.b_int rfl ⟨_, _, tx, .ty _, _, kit_ty e1, _, rfl, br_b (fun h => ?_) fun h => ?_⟩)))))
    · rw [h, Bool.true_and] at q
      exact ev_one (ev_notV (ev_isi T.b_isinstance (ev_var 0 rfl (ev_gty T.b_bool rfl ⟨_, _, tx, .ty _, _, kit_ty e2, _, rfl, q⟩))))
    · rw [h, Bool.false_and] at q
      exact q
theorem sc_is_integer : FnScope ["value", "low", "high"] ["value", "low", "high"] (defScope s_is_integer) := ⟨rfl, rfl, rfl, by decide +kernel, rfl, by decide +kernel, by decide +kernel⟩
theorem ok_is_integer (T : Txt K mg) : FnR P w K mg base (L2.CX P w) 2 (He.ga K "is_integer") spInteger := by
  refine fnr T.d_is_integer sc_is_integer (fun _ _ _ _ _ _ us hl => match us, hl with | [_, _, _], _ => rfl) (fun vs H Q E h => ?_) fun cdv A outer s H vs Q E hr h => ?_
  · obtain ⟨v, lo, hi, rfl, _⟩ := h
    rfl
  · obtain ⟨v, lo, hi, rfl, ty, q⟩ := h
    have C := Cal.body (P := P) (w := w) (K := K) (mg := mg) (base := base) (N := ["value", "low", "high"]) (outer := outer) (H := H) (E := E) hr
    refine lv_one (sv_ret (ev_andV (ev_call C (ok_is_whole T) (by decide) T.gl_is_whole (fkp T.d_is_whole) (av_cons (ev_var 0 rfl (av_nil ⟨_, rfl, ty, _, rfl, ?_⟩))))))
    cases ty
    case int i =>
      refine ev_one (ev_chain op_le op_le (ev_var 1 rfl (ev_var 0 rfl (ic2 (fun h1 => ev_var 2 rfl (i2 ?_)) fun h1 => ?_))))
      · have e : inRg lo hi (.int i) = decide (i ≤ hi) := by simp [inRg, h1]
        rw [e] at q
        exact q
      · have e : inRg lo hi (.int i) = false := by simp [inRg, h1]
        rw [e] at q
        exact q
    all_goals exact q
theorem sc_check_number : FnScope ["number", "low", "high"] ["number", "low", "high"] (defScope s_check_number) := ⟨rfl, rfl, rfl, by decide +kernel, rfl, by decide +kernel, by decide +kernel⟩
theorem ok_check_number (T : Txt K mg) : FnR P w K mg base (L2.CX P w) 3 (He.ga K "check_number") (spCheck K) := by
  refine fnr T.d_check_number sc_check_number (fun _ _ _ _ _ _ us hl => match us, hl with | [_, _, _], _ => rfl) (fun vs H Q E h => ?_) fun cdv A outer s H vs Q E hr h => ?_
  · obtain ⟨v, lo, hi, rfl, _⟩ := h
    rfl
  · obtain ⟨v, lo, hi, rfl, ty, q1, q2⟩ := h
    have C := Cal.body (P := P) (w := w) (K := K) (mg := mg) (base := base) (N := ["number", "low", "high"]) (outer := outer) (H := H) (E := E) hr
    refine lv_one (sv_if (tv_not (tv_val (ev_call C (ok_is_integer T) (by decide) T.gl_is_integer (fkp T.d_is_integer) (av_cons (ev_var 0 rfl (av_cons (ev_var 1 rfl (av_cons (ev_var 2 rfl (av_nil ⟨_, _, _, rfl, ty, _, rfl, br_b (fun e => ?_) fun e => ?_⟩)))))))))))
    · exact lv_nil (q1 e)
    · exact lv_one (sv_raise C T.ex_InvalidNumber (q2 e))
end
end OilLaw
set_option Elab.async false
set_option linter.all false
set_option maxRecDepth 100000
set_option maxHeartbeats 2000000
set_option pp.maxSteps 4000
namespace OilLaw
open PySem PySem.Spec PyProof.Rows L2 Oil
local macro_rules | `(tactic| walk_at "kp") => `(tactic| first
  | exact Kp.refl
  | assumption
  | exact Same.kp (by assumption)
  | (refine Kp.tr (Same.kp ?_) ?_; assumption; walk_at "kp")
  | (refine Kp.tr ?_ ?_; assumption; walk_at "kp"))
local macro_rules | `(tactic| walk_at "same") => `(tactic| first
  | exact Same.refl _
  | assumption
  | (refine Same.tr ?_ ?_; assumption; walk_at "same"))
local macro_rules | `(tactic| walk_at "rp") => `(tactic| first
  | assumption
  | (refine IsSt.up ?_ ?_; assumption; walk_at "kp")
  | (refine IsWy.up ?_ ?_; assumption; walk_at "kp")
  | (refine IsPs.up ?_ ?_; assumption; walk_at "kp")
  | (refine IsPr.up ?_ ?_; assumption; walk_at "kp")
  | (refine Kp.tup ?_ ?_; rotate_left; assumption; walk_at "kp"))
/-! ### Stretch -/
section
variable {P : Program} {w : World} {K : PySem.W.Frag} {mg : Str → Option Value} {base : Heap}
theorem sc_St_init : FnScope ["self", "need", "gain", "top"] ["self", "need", "gain", "top"] (defScope s_Stretch_init) := ⟨rfl, rfl, rfl, by decide +kernel, rfl, by decide +kernel, by decide +kernel⟩
theorem ok_St_init (T : Txt K mg) : FnR P w K mg base (L2.CX P w) 2 (He.ma K (He.ga K "Stretch") "__init__") (spStInit K) := by
  refine fnr T.d_Stretch_init sc_St_init (fun _ _ _ _ _ _ us hl => match us, hl with | [_, _, _, _], _ => rfl) (fun vs H Q E h => ?_) fun cdv A outer s H vs Q E hr h => ?_
  · obtain ⟨x, dx, n, g, t, rfl, _⟩ := h
    rfl
  · obtain ⟨x, dx, n, g, t, rfl, hx, ⟨h0, h1⟩, q⟩ := h
    have C := Cal.body (P := P) (w := w) (K := K) (mg := mg) (base := base) (N := ["self", "need", "gain", "top"]) (outer := outer) (H := H) (E := E) hr
    have st : ∀ {o u : HO} {H : Hp} {a : Addr}, upd (upd H a o) a u = upd H a u := upd_upd
    cases n with
    | none =>
      refine lv_cons (sv_if (tv_w (wv_and (tv_notN (ev_var 1 rfl (bO0 (lv_nil ?_)))))))
      refine lv_cons (sv_if (tv_w (wv_or (tv_not (tv_val (ev_call C (ok_is_whole T) (by decide) T.gl_is_whole (fkp T.d_is_whole) (av_cons (ev_var 2 rfl (av_nil ⟨_, rfl, .int _, _, rfl, bT ?_⟩)))))))))
      refine wv_or1 (tv_w (wv_and (tv_notN (ev_var 1 rfl (bO0 (lv_nil ?_))))))
      refine lv_cons (sv_if (tv_w (wv_or (tv_not (tv_val (ev_call C (ok_is_whole T) (by decide) T.gl_is_whole (fkp T.d_is_whole) (av_cons (ev_var 3 rfl (av_nil ⟨_, rfl, .int _, _, rfl, bT ?_⟩)))))))))
      refine wv_or1 (tv_cmp op_lt (ev_var 3 rfl (ev_int (ti2 (fun h => absurd h0 (by omega)) fun _ => lv_nil ?_))))
      refine lv_cons (sv_fld (ev_var 1 rfl (ev_var 0 rfl ⟨_, _, _, _, rfl, hx, T.cls_Stretch, T.no_Stretch_least, put0, ?_⟩)))
      refine lv_cons (sv_fld (ev_if (tv_isN (ev_var 1 rfl (bN1 (ev_int (ev_var 0 rfl ⟨_, _, _, _, rfl, upd_same, T.cls_Stretch, T.no_Stretch_more, put1, ?_⟩)))))))
      refine lv_one (sv_fld (ev_if (tv_isN (ev_var 1 rfl (bN1 (ev_int (ev_var 0 rfl ⟨_, _, _, _, rfl, upd_same, T.cls_Stretch, T.no_Stretch_most, put2, ?_⟩)))))))
      rw [st, st]
      exact q
    | some n =>
      refine lv_cons (sv_if (tv_w (wv_and (tv_notN (ev_var 1 rfl (bO1 (wv_and1 (tv_w (wv_or (tv_not (tv_val (ev_call C (ok_is_whole T) (by decide) T.gl_is_whole (fkp T.d_is_whole) (av_cons (ev_var 1 rfl (av_nil ⟨_, rfl, .int _, _, rfl, bT ?_⟩)))))))))))))))
      refine wv_or1 (tv_cmp op_lt (ev_var 1 rfl (ev_int (ti2 (fun h => absurd h1.1 (by omega)) fun _ => lv_nil ?_))))
      refine lv_cons (sv_if (tv_w (wv_or (tv_not (tv_val (ev_call C (ok_is_whole T) (by decide) T.gl_is_whole (fkp T.d_is_whole) (av_cons (ev_var 2 rfl (av_nil ⟨_, rfl, .int _, _, rfl, bT ?_⟩)))))))))
      refine wv_or1 (tv_w (wv_and (tv_notN (ev_var 1 rfl (bO1 (wv_and1 (tv_cmp op_lt (ev_bin op_add (ev_var 1 rfl (ev_var 2 rfl (i2 (ev_int (ti2 (fun h => absurd h1.2 (by omega)) fun _ => lv_nil ?_)))))))))))))
      refine lv_cons (sv_if (tv_w (wv_or (tv_not (tv_val (ev_call C (ok_is_whole T) (by decide) T.gl_is_whole (fkp T.d_is_whole) (av_cons (ev_var 3 rfl (av_nil ⟨_, rfl, .int _, _, rfl, bT ?_⟩)))))))))
      refine wv_or1 (tv_cmp op_lt (ev_var 3 rfl (ev_int (ti2 (fun h => absurd h0 (by omega)) fun _ => lv_nil ?_))))
      refine lv_cons (sv_fld (ev_var 1 rfl (ev_var 0 rfl ⟨_, _, _, _, rfl, hx, T.cls_Stretch, T.no_Stretch_least, put0, ?_⟩)))
      refine lv_cons (sv_fld (ev_if (tv_isN (ev_var 1 rfl (bN0 (ev_var 2 rfl (ev_var 0 rfl ⟨_, _, _, _, rfl, upd_same, T.cls_Stretch, T.no_Stretch_more, put1, ?_⟩)))))))
      refine lv_one (sv_fld (ev_if (tv_isN (ev_var 1 rfl (bN0 (ev_var 3 rfl (ev_var 0 rfl ⟨_, _, _, _, rfl, upd_same, T.cls_Stretch, T.no_Stretch_most, put2, ?_⟩)))))))
      rw [st, st]
      exact q
/-- Stretch(n, g, t) -/
theorem st_made {X : Cx} (T : Txt X.K X.mg) {Q : VK} {E : XK} {vs : List V} {H1 : Hp} (h : ∃ n g t, vs = [vN n, .int g, .int t] ∧ argOk n g t ∧ ∀ H' v, Same H1 H' → IsSt X.K H' v (mkS n g t) → Q v H') :
    ∀ x dx, H1 x = Option.none → H1 dx = Option.none → dx ≠ x → spStInit X.K (V.ref x :: vs) (upd (upd H1 dx (.own x)) x (.ins (He.ga X.K "Stretch") dx [])) (fun v H2 => v = .non ∧ Q (.ref x) H2) E := by
  obtain ⟨n, g, t, rfl, ho, k⟩ := h
  intro x dx hx hdx ne
  refine ⟨x, dx, n, g, t, rfl, upd_same, ho, rfl, ?_⟩
  rw [upd_upd]
  exact k _ _ (Same.trans (same_upd hdx) (same_upd (by rw [upd_ne (Ne.symm ne)]; exact hx))) ⟨mkS_ok ho, x, dx, rfl, upd_same⟩
section
variable {X : Cx} {e : Expr} {es : List Expr} {σ : L2.St} {H : Hp} {Q : VK} {D : Ends} {k j : Nat} {E : XK} {x : Str} {p pos apos : Pos}
theorem ev_St (T : Txt X.K X.mg) (C : Cal X k E) (hk : 3 ≤ k) (q : AV X (e :: es) σ H fun vs H1 => ∃ n g t, vs = [vN n, .int g, .int t] ∧ argOk n g t ∧ ∀ H' v, Same H1 H' → IsSt X.K H' v (mkS n g t) → Q v H') (hg : Gl X "Stretch" := by rfl)
    (he : starEach (e :: es) X.env = (false, eval e X.env) :: starEach es X.env := by rfl) (hpl : (backTo pos (starEach es X.env)).any (·.1) = false := by rfl) : EV X (.Call (.Name "Stretch" p) (e :: es) [] pos) σ H Q :=
  ev_mk C T.mk_Stretch (ok_St_init T) hk T.gl_Stretch (AV.mono q fun vs H1 h => st_made T h) hg (by decide) he hpl
end
theorem sc_joined : FnScope ["first", "second", "least"] ["first", "second"] (defScope s_joined) := ⟨rfl, rfl, rfl, by decide +kernel, rfl, by decide +kernel, by decide +kernel⟩
theorem ok_joined (T : Txt K mg) : FnR P w K mg base (L2.CX P w) 4 (He.ga K "joined") (spJoin K) := by
  refine fnr T.d_joined sc_joined (fun _ _ _ _ _ _ us hl => match us, hl with | [_, _], _ => rfl) (fun vs H Q E h => ?_) fun cdv A outer s H vs Q E hr h => ?_
  · obtain ⟨v1, v2, a, b, rfl, _⟩ := h
    rfl
  · obtain ⟨v1, v2, a, b, rfl, ha, hb, q⟩ := h
    have C := Cal.body (P := P) (w := w) (K := K) (mg := mg) (base := base) (N := ["first", "second", "least"]) (outer := outer) (H := H) (E := E) hr
    have oa := ha.1
    have ob := hb.1
    refine lv_cons (sv_if (tv_w (wv_or (tv_isN (ev_least T.cls_Stretch T.no_Stretch_least (ev_var 0 rfl ⟨_, ha, ?_⟩))))))
    obtain ⟨na, ga, ta⟩ := a
    obtain ⟨nb, gb, tb⟩ := b
    cases na with
    | none => exact bN1 (lv_one (sv_ret (ev_St T C (by decide) (av_cons (ev_non (av_cons (ev_int (av_cons (ev_int (av_nil ⟨none, _, _, rfl, ⟨by decide, trivial⟩, fun H' v hS hv => q H' v hS hv⟩)))))))))) 
    | some n =>
      refine bN0 (wv_or (tv_isN (ev_least T.cls_Stretch T.no_Stretch_least (ev_var 1 rfl ⟨_, hb, ?_⟩))))
      cases nb with
      | none => exact bN1 (lv_one (sv_ret (ev_St T C (by decide) (av_cons (ev_non (av_cons (ev_int (av_cons (ev_int (av_nil ⟨none, _, _, rfl, ⟨by decide, trivial⟩, fun H' v hS hv => q H' v hS hv⟩)))))))))) 
      | some m =>
        refine bN0 (wv_or1 (tv_cmp op_lt (ev_most T.cls_Stretch T.no_Stretch_most (ev_var 0 rfl ⟨_, ha, ev_least T.cls_Stretch T.no_Stretch_least (ev_var 1 rfl ⟨_, hb, ti2 (fun h => ?_) fun h => lv_nil ?_⟩)⟩))))
        · refine lv_one (sv_ret (ev_St T C (by decide) (av_cons (ev_non (av_cons (ev_int (av_cons (ev_int (av_nil ⟨none, _, _, rfl, ⟨by decide, trivial⟩, fun H' v hS hv => q H' v hS ?_⟩)))))))))
          have e : St3.join ⟨some n, ga, ta⟩ ⟨some m, gb, tb⟩ = bar := if_pos h
          rw [e]
          exact hv
        · refine lv_cons (sv_set 2 (ev_callB C.calm (call_max2 C.calm) T.b_max (av_cons (ev_least T.cls_Stretch T.no_Stretch_least (ev_var 0 rfl ⟨_, ha, av_cons (ev_bin op_sub (ev_least T.cls_Stretch T.no_Stretch_least (ev_var 1 rfl ⟨_, hb, ev_more T.cls_Stretch T.no_Stretch_more (ev_var 0 rfl ⟨_, ha, i2 (av_nil ⟨_, _, rfl, ?_⟩)⟩)⟩)))⟩)))) sc_joined.nd)
          simp only [St3.ok] at oa ob
          have h' : ¬ ta < m := h
          refine lv_one (sv_ret (ev_St T C (by decide) (av_cons (ev_var 2 rfl (av_cons (ev_bin op_add (ev_more T.cls_Stretch T.no_Stretch_more (ev_var 0 rfl ⟨_, ha, ev_more T.cls_Stretch T.no_Stretch_more (ev_var 1 rfl ⟨_, hb, i2 (av_cons (ev_callB C.calm (call_min2 C.calm) T.b_min (av_cons (ev_bin op_add (ev_most T.cls_Stretch T.no_Stretch_most (ev_var 0 rfl ⟨_, ha, ev_more T.cls_Stretch T.no_Stretch_more (ev_var 1 rfl ⟨_, hb, i2 (av_cons (ev_most T.cls_Stretch T.no_Stretch_most (ev_var 1 rfl ⟨_, hb, av_nil ⟨_, _, rfl, av_nil ⟨some _, _, _, rfl, ?_, fun H' v hS hv => q H' v hS ?_⟩⟩⟩)))⟩)⟩))))))⟩)⟩))))))))
          · refine ⟨?_, ?_, ?_⟩
            · show 0 ≤ (if tb < ta + gb then tb else ta + gb)
              split <;> omega
            · show 0 ≤ (if m - ga > n then m - ga else n)
              split <;> omega
            · show 0 ≤ (if m - ga > n then m - ga else n) + (ga + gb)
              split <;> omega
          · have e : St3.join ⟨some n, ga, ta⟩ ⟨some m, gb, tb⟩ = _ := if_neg h
            rw [e]
            have e1 : (if m - ga > n then m - ga else n) = max n (m - ga) := by split <;> omega
            have e2 : (if tb < ta + gb then tb else ta + gb) = min (ta + gb) tb := by split <;> omega
            show IsSt K H' v ⟨some (max n (m - ga)), ga + gb, min (ta + gb) tb⟩
            rw [← e1, ← e2]
            exact hv
end
end OilLaw
set_option Elab.async false
set_option linter.all false
set_option maxRecDepth 100000
set_option maxHeartbeats 2000000
set_option pp.maxSteps 4000
namespace OilLaw
open PySem PySem.Spec PyProof.Rows L2 Oil
local macro_rules | `(tactic| walk_at "kp") => `(tactic| first
  | exact Kp.refl
  | assumption
  | exact Same.kp (by assumption)
  | (refine Kp.tr (Same.kp ?_) ?_; assumption; walk_at "kp")
  | (refine Kp.tr ?_ ?_; assumption; walk_at "kp"))
local macro_rules | `(tactic| walk_at "same") => `(tactic| first
  | exact Same.refl _
  | assumption
  | (refine Same.tr ?_ ?_; assumption; walk_at "same"))
local macro_rules | `(tactic| walk_at "rp") => `(tactic| first
  | assumption
  | (refine IsSt.up ?_ ?_; assumption; walk_at "kp")
  | (refine IsWy.up ?_ ?_; assumption; walk_at "kp")
  | (refine IsPs.up ?_ ?_; assumption; walk_at "kp")
  | (refine IsPr.up ?_ ?_; assumption; walk_at "kp")
  | (refine Kp.tup ?_ ?_; rotate_left; assumption; walk_at "kp"))
section
variable {P : Program} {w : World} {K : PySem.W.Frag} {mg : Str → Option Value} {base : Heap}
theorem sc_parts_of : FnScope ["stretch"] ["stretch"] (defScope s_parts_of) := ⟨rfl, rfl, rfl, by decide +kernel, rfl, by decide +kernel, by decide +kernel⟩
theorem ok_parts_of (T : Txt K mg) : FnR P w K mg base (L2.CX P w) 1 (He.ga K "parts_of") (spPartsOf K) := by
  refine fnr T.d_parts_of sc_parts_of (fun _ _ _ _ _ _ us hl => match us, hl with | [_], _ => rfl) (fun vs H Q E h => ?_) fun cdv A outer s H vs Q E hr h => ?_
  · obtain ⟨v, s, rfl, hs, q⟩ := h
    rfl
  · obtain ⟨v, s, rfl, hs, q⟩ := h
    have C := Cal.body (P := P) (w := w) (K := K) (mg := mg) (base := base) (N := ["stretch"]) (outer := outer) (H := H) (E := E) hr
    refine lv_one ?_
    refine sv_ret ?_
    refine ev_tup ?_
    refine av_cons ?_
    refine ev_least T.cls_Stretch T.no_Stretch_least ?_
    refine ev_var 0 rfl ?_
    refine ⟨_, (by walk_at "rp"), ?_⟩
    refine av_cons ?_
    refine ev_more T.cls_Stretch T.no_Stretch_more ?_
    refine ev_var 0 rfl ?_
    refine ⟨_, (by walk_at "rp"), ?_⟩
    refine av_cons ?_
    refine ev_most T.cls_Stretch T.no_Stretch_most ?_
    refine ev_var 0 rfl ?_
    refine ⟨_, (by walk_at "rp"), ?_⟩
    refine av_nil ?_
    refine ⟨by show 3 ≤ sizeLine; decide, fun H1 p1 S1 h1 z1 => ?_⟩
    exact q _ _ S1 h1
theorem sc_Stretch_bool : FnScope ["self"] ["self"] (defScope s_Stretch_bool) := ⟨rfl, rfl, rfl, by decide +kernel, rfl, by decide +kernel, by decide +kernel⟩
theorem ok_Stretch_bool (T : Txt K mg) : FnR P w K mg base (L2.CX P w) 1 (He.ma K (He.ga K "Stretch") "__bool__") (spStBool K) := by
  refine fnr T.d_Stretch_bool sc_Stretch_bool (fun _ _ _ _ _ _ us hl => match us, hl with | [_], _ => rfl) (fun vs H Q E h => ?_) fun cdv A outer s H vs Q E hr h => ?_
  · obtain ⟨v, s, rfl, hs, q⟩ := h
    rfl
  · obtain ⟨v, s, rfl, hs, q⟩ := h
    have C := Cal.body (P := P) (w := w) (K := K) (mg := mg) (base := base) (N := ["self"]) (outer := outer) (H := H) (E := E) hr
    refine lv_one ?_
    refine sv_ret ?_
    refine ev_notN ?_
    refine ev_least T.cls_Stretch T.no_Stretch_least ?_
    refine ev_var 0 rfl ?_
    refine ⟨_, (by walk_at "rp"), ?_⟩
    obtain ⟨n, g, t⟩ := s
    cases n with
    | none => exact q
    | some n => exact q
theorem sc_Stretch_call : FnScope ["self", "oil"] ["self", "oil"] (defScope s_Stretch_call) := ⟨rfl, rfl, rfl, by decide +kernel, rfl, by decide +kernel, by decide +kernel⟩
theorem ok_Stretch_call (T : Txt K mg) : FnR P w K mg base (L2.CX P w) 2 (He.ma K (He.ga K "Stretch") "__call__") (spStCall K) := by
  refine fnr T.d_Stretch_call sc_Stretch_call (fun _ _ _ _ _ _ us hl => match us, hl with | [_, _], _ => rfl) (fun vs H Q E h => ?_) fun cdv A outer s H vs Q E hr h => ?_
  · obtain ⟨v, s, o, rfl, hs, ty, q1, q2⟩ := h
    rfl
  · obtain ⟨v, s, o, rfl, hs, ty, q1, q2⟩ := h
    have C := Cal.body (P := P) (w := w) (K := K) (mg := mg) (base := base) (N := ["self", "oil"]) (outer := outer) (H := H) (E := E) hr
    obtain ⟨n, g, t⟩ := s
    cases ty
    · have _z := hs
      refine lv_cons ?_
      refine sv_if ?_
      refine tv_w ?_
      refine wv_or ?_
      refine tv_not ?_
      refine tv_val ?_
      refine ev_call C (ok_is_whole T) (by decide) T.gl_is_whole (fkp T.d_is_whole) ?_
      refine av_cons ?_
      refine ev_var 1 rfl ?_
      refine av_nil ?_
      refine ⟨_, rfl, .non, ?_⟩
      refine ⟨_, rfl, bF ?_⟩
      refine lv_one ?_
      exact sv_raise C T.ex_InvalidNumber (q2 fun i e => by cases e)
    · have _z := hs
      refine lv_cons ?_
      refine sv_if ?_
      refine tv_w ?_
      refine wv_or ?_
      refine tv_not ?_
      refine tv_val ?_
      refine ev_call C (ok_is_whole T) (by decide) T.gl_is_whole (fkp T.d_is_whole) ?_
      refine av_cons ?_
      refine ev_var 1 rfl ?_
      refine av_nil ?_
      refine ⟨_, rfl, .bl _, ?_⟩
      refine ⟨_, rfl, bF ?_⟩
      refine lv_one ?_
      exact sv_raise C T.ex_InvalidNumber (q2 fun i e => by cases e)
    · rename_i i
      refine lv_cons ?_
      refine sv_if ?_
      refine tv_w ?_
      refine wv_or ?_
      refine tv_not ?_
      refine tv_val ?_
      refine ev_call C (ok_is_whole T) (by decide) T.gl_is_whole (fkp T.d_is_whole) ?_
      refine av_cons ?_
      refine ev_var 1 rfl ?_
      refine av_nil ?_
      refine ⟨_, rfl, .int _, ?_⟩
      refine ⟨_, rfl, bT ?_⟩
      refine wv_or1 ?_
      refine tv_cmp op_lt ?_
      refine ev_var 1 rfl ?_
      refine ev_int ?_
      refine ti2 ?_ ?_
      · intro c3
        refine lv_one ?_
        exact sv_raise C T.ex_InvalidNumber (q2 fun i e => by cases e; exact c3)
      · intro c3
        refine lv_nil ?_
        refine lv_cons ?_
        refine sv_if ?_
        refine tv_w ?_
        refine wv_or ?_
        refine tv_isN ?_
        refine ev_least T.cls_Stretch T.no_Stretch_least ?_
        refine ev_var 0 rfl ?_
        refine ⟨_, (by walk_at "rp"), ?_⟩
        refine brO ?_ ?_
        · intro hN
          cases (show n = none from hN)
          refine lv_one ?_
          refine sv_ret ?_
          refine ev_non ?_
          exact q1 i rfl (by omega)
        · intro nn hN
          cases (show n = some nn from hN)
          refine wv_or1 ?_
          refine tv_cmp op_lt ?_
          refine ev_var 1 rfl ?_
          refine ev_least T.cls_Stretch T.no_Stretch_least ?_
          refine ev_var 0 rfl ?_
          refine ⟨_, (by walk_at "rp"), ?_⟩
          refine ti2 ?_ ?_
          · intro c4
            refine lv_one ?_
            refine sv_ret ?_
            refine ev_non ?_
            have e1 : St3.call ⟨some nn, g, t⟩ i = none := if_pos c4
            have z := q1 i rfl (by omega)
            rw [e1] at z
            exact z
          · intro c4
            refine lv_nil ?_
            refine lv_one ?_
            refine sv_ret ?_
            refine ev_callB C.calm (call_min2 C.calm) T.b_min ?_
            refine av_cons ?_
            refine ev_most T.cls_Stretch T.no_Stretch_most ?_
            refine ev_var 0 rfl ?_
            refine ⟨_, (by walk_at "rp"), ?_⟩
            refine av_cons ?_
            refine ev_bin op_add ?_
            refine ev_var 1 rfl ?_
            refine ev_more T.cls_Stretch T.no_Stretch_more ?_
            refine ev_var 0 rfl ?_
            refine ⟨_, (by walk_at "rp"), ?_⟩
            refine i2 ?_
            refine av_nil ?_
            refine ⟨_, _, rfl, ?_⟩
            have e1 : St3.call ⟨some nn, g, t⟩ i = some (min t (i + g)) := if_neg c4
            have z := q1 i rfl (by omega)
            rw [e1] at z
            have e2 : (if i + g < t then i + g else t) = min t (i + g) := by split <;> omega
            show Q (.int (if i + g < t then i + g else t)) H
            rw [e2]
            exact z
    · have _z := hs
      refine lv_cons ?_
      refine sv_if ?_
      refine tv_w ?_
      refine wv_or ?_
      refine tv_not ?_
      refine tv_val ?_
      refine ev_call C (ok_is_whole T) (by decide) T.gl_is_whole (fkp T.d_is_whole) ?_
      refine av_cons ?_
      refine ev_var 1 rfl ?_
      refine av_nil ?_
      refine ⟨_, rfl, .str _, ?_⟩
      refine ⟨_, rfl, bF ?_⟩
      refine lv_one ?_
      exact sv_raise C T.ex_InvalidNumber (q2 fun i e => by cases e)
    · have _z := hs
      refine lv_cons ?_
      refine sv_if ?_
      refine tv_w ?_
      refine wv_or ?_
      refine tv_not ?_
      refine tv_val ?_
      refine ev_call C (ok_is_whole T) (by decide) T.gl_is_whole (fkp T.d_is_whole) ?_
      refine av_cons ?_
      refine ev_var 1 rfl ?_
      refine av_nil ?_
      refine ⟨_, rfl, (.lst (by assumption)), ?_⟩
      refine ⟨_, rfl, bF ?_⟩
      refine lv_one ?_
      exact sv_raise C T.ex_InvalidNumber (q2 fun i e => by cases e)
    · have _z := hs
      refine lv_cons ?_
      refine sv_if ?_
      refine tv_w ?_
      refine wv_or ?_
      refine tv_not ?_
      refine tv_val ?_
      refine ev_call C (ok_is_whole T) (by decide) T.gl_is_whole (fkp T.d_is_whole) ?_
      refine av_cons ?_
      refine ev_var 1 rfl ?_
      refine av_nil ?_
      refine ⟨_, rfl, (.tup (by assumption)), ?_⟩
      refine ⟨_, rfl, bF ?_⟩
      refine lv_one ?_
      exact sv_raise C T.ex_InvalidNumber (q2 fun i e => by cases e)
end
end OilLaw
set_option Elab.async false
set_option linter.all false
set_option maxRecDepth 100000
set_option maxHeartbeats 2000000
set_option pp.maxSteps 4000
namespace OilLaw
open PySem PySem.Spec PyProof.Rows L2 Oil
local macro_rules | `(tactic| walk_at "kp") => `(tactic| first
  | exact Kp.refl
  | assumption
  | exact Same.kp (by assumption)
  | (refine Kp.tr (Same.kp ?_) ?_; assumption; walk_at "kp")
  | (refine Kp.tr ?_ ?_; assumption; walk_at "kp"))
local macro_rules | `(tactic| walk_at "same") => `(tactic| first
  | exact Same.refl _
  | assumption
  | (refine Same.tr ?_ ?_; assumption; walk_at "same"))
local macro_rules | `(tactic| walk_at "rp") => `(tactic| first
  | assumption
  | (refine IsSt.up ?_ ?_; assumption; walk_at "kp")
  | (refine IsWy.up ?_ ?_; assumption; walk_at "kp")
  | (refine IsPs.up ?_ ?_; assumption; walk_at "kp")
  | (refine IsPr.up ?_ ?_; assumption; walk_at "kp")
  | (refine Kp.tup ?_ ?_; rotate_left; assumption; walk_at "kp"))
section
variable {P : Program} {w : World} {K : PySem.W.Frag} {mg : Str → Option Value} {base : Heap}
theorem sc_repeated : FnScope ["stretch", "times", "found", "power", "left"] ["stretch", "times"] (defScope s_repeated) := ⟨rfl, rfl, rfl, by decide +kernel, rfl, by decide +kernel, by decide +kernel⟩
theorem ok_repeated (T : Txt K mg) : FnR P w K mg base (L2.CX P w) 5 (He.ga K "repeated") (spRep K) := by
  refine fnr T.d_repeated sc_repeated (fun _ _ _ _ _ _ us hl => match us, hl with | [_, _], _ => rfl) (fun vs H Q E h => ?_) fun cdv A outer s H vs Q E hr h => ?_
  · obtain ⟨v, a, o, rfl, _⟩ := h
    rfl
  · obtain ⟨v, a, o, rfl, ha, ty, q1, q2⟩ := h
    have C := Cal.body (P := P) (w := w) (K := K) (mg := mg) (base := base) (N := ["stretch", "times", "found", "power", "left"]) (outer := outer) (H := H) (E := E) hr
    refine lv_cons (sv_if (tv_not (tv_val (ev_call C (ok_is_integer T) (by decide) T.gl_is_integer (fkp T.d_is_integer) (av_cons (ev_var 1 rfl (av_cons (ev_int (av_cons (ev_gint T.k_MAX_TIMES (av_nil ⟨_, _, _, rfl, ty, _, rfl, ?_⟩)))))))))))
    cases hb : inRg 1 (10 ^ 18) o with
    | false => exact br_kf hb (lv_one (sv_raise C T.ex_InvalidNumber (q2 hb)))
    | true =>
      refine br_kt hb (lv_nil ?_)
      obtain ⟨t, rfl⟩ : ∃ t, o = .int t := by
        cases o with
        | int t => exact ⟨t, rfl⟩
        | _ => cases hb
      simp only [inRg, Bool.and_eq_true, decide_eq_true_eq] at hb
      obtain ⟨b1, b2⟩ := hb
      have k := q1 t rfl b1 b2
      refine lv_cons (sv_par3 2 3 4 C.calm sc_repeated.nd (av_cons (ev_non (av_cons (ev_var 0 rfl (av_cons (ev_var 1 rfl (av_nil ⟨_, _, _, rfl, ?_⟩))))))))
      refine lv_cons (sv_while (fun σ' H' => ∃ (fv pv : V) (l : Int) (m p : Nat), σ' = [some v, some (.int t), some fv, some pv, some (.int l)] ∧ Same H H' ∧ 0 ≤ l ∧ 1 ≤ p ∧ (m : Int) + l * p = t ∧ IsSt K H' pv (a.pw p) ∧ ((m = 0 ∧ fv = .non) ∨ (1 ≤ m ∧ IsSt K H' fv (a.pw m)))) (fun σ' _ => match σ'[4]? with | some (some (V.int l)) => l.toNat | _ => 0)
        ⟨.non, v, t, 0, 1, rfl, Same.refl _, by omega, by decide, by omega, ha, .inl ⟨rfl, rfl⟩⟩ C.po ?_)
      rintro σ' H' ⟨fv, pv, l, m, p, rfl, hS, hl0, hp, hmp, hpv, hfv⟩
      refine tv_cmp op_gt (ev_var 4 rfl (ev_int (ti2 (fun hl => ?_) fun hl => ?_)))
      · refine lv_cut (fun σ2 H2 => ∃ (fv' : V) (m' : Nat), σ2 = [some v, some (.int t), some fv', some pv, some (.int l)] ∧ Same H' H2 ∧ (m' : Int) + (l / 2) * (2 * p : Nat) = t ∧ ((m' = 0 ∧ fv' = .non) ∨ (1 ≤ m' ∧ IsSt K H2 fv' (a.pw m')))) (sv_if (tv_cmp op_eq (ev_bin op_mod (ev_callT call_int1 T.b_int (av_cons (ev_var 4 rfl (av_nil (Or.inl ⟨_, rfl, ev_int (i2c (by omega) (ev_int (teqi (fun h1 => ?_) fun h1 => ?_)))⟩)))))))) ?_
        · -- odd
          have e : (l / 2) * (2 * p : Nat) = (l - 1) * p := by
            rw [show ((2 * p : Nat) : Int) = 2 * (p : Int) by omega, ← Int.mul_assoc]
            congr 1
            omega
          have e3 : (l - 1) * (p : Int) = l * p - p := by rw [Int.sub_mul, Int.one_mul]
          refine lv_one (sv_set 2 (ev_if (tv_isN (ev_var 2 rfl ?_))) sc_repeated.nd)
          rcases hfv with ⟨e0, rfl⟩ | ⟨hm, hf⟩
          · refine bN1 (ev_var 3 rfl ⟨pv, p, rfl, Same.refl _, ?_, .inr ⟨hp, hpv⟩⟩)
            rw [e, e3]
            omega
          · have hf' := hf
            obtain ⟨_, fa, _, rfl, _⟩ := hf'
            refine bN2 (ev_call C (ok_joined T) (by decide) T.gl_joined (fkp T.d_joined) (av_cons (ev_var 2 rfl (av_cons (ev_var 3 rfl (av_nil ⟨_, _, _, _, rfl, hf, hpv, fun H2 v2 S2 f2 => ⟨v2, m + p, rfl, S2, ?_, .inr ⟨by omega, ?_⟩⟩⟩))))))
            · rw [e, e3]
              omega
            · rw [pw_add a hm hp] at f2
              exact f2
        · -- even
          refine lv_nil ⟨fv, m, rfl, Same.refl _, ?_, hfv⟩
          have e : (l / 2) * (2 * p : Nat) = l * p := by
            rw [show ((2 * p : Nat) : Int) = 2 * (p : Int) by omega, ← Int.mul_assoc]
            congr 1
            omega
          rw [e]
          exact hmp
        · rintro σ2 H2 ⟨fv', m', rfl, S2, hm', hfv'⟩
          have hpv2 : IsSt K H2 pv (a.pw p) := hpv.up (Same.kp S2)
          refine lv_one (sv_par2 3 4 C.calm sc_repeated.nd (av_cons (ev_call C (ok_joined T) (by decide) T.gl_joined (fkp T.d_joined) (av_cons (ev_var 3 rfl (av_cons (ev_var 3 rfl (av_nil ⟨_, _, _, _, rfl, hpv2, hpv2, fun H3 v3 S3 f3 => av_cons (ev_bin op_fdiv (ev_var 4 rfl (ev_int (i2c ⟨by decide, by decide⟩ (av_nil ⟨_, _, rfl, ⟨fv', v3, l / 2, m', 2 * p, rfl, (hS.trans S2).trans S3, by omega, by omega, hm', ?_, ?_⟩, ?_⟩)))))⟩))))))))
          · rw [pw_add a hp hp, show p + p = 2 * p by omega] at f3
            exact f3
          · rcases hfv' with h | ⟨h1, h2⟩
            · exact .inl h
            · exact .inr ⟨h1, h2.up (Same.kp S3)⟩
          · show (l / 2).toNat < l.toNat
            omega
      · have e : l = 0 := by omega
        subst e
        have em : (m : Int) = t := by omega
        refine lv_one (sv_ret (ev_var 2 rfl ?_))
        rcases hfv with ⟨e0, _⟩ | ⟨hm, hf⟩
        · omega
        · have e2 : t.toNat = m := by omega
          rw [e2] at k
          exact k _ _ hS hf
end
end OilLaw
set_option Elab.async false
set_option linter.all false
set_option maxRecDepth 100000
set_option maxHeartbeats 2000000
set_option pp.maxSteps 4000
namespace OilLaw
open PySem PySem.Spec PyProof.Rows L2 Oil
local macro_rules | `(tactic| walk_at "kp") => `(tactic| first
  | exact Kp.refl
  | assumption
  | exact Same.kp (by assumption)
  | (refine Kp.tr (Same.kp ?_) ?_; assumption; walk_at "kp")
  | (refine Kp.tr ?_ ?_; assumption; walk_at "kp"))
local macro_rules | `(tactic| walk_at "same") => `(tactic| first
  | exact Same.refl _
  | assumption
  | (refine Same.tr ?_ ?_; assumption; walk_at "same"))
local macro_rules | `(tactic| walk_at "rp") => `(tactic| first
  | assumption
  | (refine IsSt.up ?_ ?_; assumption; walk_at "kp")
  | (refine IsWy.up ?_ ?_; assumption; walk_at "kp")
  | (refine IsPs.up ?_ ?_; assumption; walk_at "kp")
  | (refine IsPr.up ?_ ?_; assumption; walk_at "kp")
  | (refine Kp.tup ?_ ?_; rotate_left; assumption; walk_at "kp"))
section
variable {P : Program} {w : World} {K : PySem.W.Frag} {mg : Str → Option Value} {base : Heap}
theorem sc_Stretch_eq : FnScope ["self", "other"] ["self", "other"] (defScope s_Stretch_eq) := ⟨rfl, rfl, rfl, by decide +kernel, rfl, by decide +kernel, by decide +kernel⟩
theorem ok_Stretch_eq (T : Txt K mg) : FnR P w K mg base (L2.CX P w) 2 (He.ma K (He.ga K "Stretch") "__eq__") (spStEq K) := by
  refine fnr T.d_Stretch_eq sc_Stretch_eq (fun _ _ _ _ _ _ us hl => match us, hl with | [_, _], _ => rfl) (fun vs H Q E h => ?_) fun cdv A outer s H vs Q E hr h => ?_
  · obtain ⟨v, s, o, rfl, _⟩ := h
    rfl
  · obtain ⟨v, s, o, rfl, hs, q⟩ := h
    have C := Cal.body (P := P) (w := w) (K := K) (mg := mg) (base := base) (N := ["self", "other"]) (outer := outer) (H := H) (E := E) hr
    refine lv_one (sv_ret (ev_andV (ev_isi T.b_isinstance (ev_var 1 rfl (ev_gref T.gl_Stretch ?_)))))
    rcases q with ⟨s', hs', q⟩ | ⟨ty, q⟩
    · refine ⟨_, _, hs'.ty T.isi_Stretch T.cls_Stretch, .own _, _, kit_self, _, rfl, bT ?_⟩
      refine ev_one (ev_cmp (op_eqD C.hr.units) ?_)
      refine ev_call C (ok_parts_of T) (by decide) T.gl_parts_of (fkp T.d_parts_of) (av_cons (ev_var 0 rfl (av_nil ⟨_, _, rfl, hs, fun H1 p1 S1 h1 => ?_⟩)))
      refine ev_call C (ok_parts_of T) (by decide) T.gl_parts_of (fkp T.d_parts_of) (av_cons (ev_var 1 rfl (av_nil ⟨_, _, rfl, hs'.up (Same.kp S1), fun H2 p2 S2 h2 => ?_⟩)))
      refine ⟨_, _, dp_st (S2 _ _ h1), dp_st h2, shaped_st _, shaped_st _, ?_⟩
      rw [eqv_st]
      exact q _ (S1.trans S2)
    · obtain ⟨n, tx, hn⟩ := ty.tyn (K := K) (He.ga K "Stretch")
      exact ⟨_, _, tx, .own _, _, T.isi_Stretch.not hn, _, rfl, bF (q _ (Same.refl _))⟩
theorem sc_Stretch_add : FnScope ["self", "other"] ["self", "other"] (defScope s_Stretch_add) := ⟨rfl, rfl, rfl, by decide +kernel, rfl, by decide +kernel, by decide +kernel⟩
theorem ok_Stretch_add (T : Txt K mg) : FnR P w K mg base (L2.CX P w) 5 (He.ma K (He.ga K "Stretch") "__add__") (spJoin K) := by
  refine fnr T.d_Stretch_add sc_Stretch_add (fun _ _ _ _ _ _ us hl => match us, hl with | [_, _], _ => rfl) (fun vs H Q E h => ?_) fun cdv A outer s H vs Q E hr h => ?_
  · obtain ⟨v1, v2, a, b, rfl, _⟩ := h
    rfl
  · obtain ⟨v1, v2, a, b, rfl, ha, hb, q⟩ := h
    have C := Cal.body (P := P) (w := w) (K := K) (mg := mg) (base := base) (N := ["self", "other"]) (outer := outer) (H := H) (E := E) hr
    exact lv_one (sv_ret (ev_call C (ok_joined T) (by decide) T.gl_joined (fkp T.d_joined) (av_cons (ev_var 0 rfl (av_cons (ev_var 1 rfl (av_nil ⟨_, _, _, _, rfl, ha, hb, q⟩)))))))
theorem sc_Stretch_mul : FnScope ["self", "times"] ["self", "times"] (defScope s_Stretch_mul) := ⟨rfl, rfl, rfl, by decide +kernel, rfl, by decide +kernel, by decide +kernel⟩
theorem ok_Stretch_mul (T : Txt K mg) : FnR P w K mg base (L2.CX P w) 6 (He.ma K (He.ga K "Stretch") "__mul__") (spRep K) := by
  refine fnr T.d_Stretch_mul sc_Stretch_mul (fun _ _ _ _ _ _ us hl => match us, hl with | [_, _], _ => rfl) (fun vs H Q E h => ?_) fun cdv A outer s H vs Q E hr h => ?_
  · obtain ⟨v1, a, o, rfl, _⟩ := h
    rfl
  · obtain ⟨v1, a, o, rfl, ha, ty, q1, q2⟩ := h
    have C := Cal.body (P := P) (w := w) (K := K) (mg := mg) (base := base) (N := ["self", "times"]) (outer := outer) (H := H) (E := E) hr
    exact lv_one (sv_ret (ev_call C (ok_repeated T) (by decide) T.gl_repeated (fkp T.d_repeated) (av_cons (ev_var 0 rfl (av_cons (ev_var 1 rfl (av_nil ⟨_, _, _, rfl, ha, ty, q1, q2⟩)))))))
theorem sc_Stretch_need : FnScope ["self"] ["self"] (defScope s_Stretch_need) := ⟨rfl, rfl, rfl, by decide +kernel, rfl, by decide +kernel, by decide +kernel⟩
theorem ok_Stretch_need (T : Txt K mg) : FnR P w K mg base (L2.CX P w) 1 (gt K "Stretch" "need") (spStNeed K) := by
  refine fnr T.d_Stretch_need sc_Stretch_need (fun _ _ _ _ _ _ us hl => match us, hl with | [_], _ => rfl) (fun vs H Q E h => ?_) fun cdv A outer s H vs Q E hr h => ?_
  · obtain ⟨v, s, rfl, _⟩ := h
    rfl
  · obtain ⟨v, s, rfl, hs, q⟩ := h
    exact lv_one (sv_ret (ev_least T.cls_Stretch T.no_Stretch_least (ev_var 0 rfl ⟨_, hs, q⟩)))
theorem sc_Stretch_gain : FnScope ["self"] ["self"] (defScope s_Stretch_gain) := ⟨rfl, rfl, rfl, by decide +kernel, rfl, by decide +kernel, by decide +kernel⟩
theorem ok_Stretch_gain (T : Txt K mg) : FnR P w K mg base (L2.CX P w) 1 (gt K "Stretch" "gain") (spStGain K) := by
  refine fnr T.d_Stretch_gain sc_Stretch_gain (fun _ _ _ _ _ _ us hl => match us, hl with | [_], _ => rfl) (fun vs H Q E h => ?_) fun cdv A outer s H vs Q E hr h => ?_
  · obtain ⟨v, s, rfl, _⟩ := h
    rfl
  · obtain ⟨v, s, rfl, hs, q⟩ := h
    exact lv_one (sv_ret (ev_more T.cls_Stretch T.no_Stretch_more (ev_var 0 rfl ⟨_, hs, q⟩)))
theorem sc_Stretch_top : FnScope ["self"] ["self"] (defScope s_Stretch_top) := ⟨rfl, rfl, rfl, by decide +kernel, rfl, by decide +kernel, by decide +kernel⟩
theorem ok_Stretch_top (T : Txt K mg) : FnR P w K mg base (L2.CX P w) 1 (gt K "Stretch" "top") (spStTop K) := by
  refine fnr T.d_Stretch_top sc_Stretch_top (fun _ _ _ _ _ _ us hl => match us, hl with | [_], _ => rfl) (fun vs H Q E h => ?_) fun cdv A outer s H vs Q E hr h => ?_
  · obtain ⟨v, s, rfl, _⟩ := h
    rfl
  · obtain ⟨v, s, rfl, hs, q⟩ := h
    exact lv_one (sv_ret (ev_most T.cls_Stretch T.no_Stretch_most (ev_var 0 rfl ⟨_, hs, q⟩)))
/-! ### what the walk uses of stretches -/
section
variable {X : Cx} {e e2 : Expr} {es : List Expr} {σ : L2.St} {H : Hp} {Q : VK} {Qt Qf : Hp → Prop} {D : Ends} {k j : Nat} {E : XK} {x : Str} {p p1 p2 pos apos : Pos}
theorem st_at {K : PySem.W.Frag} {H : Hp} {v : V} {s : St3} (h : IsSt K H v s) : ∃ a dx fs, v = .ref a ∧ H a = some (.ins (He.ga K "Stretch") dx fs) := by
  obtain ⟨_, a, dx, e, ha⟩ := h
  exact ⟨a, dx, _, e, ha⟩
/-- a + b -/
theorem op_addSt (T : Txt X.K X.mg) (C : Cal X k E) (hk : 5 ≤ k) : OpR X (binaryOp .Add) (fun x y H Q => ∃ a b, IsSt X.K H x a ∧ IsSt X.K H y b ∧ ∀ H' v, Same H H' → IsSt X.K H' v (a.join b) → Q v H') := by
  intro pins s σ H x y v u Q I rx ry ⟨a, b, ha, hb, q⟩
  obtain ⟨p, dx, fs, rfl, hp⟩ := st_at ha
  obtain ⟨p', dx', fs', rfl, hp'⟩ := st_at hb
  exact op_ownB C T.sf_Stretch (op := .Add) T.me_Stretch_add (ok_Stretch_add T) hk pins s σ H _ _ v u Q I rx ry ⟨p, dx, fs, p', dx', fs', rfl, rfl, hp, hp', _, _, a, b, rfl, ha, hb, q⟩
/-- a * n -/
theorem op_mulSt (T : Txt X.K X.mg) (C : Cal X k E) (hk : 6 ≤ k) : OpR X (binaryOp .Mult) (fun x y H Q => ∃ a i, IsSt X.K H x a ∧ y = .int i ∧ (1 ≤ i → i ≤ 10 ^ 18 → ∀ H' v, Same H H' → IsSt X.K H' v (a.pw i.toNat) → Q v H') ∧ (inRg 1 (10 ^ 18) (.int i) = false → E (.ref (He.ga X.K "InvalidNumber")) none H)) := by
  intro pins s σ H x y v u Q I rx ry ⟨a, i, ha, ey, q1, q2⟩
  subst ey
  obtain ⟨p, dx, fs, rfl, hp⟩ := st_at ha
  exact op_ownI C (op := .Mult) (rc := none) (fo := some (.builtin "int.__mul__")) (ro := some (.builtin "int.__rmul__")) T.sf_Stretch T.me_Stretch_mul (ok_Stretch_mul T) hk T.no_Stretch_rmul (.inl rfl) (by kernel_rfl) (by kernel_rfl) sub_int pins s σ H _ _ v u Q I rx ry ⟨p, dx, fs, i, rfl, rfl, hp, _, a, _, rfl, ha, .int i, fun i' e h1 h2 => by cases e; exact q1 h1 h2, q2⟩
/-- a == b -/
theorem op_eqSt (T : Txt X.K X.mg) (C : Cal X k E) (hk : 2 ≤ k) : OpR X (compareOp .Eq) (fun x y H Q => ∃ a, IsSt X.K H x a ∧ ((∃ b, IsSt X.K H y b ∧ ∀ H', Same H H' → Q (.bl (decide (a = b))) H') ∨ (Typd H y ∧ ∀ H', Same H H' → Q (.bl false) H'))) := by
  intro pins s σ H x y v u Q I rx ry ⟨a, ha, q⟩
  obtain ⟨p, dx, fs, rfl, hp⟩ := st_at ha
  refine op_ownC C (op := .Eq) (fun _ _ => rfl) T.me_Stretch_eq (ok_Stretch_eq T) hk pins s σ H _ _ v u Q I rx ry ?_
  rcases q with ⟨b, hb, q⟩ | ⟨ty, q⟩
  · exact ⟨p, dx, fs, _, rfl, hp, hb.ty T.isi_Stretch T.cls_Stretch, by simp [PySem.W.notFirst], _, a, _, rfl, ha, .inl ⟨b, hb, q⟩⟩
  · obtain ⟨n, tx, hn⟩ := ty.tyn (K := X.K) (He.ga X.K "Stretch")
    exact ⟨p, dx, fs, _, rfl, hp, tx, by simp [PySem.W.notFirst, hn], _, a, _, rfl, ha, .inr ⟨ty, q⟩⟩
/-- a(oil) -/
theorem ev_callSt (T : Txt X.K X.mg) (C : Cal X k E) (hk : 2 ≤ k) (q : EV X e σ H fun y H1 => ∃ s, IsSt X.K H1 y s ∧ AV X (e2 :: es) σ H1 fun vs H2 => ∃ o, vs = [o] ∧ Kp X.K H1 H2 ∧ Typd H2 o ∧ (∀ i, o = .int i → 0 ≤ i → Q (vN (s.call i)) H2) ∧ ((∀ i, o = .int i → i < 0) → E (.ref (He.ga X.K "InvalidNumber")) none H2))
    (ht : eval (.Call e (e2 :: es) [] pos) X.env = (do callWith pos (← eval e X.env) [] (backTo pos (starEach (e2 :: es) X.env)) (backToKw pos (keywordEach [] X.env))) := by rfl)
    (he : starEach (e2 :: es) X.env = (false, eval e2 X.env) :: starEach es X.env := by rfl) (hpl : (backTo pos (starEach es X.env)).any (·.1) = false := by rfl) : EV X (.Call e (e2 :: es) [] pos) σ H Q := by
  refine EV.of (StX.pe_callO pe_ev ⟨T.me_Stretch_call.at_, T.me_Stretch_call.fn, fn_in T.d_Stretch_call⟩ (ok_Stretch_call T) (C.hr.mono hk) C.hx pa_av ht he hpl) ?_
  refine EV.mono q fun y H1 ⟨s, hs, q⟩ => ?_
  obtain ⟨p, dx, fs, rfl, hp⟩ := st_at hs
  refine ⟨p, rfl, AV.mono q fun vs H2 ⟨o, ev, kp, ty, q1, q2⟩ => ⟨.inr ⟨dx, fs, kp _ _ (.inl rfl) hp⟩, _, s, o, ?_, hs.up kp, ty, q1, q2⟩⟩
  rw [ev]
theorem tv_boolS (T : Txt X.K X.mg) (C : Cal X k E) (hk : 1 ≤ k) (q : EV X e σ H fun x H1 => ∃ s, IsSt X.K H1 x s ∧ br Qt Qf s.need.isSome H1) (he : ∀ whole, isTrue e X.env whole = (do let v ← whole; standAt e.pos; holding [v] (truthy v)) := by intro _; rfl) : TV X e σ H Qt Qf :=
  tv_own C T.me_Stretch_bool (ok_Stretch_bool T) hk (EV.mono q fun x H1 ⟨s, hs, h⟩ => by
    obtain ⟨p, dx, fs, rfl, hp⟩ := st_at hs
    exact ⟨p, dx, fs, rfl, hp, _, s, rfl, hs, _, rfl, h⟩) he
theorem ev_need (T : Txt X.K X.mg) (C : Cal X k E) (hk : 2 ≤ k) (q : EV X e σ H fun x H1 => ∃ s, IsSt X.K H1 x s ∧ Q (vN s.need) H1) (hab : attributeBase e "need" X.env (eval e X.env) = eval e X.env := by rfl) : EV X (.Attribute e "need" pos) σ H Q :=
  ev_prop C T.cls_Stretch T.pr_Stretch_need (ok_Stretch_need T) hk (EV.mono q fun x H1 ⟨s, hs, h⟩ => by
    obtain ⟨p, dx, fs, rfl, hp⟩ := st_at hs
    exact ⟨p, dx, fs, rfl, hp, _, s, rfl, hs, h⟩) hab
theorem ev_gain (T : Txt X.K X.mg) (C : Cal X k E) (hk : 2 ≤ k) (q : EV X e σ H fun x H1 => ∃ s, IsSt X.K H1 x s ∧ Q (.int s.gain) H1) (hab : attributeBase e "gain" X.env (eval e X.env) = eval e X.env := by rfl) : EV X (.Attribute e "gain" pos) σ H Q :=
  ev_prop C T.cls_Stretch T.pr_Stretch_gain (ok_Stretch_gain T) hk (EV.mono q fun x H1 ⟨s, hs, h⟩ => by
    obtain ⟨p, dx, fs, rfl, hp⟩ := st_at hs
    exact ⟨p, dx, fs, rfl, hp, _, s, rfl, hs, h⟩) hab
theorem ev_top (T : Txt X.K X.mg) (C : Cal X k E) (hk : 2 ≤ k) (q : EV X e σ H fun x H1 => ∃ s, IsSt X.K H1 x s ∧ Q (.int s.top) H1) (hab : attributeBase e "top" X.env (eval e X.env) = eval e X.env := by rfl) : EV X (.Attribute e "top" pos) σ H Q :=
  ev_prop C T.cls_Stretch T.pr_Stretch_top (ok_Stretch_top T) hk (EV.mono q fun x H1 ⟨s, hs, h⟩ => by
    obtain ⟨p, dx, fs, rfl, hp⟩ := st_at hs
    exact ⟨p, dx, fs, rfl, hp, _, s, rfl, hs, h⟩) hab
end
end
end OilLaw
set_option Elab.async false
set_option linter.all false
set_option maxRecDepth 100000
set_option maxHeartbeats 2000000
set_option pp.maxSteps 4000
namespace OilLaw
open PySem PySem.Spec PyProof.Rows L2 Oil
local macro_rules | `(tactic| walk_at "kp") => `(tactic| first
  | exact Kp.refl
  | assumption
  | exact Same.kp (by assumption)
  | (refine Kp.tr (Same.kp ?_) ?_; assumption; walk_at "kp")
  | (refine Kp.tr ?_ ?_; assumption; walk_at "kp"))
local macro_rules | `(tactic| walk_at "same") => `(tactic| first
  | exact Same.refl _
  | assumption
  | (refine Same.tr ?_ ?_; assumption; walk_at "same"))
local macro_rules | `(tactic| walk_at "rp") => `(tactic| first
  | assumption
  | (refine IsSt.up ?_ ?_; assumption; walk_at "kp")
  | (refine IsWy.up ?_ ?_; assumption; walk_at "kp")
  | (refine IsPs.up ?_ ?_; assumption; walk_at "kp")
  | (refine IsPr.up ?_ ?_; assumption; walk_at "kp")
  | (refine Kp.tup ?_ ?_; rotate_left; assumption; walk_at "kp"))
/-! ### Way: made -/
def spIsPost : Sp := fun vs H Q _ => ∃ v p, vs = [v] ∧ IsPr H v p ∧ Q (.bl (inRg 0 1000000000 (.int p.1) && inRg 1 1000000000 (.int p.2))) H
def spWyInit (K : PySem.W.Frag) : Sp := fun vs H Q _ => ∃ x dx c t items ps, vs = [.ref x, .int c, .ref t] ∧ H x = some (.ins (He.ga K "Way") dx []) ∧ H t = some (.tup items) ∧ AreP H items ps ∧ Wy.ok ⟨c, ps⟩ ∧
  ∀ H1, Same H H1 → Q .non (upd H1 x (.ins (He.ga K "Way") dx (wyF c t)))
section
variable {P : Program} {w : World} {K : PySem.W.Frag} {mg : Str → Option Value} {base : Heap}
theorem sc_is_post : FnScope ["value", "oil", "steps"] ["value"] (defScope s_is_post) := ⟨rfl, rfl, rfl, by decide +kernel, rfl, by decide +kernel, by decide +kernel⟩
theorem ok_is_post (T : Txt K mg) : FnR P w K mg base (L2.CX P w) 3 (He.ga K "is_post") spIsPost := by
  refine fnr T.d_is_post sc_is_post (fun _ _ _ _ _ _ us hl => match us, hl with | [_], _ => rfl) (fun vs H Q E h => ?_) fun cdv A outer s H vs Q E hr h => ?_
  · obtain ⟨v, p, rfl, _⟩ := h
    rfl
  · obtain ⟨v, ⟨p1, p2⟩, rfl, ⟨a, rfl, ha⟩, q⟩ := h
    have C := Cal.body (P := P) (w := w) (K := K) (mg := mg) (base := base) (N := ["value", "oil", "steps"]) (outer := outer) (H := H) (E := E) hr
    refine lv_one (sv_match2 1 2 C.calm sc_is_post.nd (ev_var 0 rfl ⟨_, .tup (SqT.of ha), ?_⟩))
    refine tv_val (ev_isi T.b_isinstance (ev_var 0 rfl (ev_gty T.b_tuple rfl ⟨_, _, .base (.tup ha), .ty _, _, kit_ty (by decide +kernel : kitB "tuple" "tuple" = some true), _, rfl, bT ?_⟩)))
    refine lv_one (sv_ret (ev_andV (ev_call C (ok_is_integer T) (by decide) T.gl_is_integer (fkp T.d_is_integer) (av_cons (ev_var 1 rfl (av_cons (ev_int (av_cons (ev_gint T.k_MAX_OIL (av_nil ⟨_, _, _, rfl, .int _, _, rfl, br_b (fun h => ?_) fun h => ?_⟩))))))))))
    · rw [h, Bool.true_and] at q
      exact ev_one (ev_call C (ok_is_integer T) (by decide) T.gl_is_integer (fkp T.d_is_integer) (av_cons (ev_var 2 rfl (av_cons (ev_int (av_cons (ev_gint T.k_MAX_OIL (av_nil ⟨_, _, _, rfl, .int _, q⟩))))))))
    · rw [h, Bool.false_and] at q
      exact q
theorem sc_Way_init : FnScope ["self", "capacity", "posts", "index", "post"] ["self", "capacity", "posts"] (defScope s_Way_init) := ⟨rfl, rfl, rfl, by decide +kernel, rfl, by decide +kernel, by decide +kernel⟩
theorem ok_Way_init (T : Txt K mg) : FnR P w K mg base (L2.CX P w) 4 (He.ma K (He.ga K "Way") "__init__") (fun vs H Q E => ∃ ws rest, vs = ws ++ rest ∧ ws.length = 2 ∧ rest.length ≤ sizeLine ∧ ∀ p, H p = Option.none → spWyInit K (ws ++ [V.ref p]) (upd H p (.tup rest)) Q E) := by
  refine fnrS (ps := ["self", "capacity"]) (pv := "posts") T.d_Way_init sc_Way_init (fun _ _ _ _ _ _ us rest hl => match us, rest, hl with | [_, _], [], _ => rfl | [_, _], _ :: _, _ => rfl) fun cdv A outer s H vs Q E hr h => ?_
  obtain ⟨x, dx, c, t, items, ps, rfl, hx, ht, hr2, ok, q⟩ := h
  have C := Cal.body (P := P) (w := w) (K := K) (mg := mg) (base := base) (N := ["self", "capacity", "posts", "index", "post"]) (outer := outer) (H := H) (E := E) hr
  have o1 := ok.c1
  have o2 := ok.c2
  have n1 := ok.n1
  have n2 := ok.n2
  simp only at o1 o2 n1 n2
  have hl := AreP.len hr2
  refine lv_cons (sv_if (tv_not (tv_val (ev_call C (ok_is_integer T) (by decide) T.gl_is_integer (fkp T.d_is_integer) (av_cons (ev_var 1 rfl (av_cons (ev_int (av_cons (ev_gint T.k_MAX_OIL (av_nil ⟨_, _, _, rfl, .int _, _, rfl, br_kt (by simp [inRg, o1, o2]) (lv_nil ?_)⟩))))))))))) 
  refine lv_cut (fun σ2 H2 => Same H H2 ∧ σ2[0]? = some (some (.ref x)) ∧ σ2[1]? = some (some (.int c)) ∧ σ2[2]? = some (some (.ref t))) (sv_forEnumT C.calm C.po T.b_enumerate (ev_var 2 rfl ⟨_, items, rfl, SqT.of ht, fun i σ' H' => Same H H' ∧ ∃ a b, σ' = [some (.ref x), some (.int c), some (.ref t), a, b], ⟨Same.refl _, _, _, rfl⟩, fun i σ' H' _ h => SqT.of (h.1 _ _ ht), fun i v σ' H' T2 H'' hi h S2 hT => ?_, fun σ' H' h => ?_⟩)) ?_
  · obtain ⟨S1, a, b, rfl⟩ := h
    obtain ⟨p, hp, hpr⟩ : ∃ p, ps[i]? = some p ∧ IsPr H v p := by
      have hi' : i < ps.length := by rw [← hl]; exact (List.getElem?_eq_some_iff.mp hi).1
      obtain ⟨u, e1, e2⟩ := AreP.get (i := i) (p := ps[i]) hr2 (by simp [hi'])
      rw [hi] at e1
      cases e1
      exact ⟨_, by simp [hi'], e2⟩
    have okp := ok.ps p (List.mem_of_getElem? hp)
    obtain ⟨k1, k2, k3, k4⟩ := okp
    have hi2 : i < ps.length := (List.getElem?_eq_some_iff.mp hp).1
    refine gv_tup C.calm (SqT.of hT) rfl (gsv_cons (gv_name 3 (gsv_cons (gv_name 4 (gsv_nil ?_) sc_Way_init.nd)) sc_Way_init.nd))
    refine lv_one (sv_if (tv_w (wv_or (tv_cmp op_eq (ev_var 3 rfl (ev_gint T.k_MAX_POSTS (teqi (fun e => absurd e (by omega)) fun _ => ?_)))))))
    refine wv_or1 (tv_not (tv_val (ev_call C (ok_is_post T) (by decide) T.gl_is_post (fkp T.d_is_post) (av_cons (ev_var 4 rfl (av_nil ⟨_, p, rfl, hpr.upS (S1.trans S2), _, rfl, br_kt (by simp [inRg, k1, k2, k3, k4]) (lv_nil ⟨S1.trans S2, _, _, rfl⟩)⟩))))))
  · obtain ⟨S1, a, b, rfl⟩ := h
    exact ⟨S1, rfl, rfl, rfl⟩
  · rintro σ2 H2 ⟨S2, e0, e1, e2⟩
    refine lv_cons (sv_if (tv_cmp (op_eqD C.hr.units) (ev_var 2 e2 (ev_tup (av_nil ⟨by show 0 ≤ sizeLine; decide, fun H3 p3 S3 h3 _ => ⟨_, _, dp_ps ((S2.trans S3) _ _ ht) (AreP.upS hr2 (S2.trans S3)), dp_ps (ps := []) h3 .nil, shaped_ps _, shaped_ps _, _, rfl, ?_⟩⟩)))))
    refine br_kf (by rw [eqv_ps]; exact decide_eq_false (fun e => by rw [e] at n1; exact absurd n1 (by decide))) (lv_nil ?_)
    refine lv_cons (sv_fld (ev_var 1 e1 (ev_var 0 e0 ⟨_, _, _, _, rfl, (S2.trans S3) _ _ hx, T.cls_Way, T.no_Way_holds, put0, ?_⟩)))
    refine lv_one (sv_fld (ev_var 2 e2 (ev_var 0 e0 ⟨_, _, _, _, rfl, upd_same, T.cls_Way, T.no_Way_rows, put1, ?_⟩)))
    rw [upd_upd]
    exact q _ (S2.trans S3)
end
/-- Way(c, *posts) -/
theorem wy_made {X : Cx} {Q : VK} {E : XK} {c : Int} {items : List V} {ps : List (Int × Int)} {H1 : Hp} (r : AreP H1 items ps) (ok : Wy.ok ⟨c, ps⟩) (q : ∀ H' v, Same H1 H' → IsWy X.K H' v ⟨c, ps⟩ → Q v H') :
    ∀ x dx, H1 x = Option.none → H1 dx = Option.none → dx ≠ x → (fun vs H Q E => ∃ ws rest, vs = ws ++ rest ∧ ws.length = 2 ∧ rest.length ≤ sizeLine ∧ ∀ p, H p = Option.none → spWyInit X.K (ws ++ [V.ref p]) (upd H p (.tup rest)) Q E) (V.ref x :: .int c :: items) (upd (upd H1 dx (.own x)) x (.ins (He.ga X.K "Way") dx [])) (fun v H2 => v = .non ∧ Q (.ref x) H2) E := by
  intro x dx hx hdx ne
  have hl := AreP.len r
  have n2 := ok.n2
  simp only at n2
  refine ⟨[.ref x, .int c], items, rfl, rfl, by rw [sizeLine_eq]; omega, fun p hp => ?_⟩
  have hxp : x ≠ p := fun e => by
    subst e
    rw [upd_same] at hp
    cases hp
  have hdp : dx ≠ p := fun e => by
    subst e
    rw [upd_ne ne, upd_same] at hp
    cases hp
  have S1 : Same H1 (upd H1 dx (.own x)) := same_upd hdx
  have S2 : Same (upd H1 dx (.own x)) (upd (upd H1 dx (.own x)) x (.ins (He.ga X.K "Way") dx [])) := same_upd (by rw [upd_ne (Ne.symm ne)]; exact hx)
  have S3 := same_upd (o := HO.tup items) hp
  have r3 := AreP.upS r ((S1.trans S2).trans S3)
  refine ⟨x, dx, c, p, items, ps, rfl, by rw [upd_ne hxp, upd_same], upd_same, r3, ok, fun H4 S4 => ⟨rfl, ?_⟩⟩
  have hx4 : ∀ b o, H1 b = some o → upd H4 x (.ins (He.ga X.K "Way") dx (wyF c p)) b = some o := fun b o e => by
    rw [upd_ne (ne_of_none e hx)]
    exact S4 _ _ (((S1.trans S2).trans S3) _ _ e)
  refine q _ _ hx4 ⟨ok, x, dx, p, rfl, upd_same, items, ?_, AreP.upS r hx4⟩
  rw [upd_ne (Ne.symm hxp)]
  exact S4 _ _ upd_same
end OilLaw
set_option Elab.async false
set_option linter.all false
set_option maxRecDepth 100000
set_option maxHeartbeats 2000000
set_option pp.maxSteps 4000
namespace OilLaw
open PySem PySem.Spec PyProof.Rows L2 Oil
local macro_rules | `(tactic| walk_at "kp") => `(tactic| first
  | exact Kp.refl
  | assumption
  | exact Same.kp (by assumption)
  | (refine Kp.tr (Same.kp ?_) ?_; assumption; walk_at "kp")
  | (refine Kp.tr ?_ ?_; assumption; walk_at "kp"))
local macro_rules | `(tactic| walk_at "same") => `(tactic| first
  | exact Same.refl _
  | assumption
  | (refine Same.tr ?_ ?_; assumption; walk_at "same"))
local macro_rules | `(tactic| walk_at "rp") => `(tactic| first
  | assumption
  | (refine IsSt.up ?_ ?_; assumption; walk_at "kp")
  | (refine IsWy.up ?_ ?_; assumption; walk_at "kp")
  | (refine IsPs.up ?_ ?_; assumption; walk_at "kp")
  | (refine IsPr.up ?_ ?_; assumption; walk_at "kp")
  | (refine Kp.tup ?_ ?_; rotate_left; assumption; walk_at "kp"))
/-! ### Way: the rest -/
theorem arep_rep {H : Hp} {v : V} {p : Int × Int} (h : IsPr H v p) : ∀ n : Nat, AreP H (List.replicate n [v]).flatten (List.replicate n p)
  | 0 => .nil
  | n + 1 => .cons h (arep_rep h n)
theorem arep_take {H : Hp} : ∀ {vs : List V} {ps : List (Int × Int)} (n : Nat), AreP H vs ps → AreP H (vs.take n) (ps.take n)
  | _, _, 0, _ => by simp only [List.take_zero]; exact .nil
  | _, _, _ + 1, .nil => .nil
  | _, _, n + 1, .cons r t => .cons r (arep_take n t)
theorem arep_drop {H : Hp} : ∀ {vs : List V} {ps : List (Int × Int)} (n : Nat), AreP H vs ps → AreP H (vs.drop n) (ps.drop n)
  | _, _, 0, h => h
  | _, _, _ + 1, .nil => .nil
  | _, _, n + 1, .cons _ t => arep_drop n t
theorem arep_app {H : Hp} : ∀ {vs us : List V} {ps qs : List (Int × Int)}, AreP H vs ps → AreP H us qs → AreP H (vs ++ us) (ps ++ qs)
  | _, _, _, _, .nil, h => h
  | _, _, _, _, .cons r t, h => .cons r (arep_app t h)
theorem wy_set_ok {w : Wy} (h : w.ok) {p : Int × Int} (hp : okP p) (i : Nat) : Wy.ok ⟨w.cap, w.posts.set i p⟩ :=
  ⟨h.c1, h.c2, by simpa using h.n1, by simpa using h.n2, fun q hq => by
    rcases List.mem_or_eq_of_mem_set hq with h2 | h2
    · exact h.ps q h2
    · rw [h2]; exact hp⟩
def spEven (K : PySem.W.Frag) : Sp := fun vs H Q _ => ∃ c n o s, vs = [.ref (He.ga K "Way"), .int c, .int n, .int o, .int s] ∧ 1 ≤ n ∧ n ≤ 12 ∧ Wy.ok ⟨c, List.replicate n.toNat (o, s)⟩ ∧ ∀ H' v, Same H H' → IsWy K H' v ⟨c, List.replicate n.toNat (o, s)⟩ → Q v H'
def spWyLen (K : PySem.W.Frag) : Sp := fun vs H Q _ => ∃ v w, vs = [v] ∧ IsWy K H v w ∧ Q (.int (w.posts.length : Nat)) H
def spWyCap (K : PySem.W.Frag) : Sp := fun vs H Q _ => ∃ v w, vs = [v] ∧ IsWy K H v w ∧ Q (.int w.cap) H
def spWyPosts (K : PySem.W.Frag) : Sp := fun vs H Q _ => ∃ v w, vs = [v] ∧ IsWy K H v w ∧ ∀ t, IsPs H t w.posts → Q (.ref t) H
def spNeedPost (K : PySem.W.Frag) : Sp := fun vs H Q E => ∃ v w o, vs = [v, o] ∧ IsWy K H v w ∧ Typd H o ∧ (inRg 0 (w.posts.length - 1) o = true → Q .non H) ∧ (inRg 0 (w.posts.length - 1) o = false → E (.ref (He.ga K "UnknownPost")) none H)
def spGetItem (K : PySem.W.Frag) : Sp := fun vs H Q E => ∃ v w o, vs = [v, o] ∧ IsWy K H v w ∧ Typd H o ∧ (∀ i : Nat, o = .int i → i < w.posts.length → ∀ u, IsPr H u (w.at i) → Q u H) ∧ (inRg 0 (w.posts.length - 1) o = false → E (.ref (He.ga K "UnknownPost")) none H)
def spWithPost (K : PySem.W.Frag) : Sp := fun vs H Q _ => ∃ v w i o s, vs = [v, .int (i : Nat), .int o, .int s] ∧ IsWy K H v w ∧ i < w.posts.length ∧ okP (o, s) ∧ ∀ H' v', Same H H' → IsWy K H' v' ⟨w.cap, w.posts.set i (o, s)⟩ → Q v' H'
def spLeg (K : PySem.W.Frag) : Sp := fun vs H Q _ => ∃ v w i, vs = [v, .int (i : Nat)] ∧ IsWy K H v w ∧ ∀ H' v', Same H H' → IsSt K H' v' (w.leg i) → Q v' H'
def spPath (K : PySem.W.Frag) : Sp := fun vs H Q _ => ∃ v w i n, vs = [v, .int (i : Nat), .int (n : Nat)] ∧ IsWy K H v w ∧ 1 ≤ n ∧ n ≤ 10 ^ 18 ∧ ∀ H' v', Same H H' → IsSt K H' v' (w.st i n) → Q v' H'
def spStretch (K : PySem.W.Frag) : Sp := fun vs H Q E => ∃ v w p o, vs = [v, p, o] ∧ IsWy K H v w ∧ Typd H p ∧ Typd H o ∧
  (∀ (j n : Nat), p = .int j → o = .int n → j < w.posts.length → 1 ≤ n → n ≤ 10 ^ 18 → ∀ H' v', Same H H' → IsSt K H' v' (w.st j n) → Q v' H') ∧
  (inRg 0 (w.posts.length - 1) p = false → E (.ref (He.ga K "UnknownPost")) none H) ∧
  (inRg 0 (w.posts.length - 1) p = true → inRg 1 (10 ^ 18) o = false → E (.ref (He.ga K "InvalidNumber")) none H)
section
variable {X : Cx} {e e2 : Expr} {es : List Expr} {σ : L2.St} {H : Hp} {Q : VK} {Qt Qf : Hp → Prop} {D : Ends} {k j : Nat} {E : XK} {x : Str} {p p1 p2 pos apos : Pos}
theorem wy_at {K : PySem.W.Frag} {H : Hp} {v : V} {w : Wy} (h : IsWy K H v w) : ∃ a dx t, v = .ref a ∧ H a = some (.ins (He.ga K "Way") dx (wyF w.cap t)) := by
  obtain ⟨_, a, dx, t, e, ha, _⟩ := h
  exact ⟨a, dx, t, e, ha⟩
/-- len of a tuple of posts -/
theorem ev_lenP (C : Cal X k E) (hm : X.mg "len" = none) (q : EV X e σ H fun x H1 => ∃ t ps, x = .ref t ∧ IsPs H1 t ps ∧ Q (.int (ps.length : Nat)) H1) (hg : Gl X "len" := by rfl)
    (he : starEach [e] X.env = (false, eval e X.env) :: starEach [] X.env := by rfl) (hpl : (backTo pos (starEach [] X.env)).any (·.1) = false := by rfl) : EV X (.Call (.Name "len" p) [e] [] pos) σ H Q :=
  ev_callB C.calm call_len hm (av_cons (EV.mono q fun x H1 ⟨t, ps, ex, ⟨vs, ht, r⟩, h⟩ => av_nil ⟨x, ps.length, rfl, ex ▸ .inr ⟨vs, SqT.of ht, (AreP.len r).symm⟩, h⟩) he) (hg := hg) (he := he) (hpl := hpl)
theorem ev_lenL (C : Cal X k E) (hm : X.mg "len" = none) (q : EV X e σ H fun x H1 => ∃ t xs, x = .ref t ∧ SqL X.K H1 t xs ∧ Q (.int (xs.length : Nat)) H1) (hg : Gl X "len" := by rfl)
    (he : starEach [e] X.env = (false, eval e X.env) :: starEach [] X.env := by rfl) (hpl : (backTo pos (starEach [] X.env)).any (·.1) = false := by rfl) : EV X (.Call (.Name "len" p) [e] [] pos) σ H Q :=
  ev_callB C.calm call_len hm (av_cons (EV.mono q fun x H1 ⟨t, xs, ex, ht, h⟩ => av_nil ⟨x, xs.length, rfl, ex ▸ .inl ⟨xs, ht, rfl⟩, h⟩) he) (hg := hg) (he := he) (hpl := hpl)
end
section
variable {P : Program} {w : World} {K : PySem.W.Frag} {mg : Str → Option Value} {base : Heap}
theorem sc_Way_even : FnScope ["cls", "capacity", "count", "oil", "steps", "rows"] ["cls", "capacity", "count", "oil", "steps"] (defScope s_Way_even) := ⟨rfl, rfl, rfl, by decide +kernel, rfl, by decide +kernel, by decide +kernel⟩
theorem ok_Way_even (T : Txt K mg) : FnR P w K mg base (L2.CX P w) 6 (cm K "Way" "even") (spEven K) := by
  refine fnr T.d_Way_even sc_Way_even (fun _ _ _ _ _ _ us hl => match us, hl with | [_, _, _, _, _], _ => rfl) (fun vs H Q E h => ?_) fun cdv A outer s H vs Q E hr h => ?_
  · obtain ⟨c, n, o, s, rfl, _⟩ := h
    rfl
  · obtain ⟨c, n, o, st, rfl, n1, n2, ok, q⟩ := h
    have C := Cal.body (P := P) (w := w) (K := K) (mg := mg) (base := base) (N := ["cls", "capacity", "count", "oil", "steps", "rows"]) (outer := outer) (H := H) (E := E) hr
    refine lv_cons (sv_if (tv_not (tv_val (ev_call C (ok_is_integer T) (by decide) T.gl_is_integer (fkp T.d_is_integer) (av_cons (ev_var 2 rfl (av_cons (ev_int (av_cons (ev_gint T.k_MAX_POSTS (av_nil ⟨_, _, _, rfl, .int _, _, rfl, br_kt (by simp [inRg, n1, n2]) (lv_nil ?_)⟩)))))))))))
    refine lv_cons (sv_set 5 (ev_bin op_repP (ev_tup (av_cons (ev_tup (av_cons (ev_var 3 rfl (av_cons (ev_var 4 rfl (av_nil ⟨by show 2 ≤ sizeLine; decide, fun H1 p1 S1 h1 _ => av_nil ⟨by show 1 ≤ sizeLine; decide, fun H2 p2 S2 h2 _ => ev_var 2 rfl ⟨p2, _, n, rfl, rfl, h2, by simp, by simp, n1, by omega, fun H3 p3 S3 h3 => ?_⟩⟩⟩))))))))) sc_Way_even.nd)
    refine lv_one (sv_ret (ev_mkLS 0 C T.mk_Way (ok_Way_init T) (by decide) rfl (av_cons (ev_var 1 rfl (av_star (ev_var 5 rfl ⟨_, _, rfl, .inl (SqT.of h3), av_nil ?_⟩))))))
    rw [List.append_nil]
    have pr : IsPr H3 (.ref p1) (o, st) := ⟨p1, rfl, S3 _ _ (S2 _ _ h1)⟩
    exact wy_made (X := cxOf (L2.CX P w) P w K mg base ["cls", "capacity", "count", "oil", "steps", "rows"] "Way.even" (defScope s_Way_even) (cm K "Way" "even") cdv A outer s H E) (arep_rep pr n.toNat) ok fun H' v S' hv => q _ _ ((S1.trans S2).trans (S3.trans S')) hv
theorem sc_Way_len : FnScope ["self"] ["self"] (defScope s_Way_len) := ⟨rfl, rfl, rfl, by decide +kernel, rfl, by decide +kernel, by decide +kernel⟩
theorem ok_Way_len (T : Txt K mg) : FnR P w K mg base (L2.CX P w) 1 (He.ma K (He.ga K "Way") "__len__") (spWyLen K) := by
  refine fnr T.d_Way_len sc_Way_len (fun _ _ _ _ _ _ us hl => match us, hl with | [_], _ => rfl) (fun vs H Q E h => ?_) fun cdv A outer s H vs Q E hr h => ?_
  · obtain ⟨v, w, rfl, _⟩ := h
    rfl
  · obtain ⟨v, wy, rfl, hw, q⟩ := h
    have C := Cal.body (P := P) (w := w) (K := K) (mg := mg) (base := base) (N := ["self"]) (outer := outer) (H := H) (E := E) hr
    exact lv_one (sv_ret (ev_lenP C T.b_len (ev_rows T.cls_Way T.no_Way_rows (ev_var 0 rfl ⟨_, hw, fun t ht => ⟨_, _, rfl, ht, q⟩⟩))))
theorem sc_Way_capacity : FnScope ["self"] ["self"] (defScope s_Way_capacity) := ⟨rfl, rfl, rfl, by decide +kernel, rfl, by decide +kernel, by decide +kernel⟩
theorem ok_Way_capacity (T : Txt K mg) : FnR P w K mg base (L2.CX P w) 1 (gt K "Way" "capacity") (spWyCap K) := by
  refine fnr T.d_Way_capacity sc_Way_capacity (fun _ _ _ _ _ _ us hl => match us, hl with | [_], _ => rfl) (fun vs H Q E h => ?_) fun cdv A outer s H vs Q E hr h => ?_
  · obtain ⟨v, w, rfl, _⟩ := h
    rfl
  · obtain ⟨v, wy, rfl, hw, q⟩ := h
    exact lv_one (sv_ret (ev_holds T.cls_Way T.no_Way_holds (ev_var 0 rfl ⟨_, hw, q⟩)))
theorem sc_Way_posts : FnScope ["self"] ["self"] (defScope s_Way_posts) := ⟨rfl, rfl, rfl, by decide +kernel, rfl, by decide +kernel, by decide +kernel⟩
theorem ok_Way_posts (T : Txt K mg) : FnR P w K mg base (L2.CX P w) 1 (gt K "Way" "posts") (spWyPosts K) := by
  refine fnr T.d_Way_posts sc_Way_posts (fun _ _ _ _ _ _ us hl => match us, hl with | [_], _ => rfl) (fun vs H Q E h => ?_) fun cdv A outer s H vs Q E hr h => ?_
  · obtain ⟨v, w, rfl, _⟩ := h
    rfl
  · obtain ⟨v, wy, rfl, hw, q⟩ := h
    exact lv_one (sv_ret (ev_rows T.cls_Way T.no_Way_rows (ev_var 0 rfl ⟨_, hw, q⟩)))
theorem sc_Way_need_post : FnScope ["self", "post"] ["self", "post"] (defScope s_Way_need_post) := ⟨rfl, rfl, rfl, by decide +kernel, rfl, by decide +kernel, by decide +kernel⟩
theorem ok_Way_need_post (T : Txt K mg) : FnR P w K mg base (L2.CX P w) 3 (He.ma K (He.ga K "Way") "need_post") (spNeedPost K) := by
  refine fnr T.d_Way_need_post sc_Way_need_post (fun _ _ _ _ _ _ us hl => match us, hl with | [_, _], _ => rfl) (fun vs H Q E h => ?_) fun cdv A outer s H vs Q E hr h => ?_
  · obtain ⟨v, w, o, rfl, _⟩ := h
    rfl
  · obtain ⟨v, wy, o, rfl, hw, ty, q1, q2⟩ := h
    have C := Cal.body (P := P) (w := w) (K := K) (mg := mg) (base := base) (N := ["self", "post"]) (outer := outer) (H := H) (E := E) hr
    refine lv_one (sv_if (tv_not (tv_val (ev_call C (ok_is_integer T) (by decide) T.gl_is_integer (fkp T.d_is_integer) (av_cons (ev_var 1 rfl (av_cons (ev_int (av_cons (ev_bin op_sub (ev_lenP C T.b_len (ev_rows T.cls_Way T.no_Way_rows (ev_var 0 rfl ⟨_, hw, fun t ht => ⟨_, _, rfl, ht, ev_int (i2 (av_nil ⟨_, _, _, rfl, ty, _, rfl, br_b (fun e => ?_) fun e => ?_⟩))⟩⟩)))))))))))))
    · exact lv_nil (q1 e)
    · exact lv_one (sv_raise C T.ex_UnknownPost (q2 e))
theorem sc_Way_getitem : FnScope ["self", "post"] ["self", "post"] (defScope s_Way_getitem) := ⟨rfl, rfl, rfl, by decide +kernel, rfl, by decide +kernel, by decide +kernel⟩
theorem inRg_nat {n : Nat} {o : V} (h : inRg 0 ((n : Int) - 1) o = true) : ∃ i : Nat, o = .int i ∧ i < n := by
  cases o with
  | int i =>
    simp only [inRg, Bool.and_eq_true, decide_eq_true_eq] at h
    exact ⟨i.toNat, by rw [Int.toNat_of_nonneg h.1], by omega⟩
  | _ => exact absurd h (by simp [inRg])
theorem at_get {w : Wy} {i : Nat} (h : i < w.posts.length) : w.posts[i]? = some (w.at i) := by
  unfold Wy.at
  rw [Nat.mod_eq_of_lt h, List.getD_eq_getElem?_getD, List.getElem?_eq_getElem h]
  rfl
theorem ok_Way_getitem (T : Txt K mg) : FnR P w K mg base (L2.CX P w) 3 (He.ma K (He.ga K "Way") "__getitem__") (spGetItem K) := by
  refine fnr T.d_Way_getitem sc_Way_getitem (fun _ _ _ _ _ _ us hl => match us, hl with | [_, _], _ => rfl) (fun vs H Q E h => ?_) fun cdv A outer s H vs Q E hr h => ?_
  · obtain ⟨v, w, o, rfl, _⟩ := h
    rfl
  · obtain ⟨v, wy, o, rfl, hw, ty, q1, q2⟩ := h
    have C := Cal.body (P := P) (w := w) (K := K) (mg := mg) (base := base) (N := ["self", "post"]) (outer := outer) (H := H) (E := E) hr
    refine lv_cons (sv_if (tv_not (tv_val (ev_call C (ok_is_integer T) (by decide) T.gl_is_integer (fkp T.d_is_integer) (av_cons (ev_var 1 rfl (av_cons (ev_int (av_cons (ev_bin op_sub (ev_lenP C T.b_len (ev_rows T.cls_Way T.no_Way_rows (ev_var 0 rfl ⟨_, hw, fun t ht => ⟨_, _, rfl, ht, ev_int (i2 (av_nil ⟨_, _, _, rfl, ty, _, rfl, br_b (fun e => ?_) fun e => ?_⟩))⟩⟩)))))))))))))
    · obtain ⟨i, rfl, hi⟩ := inRg_nat e
      refine lv_nil (lv_one (sv_ret (ev_ixT (ev_rows T.cls_Way T.no_Way_rows (ev_var 0 rfl ⟨_, hw, fun t2 ⟨us, hu, ru⟩ => ev_var 1 rfl ?_⟩)))))
      obtain ⟨u, e1, e2⟩ := AreP.get ru (at_get hi)
      exact ⟨_, _, _, u, rfl, rfl, hu, by rw [atI_eq, e1], q1 i rfl hi u e2⟩
    · exact lv_one (sv_raise C T.ex_UnknownPost (q2 e))
theorem sc_Way_with_post : FnScope ["self", "post", "oil", "steps", "rows"] ["self", "post", "oil", "steps"] (defScope s_Way_with_post) := ⟨rfl, rfl, rfl, by decide +kernel, rfl, by decide +kernel, by decide +kernel⟩
theorem ok_Way_with_post (T : Txt K mg) : FnR P w K mg base (L2.CX P w) 6 (He.ma K (He.ga K "Way") "with_post") (spWithPost K) := by
  refine fnr T.d_Way_with_post sc_Way_with_post (fun _ _ _ _ _ _ us hl => match us, hl with | [_, _, _, _], _ => rfl) (fun vs H Q E h => ?_) fun cdv A outer s H vs Q E hr h => ?_
  · obtain ⟨v, w, i, o, s, rfl, _⟩ := h
    rfl
  · obtain ⟨v, wy, i, o, st, rfl, hw, hi, okp, q⟩ := h
    have C := Cal.body (P := P) (w := w) (K := K) (mg := mg) (base := base) (N := ["self", "post", "oil", "steps", "rows"]) (outer := outer) (H := H) (E := E) hr
    have ok := hw.1
    obtain ⟨a, dx, t, rfl, ha⟩ := wy_at hw
    refine lv_cons (sv_expr (ev_meth C T.cls_Way T.me_Way_need_post (ok_Way_need_post T) (by decide) (ev_var 0 rfl ⟨_, _, _, rfl, ha, rfl, av_cons (ev_var 1 rfl (av_nil ⟨_, _, _, rfl, hw, .int _, fun _ => ?_, fun e => ?_⟩))⟩)))
    rotate_left
    · exfalso
      have : (0 : Int) ≤ (i : Int) ∧ (i : Int) ≤ (wy.posts.length : Int) - 1 := ⟨by omega, by omega⟩
      simp [inRg, this.1, this.2] at e
    refine lv_cons (sv_set 4 (ev_bin op_catP (ev_bin op_catP (ev_upto (ev_rows T.cls_Way T.no_Way_rows (ev_var 0 rfl ⟨_, hw, fun t1 ⟨us, hu, ru⟩ => ev_var 1 rfl ⟨_, _, _, rfl, rfl, hu, fun H1 q1 S1 h1 => ev_tup (av_cons (ev_tup (av_cons (ev_var 2 rfl (av_cons (ev_var 3 rfl (av_nil ⟨by show 2 ≤ sizeLine; decide, fun H2 q2 S2 h2 _ => av_nil ⟨by show 1 ≤ sizeLine; decide, fun H3 q3 S3 h3 _ => ⟨_, _, _, _, rfl, rfl, (S2.trans S3) _ _ h1, h3, ?_, fun H4 q4 S4 h4 => ev_from (ev_rows T.cls_Way T.no_Way_rows (ev_var 0 rfl ⟨_, hw.upS ((S1.trans S2).trans (S3.trans S4)), fun t5 ⟨us5, hu5, ru5⟩ => ev_bin op_add (ev_var 1 rfl (ev_int (i2 ⟨_, _, _, rfl, rfl, hu5, fun H5 q5 S5 h5 => ⟨_, _, _, _, rfl, rfl, S5 _ _ h4, h5, ?_, fun H6 q6 S6 h6 => ?_⟩⟩)))⟩))⟩⟩⟩)))))))⟩⟩))))) sc_Way_with_post.nd)
    · have hl := AreP.len ru
      have n2 := ok.n2
      rw [cut_upto, List.length_take, sizeLine_eq, hl]
      simp only [List.length_singleton]
      omega
    · have hl := AreP.len ru
      have hl5 := AreP.len ru5
      have n2 := ok.n2
      have e5 : ((i : Nat) : Int) + 1 = ((i + 1 : Nat) : Int) := by omega
      rw [e5, cut_upto, cut_from, List.length_append, List.length_take, List.length_drop, sizeLine_eq, hl, hl5]
      simp only [List.length_singleton]
      omega
    · have S06 := (((S1.trans S2).trans (S3.trans S4)).trans S5).trans S6
      have e5 : ((i : Nat) : Int) + 1 = ((i + 1 : Nat) : Int) := by omega
      rw [e5, cut_upto, cut_from] at h6
      have S56 := S5.trans S6
      have hw6 := hw.upS S06
      refine lv_one (sv_ret (ev_mkS C T.mk_Way (ok_Way_init T) (by decide) T.gl_Way (av_cons (ev_holds T.cls_Way T.no_Way_holds (ev_var 0 rfl ⟨_, hw6, av_star (ev_var 4 rfl ⟨_, _, rfl, .inl (SqT.of h6), av_nil ?_⟩)⟩)))))
      rw [List.append_nil]
      have pr : IsPr H6 (.ref q2) (o, st) := ⟨q2, rfl, (S3.trans (S4.trans S56)) _ _ h2⟩
      have r6 : AreP H6 (us.take i ++ [V.ref q2] ++ us5.drop (i + 1)) (wy.posts.take i ++ [(o, st)] ++ wy.posts.drop (i + 1)) :=
        arep_app (arep_app (arep_take i (AreP.upS ru S06)) (.cons pr .nil)) (arep_drop (i + 1) (AreP.upS ru5 S56))
      have es : wy.posts.take i ++ [(o, st)] ++ wy.posts.drop (i + 1) = wy.posts.set i (o, st) := by
        rw [List.set_eq_take_append_cons_drop, if_pos hi]
        simp
      rw [es] at r6
      exact wy_made (X := cxOf (L2.CX P w) P w K mg base ["self", "post", "oil", "steps", "rows"] "Way.with_post" (defScope s_Way_with_post) (He.ma K (He.ga K "Way") "with_post") cdv A outer s H E) r6 (wy_set_ok ok okp i) fun H' v S' hv => q _ _ (S06.trans S') hv
end
end OilLaw
set_option Elab.async false
set_option linter.all false
set_option maxRecDepth 100000
set_option maxHeartbeats 2000000
set_option pp.maxSteps 4000
namespace OilLaw
open PySem PySem.Spec PyProof.Rows L2 Oil
local macro_rules | `(tactic| walk_at "kp") => `(tactic| first
  | exact Kp.refl
  | assumption
  | exact Same.kp (by assumption)
  | (refine Kp.tr (Same.kp ?_) ?_; assumption; walk_at "kp")
  | (refine Kp.tr ?_ ?_; assumption; walk_at "kp"))
local macro_rules | `(tactic| walk_at "same") => `(tactic| first
  | exact Same.refl _
  | assumption
  | (refine Same.tr ?_ ?_; assumption; walk_at "same"))
local macro_rules | `(tactic| walk_at "rp") => `(tactic| first
  | assumption
  | (refine IsSt.up ?_ ?_; assumption; walk_at "kp")
  | (refine IsWy.up ?_ ?_; assumption; walk_at "kp")
  | (refine IsPs.up ?_ ?_; assumption; walk_at "kp")
  | (refine IsPr.up ?_ ?_; assumption; walk_at "kp")
  | (refine Kp.tup ?_ ?_; rotate_left; assumption; walk_at "kp"))
/-! ### Way: leg, path, stretch -/
section
variable {P : Program} {w : World} {K : PySem.W.Frag} {mg : Str → Option Value} {base : Heap}
theorem sc_Way_leg : FnScope ["self", "post", "oil", "steps"] ["self", "post"] (defScope s_Way_leg) := ⟨rfl, rfl, rfl, by decide +kernel, rfl, by decide +kernel, by decide +kernel⟩
theorem ok_Way_leg (T : Txt K mg) : FnR P w K mg base (L2.CX P w) 4 (He.ma K (He.ga K "Way") "leg") (spLeg K) := by
  refine fnr T.d_Way_leg sc_Way_leg (fun _ _ _ _ _ _ us hl => match us, hl with | [_, _], _ => rfl) (fun vs H Q E h => ?_) fun cdv A outer s H vs Q E hr h => ?_
  · obtain ⟨v, w, i, rfl, _⟩ := h
    rfl
  · obtain ⟨v, wy, i, rfl, hw, q⟩ := h
    have C := Cal.body (P := P) (w := w) (K := K) (mg := mg) (base := base) (N := ["self", "post", "oil", "steps"]) (outer := outer) (H := H) (E := E) hr
    have ok := hw.1
    have n1 := ok.n1
    have hl : i % wy.posts.length < wy.posts.length := Nat.mod_lt _ n1
    refine lv_cons (sv_asg (ev_ixT (ev_rows T.cls_Way T.no_Way_rows (ev_var 0 rfl ⟨_, hw, fun t ⟨us, hu, ru⟩ => ev_bin op_mod (ev_callT call_int1 T.b_int (av_cons (ev_var 1 rfl (av_nil (Or.inl ⟨_, rfl, ev_lenP C T.b_len (ev_rows T.cls_Way T.no_Way_rows (ev_var 0 rfl ⟨_, hw, fun t2 ht2 => ⟨_, _, rfl, ht2, i2c (by omega) ?_⟩⟩))⟩)))))⟩))))
    obtain ⟨u, e1, a, rfl, ha⟩ := AreP.get ru (at_get hl)
    refine ⟨_, _, _, _, rfl, rfl, hu, by rw [← Int.natCast_emod]; exact (atI_eq _ _).trans e1, ?_⟩
    rw [at_mod] at ha
    refine gv_tup C.calm (SqT.of ha) rfl (gsv_cons (gv_name 2 (gsv_cons (gv_name 3 (gsv_nil ?_) sc_Way_leg.nd)) sc_Way_leg.nd))
    refine lv_cons (sv_if (tv_cmp op_gt (ev_var 3 rfl (ev_holds T.cls_Way T.no_Way_holds (ev_var 0 rfl ⟨_, hw, ti2 (fun h => ?_) fun h => lv_nil ?_⟩)))))
    · have e : wy.leg i = bar := if_pos h
      rw [e] at q
      exact lv_one (sv_ret (ev_St T C (by decide) (av_cons (ev_non (av_cons (ev_int (av_cons (ev_int (av_nil ⟨none, _, _, rfl, ⟨by decide, trivial⟩, q⟩)))))))))
    · have e : wy.leg i = ⟨some (max 0 ((wy.at i).2 - (wy.at i).1)), (wy.at i).1 - (wy.at i).2, wy.cap - (wy.at i).2⟩ := if_neg h
      rw [e] at q
      have okp := ok.at_ok i
      obtain ⟨k1, k2, k3, k4⟩ := okp
      refine lv_one (sv_ret (ev_St T C (by decide) (av_cons (ev_callB C.calm (call_max2 C.calm) T.b_max (av_cons (ev_int (av_cons (ev_bin op_sub (ev_var 3 rfl (ev_var 2 rfl (i2 (av_nil ⟨_, _, rfl, av_cons (ev_bin op_sub (ev_var 2 rfl (ev_var 3 rfl (i2 (av_cons (ev_bin op_sub (ev_holds T.cls_Way T.no_Way_holds (ev_var 0 rfl ⟨_, hw, ev_var 3 rfl (i2 (av_nil ⟨some _, _, _, rfl, ⟨?_, ?_, ?_⟩, ?_⟩))⟩))))))))⟩))))))))))))
      · show (0 : Int) ≤ _ - _
        omega
      · split <;> omega
      · split <;> omega
      · have em : (if (wy.at i).2 - (wy.at i).1 > 0 then (wy.at i).2 - (wy.at i).1 else 0) = max 0 ((wy.at i).2 - (wy.at i).1) := by split <;> omega
        intro H' v' S' h'
        rw [em] at h'
        exact q H' v' S' h'
end
section
variable {X : Cx} {e e2 : Expr} {es : List Expr} {σ : L2.St} {H : Hp} {Q : VK} {Qt Qf : Hp → Prop} {D : Ends} {k j : Nat} {E : XK} {x : Str} {p p1 p2 pos apos : Pos}
/-- w.leg(i) -/
theorem ev_leg {pl : Sem Bool} (T : Txt X.K X.mg) (C : Cal X k E) (hk : 4 ≤ k) (q : EV X e σ H fun x H1 => ∃ w, IsWy X.K H1 x w ∧ AV X (e2 :: es) σ H1 fun vs H2 => ∃ i : Nat, vs = [.int (i : Nat)] ∧ Kp X.K H1 H2 ∧ ∀ H' v', Same H2 H' → IsSt X.K H' v' (w.leg i) → Q v' H')
    (hst : starEach (e2 :: es) X.env = (false, eval e2 X.env) :: starEach es X.env := by rfl) (hpl : (backTo pos (starEach es X.env)).any (·.1) = false := by rfl)
    (ht : eval (.Call (.Attribute e "leg" apos) (e2 :: es) [] pos) X.env = (do
      let ov ← eval e X.env
      standAt apos.atName
      let (f, first) ← holding [ov] (getMethod ov "leg" pl)
      callWith pos f first (backTo pos (starEach (e2 :: es) X.env)) (backToKw pos (keywordEach [] X.env))) := by rfl) : EV X (.Call (.Attribute e "leg" apos) (e2 :: es) [] pos) σ H Q := by
  refine ev_meth C T.cls_Way T.me_Way_leg (ok_Way_leg T) hk (EV.mono q fun x H1 ⟨w, hw, q⟩ => ?_) hst hpl ht
  obtain ⟨a, dx, t, rfl, ha⟩ := wy_at hw
  exact ⟨a, dx, _, rfl, ha, rfl, AV.mono q fun vs H2 ⟨i, ev, kp, q⟩ => ⟨_, w, i, by rw [ev], hw.up kp, q⟩⟩
end
section
variable {P : Program} {w : World} {K : PySem.W.Frag} {mg : Str → Option Value} {base : Heap}
theorem sc_Way_path : FnScope ["self", "post", "legs", "rounds", "rest", "found", "whole", "turn"] ["self", "post", "legs"] (defScope s_Way_path) := ⟨rfl, rfl, rfl, by decide +kernel, rfl, by decide +kernel, by decide +kernel⟩
theorem ok_Way_path (T : Txt K mg) : FnR P w K mg base (L2.CX P w) 6 (He.ma K (He.ga K "Way") "path") (spPath K) := by
  refine fnr T.d_Way_path sc_Way_path (fun _ _ _ _ _ _ us hl => match us, hl with | [_, _, _], _ => rfl) (fun vs H Q E h => ?_) fun cdv A outer s H vs Q E hr h => ?_
  · obtain ⟨v, w, i, n, rfl, _⟩ := h
    rfl
  · obtain ⟨v, wy, i, n, rfl, hw, hn1, hn2, q⟩ := h
    have C := Cal.body (P := P) (w := w) (K := K) (mg := mg) (base := base) (N := ["self", "post", "legs", "rounds", "rest", "found", "whole", "turn"]) (outer := outer) (H := H) (E := E) hr
    have ok := hw.1
    have n1 := ok.n1
    have n2 := ok.n2
    generalize hL : wy.posts.length = L at n1 n2
    refine lv_cons (sv_par3 3 4 5 C.calm sc_Way_path.nd (av_cons (ev_bin op_fdiv (ev_var 2 rfl (ev_lenP C T.b_len (ev_rows T.cls_Way T.no_Way_rows (ev_var 0 rfl ⟨_, hw, fun t ht => ⟨_, _, rfl, ht, i2c ⟨by omega, by omega⟩ (av_cons (ev_bin op_mod (ev_callT call_int1 T.b_int (av_cons (ev_var 2 rfl (av_nil (Or.inl ⟨_, rfl, ev_lenP C T.b_len (ev_rows T.cls_Way T.no_Way_rows (ev_var 0 rfl ⟨_, hw, fun t ht => ⟨_, _, rfl, ht, i2c (by omega) (av_cons (ev_non (av_nil ⟨_, _, _, rfl, ?_⟩)))⟩⟩))⟩)))))))⟩⟩)))))))
    rw [hL, ← Int.natCast_ediv, ← Int.natCast_emod]
    have hdm : L * (n / L) + n % L = n := Nat.div_add_mod n L
    have hrl : n % L < L := Nat.mod_lt _ n1
    generalize n / L = r at hdm
    generalize n % L = m at hdm hrl
    refine lv_cut (fun σ2 H2 => Same H H2 ∧ ∃ fv wv tv, σ2 = [some v, some (.int (i : Nat)), some (.int (n : Nat)), some (.int (r : Nat)), some (.int (m : Nat)), some fv, wv, tv] ∧ ((r = 0 ∧ fv = .non) ∨ (1 ≤ r ∧ IsSt K H2 fv (wy.st i (L * r))))) (sv_if (tv_cmp op_gt (ev_var 3 rfl (ev_int (ti2 (fun hr0 => ?_) fun hr0 => lv_nil ⟨Same.refl _, _, _, _, rfl, .inl ⟨by omega, rfl⟩⟩))))) ?_
    · refine lv_cons (sv_set 6 (ev_leg T C (by decide) (ev_var 0 rfl ⟨_, hw, av_cons (ev_var 1 rfl (av_nil ⟨i, rfl, Kp.refl, fun H1 v1 S1 h1 => ?_⟩))⟩)) sc_Way_path.nd)
      refine lv_cons (sv_forR2 C.calm C.po T.b_range (ev_int (ev_lenP C T.b_len (ev_rows T.cls_Way T.no_Way_rows (ev_var 0 rfl ⟨_, hw.upS S1, fun t ht => ⟨_, _, rfl, ht, 1, (L : Int), rfl, by rw [hL], ⟨by omega, by omega, by omega, by omega⟩, fun j σ' H' => Same H H' ∧ ∃ wv tv, σ' = [some v, some (.int (i : Nat)), some (.int (n : Nat)), some (.int (r : Nat)), some (.int (m : Nat)), some .non, some wv, tv] ∧ IsSt K H' wv (wy.st i (j + 1)), ⟨S1, v1, _, rfl, h1⟩, fun j σ' H' hj hp => ?_, fun σ' H' hp => ?_⟩⟩)))))
      · obtain ⟨S2, wv, tv, rfl, h2⟩ := hp
        refine gv_name 7 ?_ sc_Way_path.nd
        refine lv_one (sv_set 6 (ev_call C (ok_joined T) (by decide) T.gl_joined (fkp T.d_joined) (av_cons (ev_var 6 rfl (av_cons (ev_leg T C (by decide) (ev_var 0 rfl ⟨_, hw.upS S2, av_cons (ev_bin op_add (ev_var 1 rfl (ev_var 7 rfl (i2 (av_nil ⟨i + (j + 1), by rw [show (i : Int) + (1 + (j : Int)) = ((i + (j + 1) : Nat) : Int) by omega], Kp.refl, fun H3 v3 S3 h3 => av_nil ⟨_, _, _, _, rfl, h2.upS S3, h3, fun H4 v4 S4 h4 => ⟨S2.trans (S3.trans S4), v4, _, rfl, ?_⟩⟩⟩)))))⟩)))))) sc_Way_path.nd)
        rw [st_succ wy i (by omega)] at h4
        exact h4
      · obtain ⟨S2, wv, tv, rfl, h2⟩ := hp
        have eL : ((L : Int) - 1).toNat + 1 = L := by omega
        rw [eL] at h2
        refine lv_one (sv_set 5 (ev_call C (ok_repeated T) (by decide) T.gl_repeated (fkp T.d_repeated) (av_cons (ev_var 6 rfl (av_cons (ev_var 3 rfl (av_nil ⟨_, _, _, rfl, h2, .int _, fun k' ek h1' h2' H3 v3 S3 h3 => ⟨S2.trans S3, v3, _, _, rfl, .inr ⟨by omega, ?_⟩⟩, fun e => ?_⟩)))))) sc_Way_path.nd)
        · cases ek
          rw [Int.toNat_natCast] at h3
          have z := st_pow' wy (by omega) i (k := r) (by omega)
          rw [hL] at z
          rw [z] at h3
          exact h3
        · exfalso
          have h1' : (1 : Int) ≤ (r : Int) := by omega
          have h3' : r ≤ L * r := Nat.le_mul_of_pos_left _ n1
          have h2' : (r : Int) ≤ 10 ^ 18 := by
            have : r ≤ 10 ^ 18 := by omega
            omega
          have z : inRg 1 (10 ^ 18) (.int (r : Int)) = true := by
            simp only [inRg, decide_eq_true h1', decide_eq_true h2']
            rfl
          rw [z] at e
          cases e
    · rintro σ2 H2 ⟨S2, fv, wv, tv, rfl, hf⟩
      refine lv_cons (sv_forR1 C.calm C.po T.b_range (ev_var 4 rfl ⟨(m : Int), rfl, by omega, by omega, fun j σ' H' => Same H H' ∧ ∃ fv tv, σ' = [some v, some (.int (i : Nat)), some (.int (n : Nat)), some (.int (r : Nat)), some (.int (m : Nat)), some fv, wv, tv] ∧ ((L * r + j = 0 ∧ fv = .non) ∨ (1 ≤ L * r + j ∧ IsSt K H' fv (wy.st i (L * r + j)))), ⟨S2, fv, _, rfl, ?_⟩, fun j σ' H' hj hp => ?_, fun σ' H' hp => ?_⟩))
      · rcases hf with ⟨e0, e1⟩ | ⟨e0, e1⟩
        · exact .inl ⟨by rw [e0]; simp, e1⟩
        · exact .inr ⟨by have := Nat.le_mul_of_pos_left r n1; omega, e1⟩
      · obtain ⟨S3, fv, tv, rfl, h3⟩ := hp
        refine gv_name 7 ?_ sc_Way_path.nd
        have hleg : wy.leg (i + j) = wy.leg (i + (L * r + j)) := by
          have z := leg_per wy (i + j) r
          rw [hL] at z
          rw [show i + (L * r + j) = i + j + L * r by omega, z]
        refine lv_one (sv_set 5 (ev_if (tv_isN (ev_var 5 rfl ?_))) sc_Way_path.nd)
        rcases h3 with ⟨e0, rfl⟩ | ⟨e0, h3⟩
        · refine bN1 (ev_leg T C (by decide) (ev_var 0 rfl ⟨_, hw.upS S3, av_cons (ev_bin op_add (ev_var 1 rfl (ev_var 7 rfl (i2 (av_nil ⟨i + j, by rw [show (i : Int) + (j : Int) = ((i + j : Nat) : Int) by omega], Kp.refl, fun H4 v4 S4 h4 => ⟨S3.trans S4, v4, _, rfl, .inr ⟨by omega, ?_⟩⟩⟩)))))⟩))
          have e2 : L * r + (j + 1) = 1 := by omega
          rw [e2, st_one]
          have e3 : i + j = i := by omega
          rw [e3] at h4
          exact h4
        · have h3' := h3
          obtain ⟨_, fa, _, rfl, _⟩ := h3'
          refine bN2 (ev_call C (ok_joined T) (by decide) T.gl_joined (fkp T.d_joined) (av_cons (ev_var 5 rfl (av_cons (ev_leg T C (by decide) (ev_var 0 rfl ⟨_, hw.upS S3, av_cons (ev_bin op_add (ev_var 1 rfl (ev_var 7 rfl (i2 (av_nil ⟨i + j, by rw [show (i : Int) + (j : Int) = ((i + j : Nat) : Int) by omega], Kp.refl, fun H4 v4 S4 h4 => av_nil ⟨_, _, _, _, rfl, h3.upS S4, h4, fun H5 v5 S5 h5 => ⟨S3.trans (S4.trans S5), v5, _, rfl, .inr ⟨by omega, ?_⟩⟩⟩⟩)))))⟩))))))
          rw [hleg, st_succ wy i e0] at h5
          exact h5
      · obtain ⟨S3, fv, tv, rfl, h3⟩ := hp
        rw [Int.toNat_natCast, hdm] at h3
        refine lv_one (sv_ret (ev_var 5 rfl ?_))
        rcases h3 with ⟨e0, _⟩ | ⟨_, h3⟩
        · omega
        · exact q _ _ S3 h3
theorem sc_Way_stretch : FnScope ["self", "post", "legs"] ["self", "post", "legs"] (defScope s_Way_stretch) := ⟨rfl, rfl, rfl, by decide +kernel, rfl, by decide +kernel, by decide +kernel⟩
theorem ok_Way_stretch (T : Txt K mg) : FnR P w K mg base (L2.CX P w) 7 (He.ma K (He.ga K "Way") "stretch") (spStretch K) := by
  refine fnr T.d_Way_stretch sc_Way_stretch (fun _ _ _ _ _ _ us hl => match us, hl with | [_, _, _], _ => rfl) (fun vs H Q E h => ?_) fun cdv A outer s H vs Q E hr h => ?_
  · obtain ⟨v, w, i, o, rfl, _⟩ := h
    rfl
  · obtain ⟨v, wy, p, o, rfl, hw, typ, ty, q1, q2, q3⟩ := h
    have C := Cal.body (P := P) (w := w) (K := K) (mg := mg) (base := base) (N := ["self", "post", "legs"]) (outer := outer) (H := H) (E := E) hr
    obtain ⟨a, dx, t, rfl, ha⟩ := wy_at hw
    refine lv_cons (sv_expr (ev_meth C T.cls_Way T.me_Way_need_post (ok_Way_need_post T) (by decide) (ev_var 0 rfl ⟨_, _, _, rfl, ha, rfl, av_cons (ev_var 1 rfl (av_nil ⟨_, _, _, rfl, hw, typ, fun e1 => ?_, fun e => q2 e⟩))⟩)))
    refine lv_cons (sv_expr (ev_call C (ok_check_number T) (by decide) T.gl_check_number (fkp T.d_check_number) (av_cons (ev_var 2 rfl (av_cons (ev_int (av_cons (ev_gint T.k_MAX_LEGS (av_nil ⟨_, _, _, rfl, ty, fun e2 => ?_, fun e => q3 e1 e⟩)))))))))
    obtain ⟨j, ej, hj⟩ := inRg_nat e1
    cases ej
    cases o with
    | int n0 =>
      simp only [inRg, Bool.and_eq_true, decide_eq_true_eq] at e2
      obtain ⟨n, rfl⟩ : ∃ n : Nat, n0 = n := ⟨n0.toNat, by omega⟩
      exact lv_one (sv_ret (ev_meth C T.cls_Way T.me_Way_path (ok_Way_path T) (by decide) (ev_var 0 rfl ⟨_, _, _, rfl, ha, rfl, av_cons (ev_var 1 rfl (av_cons (ev_var 2 rfl (av_nil ⟨_, wy, j, n, rfl, hw, by omega, by omega, q1 j n rfl rfl hj (by omega) (by omega)⟩))))⟩)))
    | _ => exact absurd e2 (by simp [inRg])
end
end OilLaw
set_option Elab.async false
set_option linter.all false
set_option maxRecDepth 100000
set_option maxHeartbeats 2000000
set_option pp.maxSteps 4000
namespace OilLaw
open PySem PySem.Spec PyProof.Rows L2 Oil
local macro_rules | `(tactic| walk_at "kp") => `(tactic| first
  | exact Kp.refl
  | assumption
  | exact Same.kp (by assumption)
  | (refine Kp.tr (Same.kp ?_) ?_; assumption; walk_at "kp")
  | (refine Kp.tr ?_ ?_; assumption; walk_at "kp"))
local macro_rules | `(tactic| walk_at "same") => `(tactic| first
  | exact Same.refl _
  | assumption
  | (refine Same.tr ?_ ?_; assumption; walk_at "same"))
local macro_rules | `(tactic| walk_at "rp") => `(tactic| first
  | assumption
  | (refine IsSt.up ?_ ?_; assumption; walk_at "kp")
  | (refine IsWy.up ?_ ?_; assumption; walk_at "kp")
  | (refine IsPs.up ?_ ?_; assumption; walk_at "kp")
  | (refine IsPr.up ?_ ?_; assumption; walk_at "kp")
  | (refine Kp.tup ?_ ?_; rotate_left; assumption; walk_at "kp"))
/-! ### walking: check_start, oil_after -/
def spStart (K : PySem.W.Frag) : Sp := fun vs H Q E => ∃ v w p o, vs = [v, p, o] ∧ IsWy K H v w ∧ Typd H p ∧ Typd H o ∧ (inRg 0 (w.posts.length - 1) p = true → inRg 0 w.cap o = true → Q .non H) ∧
  (inRg 0 (w.posts.length - 1) p = false → E (.ref (He.ga K "UnknownPost")) none H) ∧ (inRg 0 (w.posts.length - 1) p = true → inRg 0 w.cap o = false → E (.ref (He.ga K "InvalidNumber")) none H)
def spOilAfter (K : PySem.W.Frag) : Sp := fun vs H Q E => ∃ v w p o n, vs = [v, p, o, n] ∧ IsWy K H v w ∧ Typd H p ∧ Typd H o ∧ Typd H n ∧
  (∀ (i m : Nat) (ol : Int), p = .int i → o = .int ol → n = .int m → i < w.posts.length → 0 ≤ ol → ol ≤ w.cap → m ≤ 10 ^ 18 → ∀ H', Same H H' → Q (vN (w.walk i ol m)) H') ∧
  (inRg 0 (w.posts.length - 1) p = false → E (.ref (He.ga K "UnknownPost")) none H) ∧ (inRg 0 (w.posts.length - 1) p = true → inRg 0 w.cap o = false → E (.ref (He.ga K "InvalidNumber")) none H) ∧
  (inRg 0 (w.posts.length - 1) p = true → inRg 0 w.cap o = true → inRg 0 (10 ^ 18) n = false → E (.ref (He.ga K "InvalidNumber")) none H)
theorem inRg_int {lo hi : Int} {o : V} (h : inRg lo hi o = true) : ∃ i, o = .int i ∧ lo ≤ i ∧ i ≤ hi := by
  cases o with
  | int i =>
    simp only [inRg, Bool.and_eq_true, decide_eq_true_eq] at h
    exact ⟨i, rfl, h.1, h.2⟩
  | _ => exact absurd h (by simp [inRg])
theorem inRg_ok {lo hi i : Int} (h1 : lo ≤ i) (h2 : i ≤ hi) : inRg lo hi (.int i) = true := by
  simp only [inRg, decide_eq_true h1, decide_eq_true h2]
  rfl
section
variable {P : Program} {w : World} {K : PySem.W.Frag} {mg : Str → Option Value} {base : Heap}
theorem sc_check_start : FnScope ["way", "post", "oil"] ["way", "post", "oil"] (defScope s_check_start) := ⟨rfl, rfl, rfl, by decide +kernel, rfl, by decide +kernel, by decide +kernel⟩
theorem ok_check_start (T : Txt K mg) : FnR P w K mg base (L2.CX P w) 4 (He.ga K "check_start") (spStart K) := by
  refine fnr T.d_check_start sc_check_start (fun _ _ _ _ _ _ us hl => match us, hl with | [_, _, _], _ => rfl) (fun vs H Q E h => ?_) fun cdv A outer s H vs Q E hr h => ?_
  · obtain ⟨v, w, p, o, rfl, _⟩ := h
    rfl
  · obtain ⟨v, wy, p, o, rfl, hw, tp, to, q1, q2, q3⟩ := h
    have C := Cal.body (P := P) (w := w) (K := K) (mg := mg) (base := base) (N := ["way", "post", "oil"]) (outer := outer) (H := H) (E := E) hr
    obtain ⟨a, dx, t, rfl, ha⟩ := wy_at hw
    refine lv_cons (sv_expr (ev_meth C T.cls_Way T.me_Way_need_post (ok_Way_need_post T) (by decide) (ev_var 0 rfl ⟨_, _, _, rfl, ha, rfl, av_cons (ev_var 1 rfl (av_nil ⟨_, _, _, rfl, hw, tp, fun e1 => ?_, fun e => q2 e⟩))⟩)))
    refine lv_one (sv_expr (ev_call C (ok_check_number T) (by decide) T.gl_check_number (fkp T.d_check_number) (av_cons (ev_var 2 rfl (av_cons (ev_int (av_cons (ev_holds T.cls_Way T.no_Way_holds (ev_var 0 rfl ⟨_, hw, av_nil ⟨_, _, _, rfl, to, fun e2 => q1 e1 e2, fun e => q3 e1 e⟩⟩)))))))))
end
end OilLaw
set_option Elab.async false
set_option linter.all false
set_option maxRecDepth 100000
set_option maxHeartbeats 2000000
set_option pp.maxSteps 4000
namespace OilLaw
open PySem PySem.Spec PyProof.Rows L2 Oil
local macro_rules | `(tactic| walk_at "kp") => `(tactic| first
  | exact Kp.refl
  | assumption
  | exact Same.kp (by assumption)
  | (refine Kp.tr (Same.kp ?_) ?_; assumption; walk_at "kp")
  | (refine Kp.tr ?_ ?_; assumption; walk_at "kp"))
local macro_rules | `(tactic| walk_at "same") => `(tactic| first
  | exact Same.refl _
  | assumption
  | (refine Same.tr ?_ ?_; assumption; walk_at "same"))
local macro_rules | `(tactic| walk_at "rp") => `(tactic| first
  | assumption
  | (refine IsSt.up ?_ ?_; assumption; walk_at "kp")
  | (refine IsWy.up ?_ ?_; assumption; walk_at "kp")
  | (refine IsPs.up ?_ ?_; assumption; walk_at "kp")
  | (refine IsPr.up ?_ ?_; assumption; walk_at "kp")
  | (refine Kp.tup ?_ ?_; rotate_left; assumption; walk_at "kp"))
/-! ### the law's dice -/
/-- the script at p, apart from d -/
def ScL (K : PySem.W.Frag) (d : Addr) (H : Hp) (p : Addr) (xs : List V) : Prop := (p ≠ d ∧ Rd H p (.lst xs)) ∨
  ∃ (o : Obj) (its : Array Value) (n : Nat), K.lookup p = some o ∧ o.cls = .type "list" ∧ o.dict = none ∧ o.data = .seq its n ∧ its.size ≤ sizeLine ∧ Vals xs its.toList
theorem ScL.sql {K : PySem.W.Frag} {H : Hp} {d p : Addr} {xs : List V} (h : ScL K d H p xs) : SqL K H p xs := by
  rcases h with ⟨_, h⟩ | h
  · exact .inl h
  · exact .inr h
theorem ScL.of {K : PySem.W.Frag} {H : Hp} {d p : Addr} {xs : List V} (h : SqL K H p xs) (n : H d = none) : ScL K d H p xs := by
  rcases h with h | h
  · refine .inl ⟨fun e => ?_, h⟩
    subst e
    rcases h with h | ⟨_, h⟩
    · rw [h] at n
      cases n
    · rw [h] at n
      cases n
  · exact .inr h
theorem ScL.but {K : PySem.W.Frag} {H H' : Hp} {d p : Addr} {xs : List V} (h : ScL K d H p xs) (b : But d H H') : ScL K d H' p xs := by
  rcases h with ⟨n, h⟩ | h
  · refine .inl ⟨n, ?_⟩
    rcases h with h | ⟨ow, h⟩
    · exact .inl (b _ _ n h)
    · exact .inr ⟨ow, b _ _ n h⟩
  · exact .inr h
/-- the list that the law draws from: its place, the script's place, the script's numbers -/
structure Dice where
  d : Addr
  sc : Addr
  ns : List Int
def IsRow (K : PySem.W.Frag) (G : Dice) (H : Hp) : Prop := ScL K G.d H G.sc (G.ns.map V.int) ∧ ∃ (i j k : Int), H G.d = some (.lst [.ref G.sc, .int i, .int j, .int k]) ∧ 0 ≤ i
/-- what drawing does to the heap -/
def Rl (K : PySem.W.Frag) (G : Dice) (H H' : Hp) : Prop := But G.d H H' ∧ Kp K H H' ∧ IsRow K G H'
section
variable {K : PySem.W.Frag} {H H1 H' : Hp} {G : Dice} {D : Addr} {o : HO}
theorem but_upd {d : Addr} : But d H (upd H d o) := fun b u hb e => by rw [upd_ne hb]; exact e
theorem IsRow.some (h : IsRow K G H) : ∃ xs, H G.d = some (.lst xs) := by
  obtain ⟨_, i, j, k, h, _⟩ := h
  exact ⟨_, h⟩
theorem IsRow.ne (h : IsRow K G H) (n : H D = none) : D ≠ G.d := fun e => by
  obtain ⟨xs, h⟩ := h.some
  rw [e, h] at n
  cases n
theorem row_set (h : IsRow K G H) {i j k : Int} (hi : 0 ≤ i) : Rl K G H (upd H G.d (.lst [.ref G.sc, .int i, .int j, .int k])) := by
  obtain ⟨xs, hx⟩ := h.some
  exact ⟨but_upd, But.kp but_upd hx, h.1.but but_upd, i, j, k, upd_same, hi⟩
theorem IsRow.same (h : IsRow K G H) (S : Same H H') : IsRow K G H' := by
  obtain ⟨hs, i, j, k, h, hi⟩ := h
  exact ⟨hs.but (fun b o _ e => S b o e), i, j, k, S _ _ h, hi⟩
theorem Rl.refl (h : IsRow K G H) : Rl K G H H := ⟨But.refl, Kp.refl, h⟩
theorem Rl.row (R : Rl K G H H') : IsRow K G H' := R.2.2
theorem Rl.kp (R : Rl K G H H') : Kp K H H' := R.2.1
theorem Rl.tr (a : Rl K G H H1) (b : Rl K G H1 H') : Rl K G H H' := ⟨But.tr b.1 a.1, Kp.tr b.2.1 a.2.1, b.2.2⟩
theorem Rl.same (a : Rl K G H H1) (S : Same H1 H') : Rl K G H H' := ⟨But.tr (Same.but S) a.1, Kp.tr (Same.kp S) a.2.1, a.2.2.same S⟩
theorem Rl.ofS (h : IsRow K G H) (S : Same H H') : Rl K G H H' := (Rl.refl h).same S
/-- a new object is written to -/
theorem Rl.fresh (h : IsRow K G H) (a : Rl K G H H') (n : H D = none) : Rl K G H (upd H' D o) := by
  have nd := h.ne n
  have b : But G.d H (upd H' D o) := fun c u hc e => by rw [upd_ne (ne_of_none e n)]; exact a.1 _ _ hc e
  obtain ⟨_, i, j, k, hd, hi⟩ := a.2.2
  exact ⟨b, fun c u hu e => by rw [upd_ne (ne_of_none e n)]; exact a.2.1 _ _ hu e, h.1.but b, i, j, k, by rw [upd_ne (Ne.symm nd)]; exact hd, hi⟩
theorem same_fresh (S : Same H H') (n : H D = none) : Same H (upd H' D o) := fun c u e => by
  rw [upd_ne (ne_of_none e n)]
  exact S _ _ e
end
/-- one number drawn below n -/
def spTaken (K : PySem.W.Frag) : Sp := fun vs H Q _ => ∃ G n, vs = [.ref G.d, .int n] ∧ IsRow K G H ∧ 1 ≤ n ∧ n < 1073741824 ∧ ∀ r H', 0 ≤ r → r < n → Rl K G H H' → Q (.int r) H'
section
variable {P : Program} {w : World} {K : PySem.W.Frag} {mg : Str → Option Value} {base : Heap}
theorem sc__law_taken : FnScope ["_law_row", "_law_many", "_law_found", "_law_cell"] ["_law_row", "_law_many"] (defScope s__law_taken) := ⟨rfl, rfl, rfl, by decide +kernel, rfl, by decide +kernel, by decide +kernel⟩
theorem ok__law_taken (T : Txt K mg) : FnR P w K mg base (L2.CX P w) 1 (He.ga K "_law_taken") (spTaken K) := by
  refine fnr T.d__law_taken sc__law_taken (fun _ _ _ _ _ _ us hl => match us, hl with | [_, _], _ => rfl) (fun vs H Q E h => ?_) fun cdv A outer s H vs Q E hr h => ?_
  · obtain ⟨G, n, rfl, _⟩ := h
    rfl
  · obtain ⟨⟨d, sc, ns⟩, n, rfl, hrow, n1, n2, q⟩ := h
    obtain ⟨hs, i, j, k, hd, hi⟩ := id hrow
    simp only at hs hd
    have C := Cal.body (P := P) (w := w) (K := K) (mg := mg) (base := base) (N := ["_law_row", "_law_many", "_law_found", "_law_cell"]) (outer := outer) (H := H) (E := E) hr
    have hnd := sc__law_taken.nd
    have nn : 0 < n := by omega
    have fin : ∀ (i' j' k' r : Int) (H' : Hp), 0 ≤ i' → 0 ≤ r → r < n → H' = upd H d (.lst [.ref sc, .int i', .int j', .int k']) → Q (.int r) H' := fun i' j' k' r H' hi' hr0 hr1 e => by
      subst e
      exact q r _ hr0 hr1 (row_set hrow hi')
    have md : ∀ a : Int, 0 ≤ a % n ∧ a % n < n := fun a => ⟨Int.emod_nonneg _ (by omega), Int.emod_lt_of_pos _ nn⟩
    refine lv_cons (sv_if (tv_cmp op_gt (ev_ixL (ev_var 0 rfl (ev_int ⟨d, _, _, _, rfl, rfl, SqL.of hd, rfl, ev_int (ti2 (fun hk => ?_) fun hk => lv_nil ?_)⟩)))))
    · refine lv_cons (sv_set 2 (ev_bin op_mod (ev_callT call_int1 T.b_int (av_cons (ev_ixL (ev_var 0 rfl (ev_int ⟨d, _, _, _, rfl, rfl, SqL.of hd, rfl, av_nil (Or.inl ⟨_, rfl, ev_var 1 rfl (i2c nn ?_)⟩)⟩)))))) hnd)
      refine lv_cons (sv_asg (ev_bin op_fdiv (ev_ixL (ev_var 0 rfl (ev_int ⟨d, _, _, _, rfl, rfl, SqL.of hd, rfl, ev_var 1 rfl (i2c ⟨nn, n2⟩ (gv_setL (ev_var 0 rfl (ev_int ⟨d, _, 3, 3, rfl, rfl, hd, rfl, ?_⟩))))⟩)))))
      exact lv_one (sv_ret (ev_var 2 rfl (fin i j _ _ _ hi (md k).1 (md k).2 rfl)))
    · refine lv_cons (sv_asg (ev_bin op_add (ev_ixL (ev_var 0 rfl (ev_int ⟨d, _, _, _, rfl, rfl, SqL.of hd, rfl, ev_int (i2 (gv_setL (ev_var 0 rfl (ev_int ⟨d, _, 1, 1, rfl, rfl, hd, rfl, ?_⟩))))⟩)))))
      have hs1 : ∀ {o : HO}, SqL K (upd H d o) sc (ns.map V.int) := (hs.but but_upd).sql
      refine lv_cons (sv_if (tv_cmp op_gt (ev_ixL (ev_var 0 rfl (ev_int ⟨d, _, _, _, rfl, rfl, SqL.of upd_same, rfl, ev_lenL C T.b_len (ev_ixL (ev_var 0 rfl (ev_int ⟨d, _, _, _, rfl, rfl, SqL.of upd_same, rfl, sc, _, rfl, hs1, ti2 (fun hk => ?_) fun hk => lv_nil ?_⟩)))⟩)))))
      · refine lv_cons (sv_asg (ev_bin op_mod (ev_callT call_int1 T.b_int (av_cons (ev_bin op_add (ev_bin op_mul (ev_ixL (ev_var 0 rfl (ev_int ⟨d, _, _, _, rfl, rfl, SqL.of upd_same, rfl, ev_int (i2c (Or.inr ⟨by decide, by decide⟩) (ev_int (i2 (av_nil (Or.inl ⟨_, rfl, ev_int (i2c (by decide) (gv_setL (ev_var 0 rfl (ev_int ⟨d, _, 2, 2, rfl, rfl, upd_same, rfl, ?_⟩))))⟩)))))⟩)))))))))
        rw [upd_upd]
        refine lv_one (sv_ret (ev_bin op_mod (ev_callT call_int1 T.b_int (av_cons (ev_bin op_fdiv (ev_ixL (ev_var 0 rfl (ev_int ⟨d, _, _, _, rfl, rfl, SqL.of upd_same, rfl, ev_int (i2c ⟨by decide, by decide⟩ (av_nil (Or.inl ⟨_, rfl, ev_var 1 rfl (i2c nn ?_)⟩)))⟩))))))))
        exact fin _ _ _ _ _ (by omega) (md _).1 (md _).2 rfl
      · rw [List.length_map] at hk
        have hj : i + 1 - 1 = ((i.toNat : Nat) : Int) := by omega
        have hlt : i.toNat < ns.length := by omega
        have hcell : atI (ns.map V.int) (i + 1 - 1) = some (.int ns[i.toNat]) := by
          rw [hj]
          exact (atI_eq _ _).trans (by simp [hlt])
        generalize ns[i.toNat] = cell at hcell
        refine lv_cons (sv_set 3 (ev_ixL (ev_ixL (ev_var 0 rfl (ev_int ⟨d, _, _, _, rfl, rfl, SqL.of upd_same, rfl, ev_bin op_sub (ev_ixL (ev_var 0 rfl (ev_int ⟨d, _, _, _, rfl, rfl, SqL.of upd_same, rfl, ev_int (i2 ⟨sc, _, _, _, rfl, rfl, hs1, hcell, ?_⟩)⟩)))⟩)))) hnd)
        refine lv_cons (sv_asg (ev_bin op_mod (ev_callT call_int1 T.b_int (av_cons (ev_bin op_add (ev_bin op_add (ev_bin op_mul (ev_ixL (ev_var 0 rfl (ev_int ⟨d, _, _, _, rfl, rfl, SqL.of upd_same, rfl, ev_int (i2c (Or.inr ⟨by decide, by decide⟩) (ev_var 3 rfl (i2 (ev_int (i2 (av_nil (Or.inl ⟨_, rfl, ev_int (i2c (by decide) (gv_setL (ev_var 0 rfl (ev_int ⟨d, _, 2, 2, rfl, rfl, upd_same, rfl, ?_⟩))))⟩)))))))⟩))))))))))
        rw [upd_upd]
        refine lv_cons (sv_asg (ev_if (tv_cmp op_ge (ev_var 3 rfl (ev_bin op_pow (ev_int (ev_int (i2c ⟨by decide, by decide, by decide⟩ (ti2 (fun hk => ?_) fun hk => ?_)))))))))
        · refine ev_bin op_fdiv (ev_var 3 rfl (ev_var 1 rfl (i2c ⟨nn, n2⟩ (gv_setL (ev_var 0 rfl (ev_int ⟨d, _, 3, 3, rfl, rfl, upd_same, rfl, ?_⟩))))))
          rw [upd_upd]
          refine lv_one (sv_ret (ev_bin op_mod (ev_callT call_int1 T.b_int (av_cons (ev_var 3 rfl (av_nil (Or.inl ⟨_, rfl, ev_var 1 rfl (i2c nn ?_)⟩)))))))
          exact fin _ _ _ _ _ (by omega) (md _).1 (md _).2 rfl
        · refine ev_int (gv_setL (ev_var 0 rfl (ev_int ⟨d, _, 3, 3, rfl, rfl, upd_same, rfl, ?_⟩)))
          rw [upd_upd]
          refine lv_one (sv_ret (ev_bin op_mod (ev_callT call_int1 T.b_int (av_cons (ev_var 3 rfl (av_nil (Or.inl ⟨_, rfl, ev_var 1 rfl (i2c nn ?_)⟩)))))))
          exact fin _ _ _ _ _ (by omega) (md _).1 (md _).2 rfl
end
section
variable {X : Cx} {e e2 : Expr} {es : List Expr} {σ : L2.St} {H : Hp} {Q : VK} {Qt Qf : Hp → Prop} {D : Ends} {k j : Nat} {E : XK} {x : Str} {p p1 p2 pos apos : Pos}
/-- _law_taken(row, n) -/
theorem ev_taken (T : Txt X.K X.mg) (C : Cal X k E) (hk : 1 ≤ k) (q : AV X (e :: es) σ H fun vs H1 => ∃ G n, vs = [.ref G.d, .int n] ∧ IsRow X.K G H1 ∧ 1 ≤ n ∧ n < 1073741824 ∧ ∀ r H', 0 ≤ r → r < n → Rl X.K G H1 H' → Q (.int r) H')
    (hg : Gl X "_law_taken" := by rfl) (he : starEach (e :: es) X.env = (false, eval e X.env) :: starEach es X.env := by rfl) (hpl : (backTo pos (starEach es X.env)).any (·.1) = false := by rfl) : EV X (.Call (.Name "_law_taken" p) (e :: es) [] pos) σ H Q :=
  ev_call C (ok__law_taken T) hk T.gl__law_taken (fkp T.d__law_taken) q hg (by decide) he hpl
end
end OilLaw
set_option Elab.async false
set_option linter.all false
set_option maxRecDepth 100000
set_option maxHeartbeats 2000000
set_option pp.maxSteps 4000
namespace OilLaw
open PySem PySem.Spec PyProof.Rows L2 Oil
local macro_rules | `(tactic| walk_at "kp") => `(tactic| first
  | exact Kp.refl
  | assumption
  | exact Same.kp (by assumption)
  | (refine Kp.tr (Same.kp ?_) ?_; assumption; walk_at "kp")
  | (refine Kp.tr ?_ ?_; assumption; walk_at "kp"))
local macro_rules | `(tactic| walk_at "same") => `(tactic| first
  | exact Same.refl _
  | assumption
  | (refine Same.tr ?_ ?_; assumption; walk_at "same"))
local macro_rules | `(tactic| walk_at "rp") => `(tactic| first
  | assumption
  | (refine IsSt.up ?_ ?_; assumption; walk_at "kp")
  | (refine IsWy.up ?_ ?_; assumption; walk_at "kp")
  | (refine IsPs.up ?_ ?_; assumption; walk_at "kp")
  | (refine IsPr.up ?_ ?_; assumption; walk_at "kp")
  | (refine Kp.tup ?_ ?_; rotate_left; assumption; walk_at "kp"))
/-! ### the other dice: a list of the script, a place, a state and what is left of a great number -/
def spDice (K : PySem.W.Frag) : Sp := fun vs H Q _ => ∃ (a : Addr) (ns : List Int), vs = [.ref a] ∧ SqL K H a (ns.map V.int) ∧ ∀ H' d, Same H H' → H d = none → IsRow K ⟨d, a, ns⟩ H' → Q (.ref d) H'
def spPick (K : PySem.W.Frag) : Sp := fun vs H Q _ => ∃ G l xs, vs = [.ref G.d, .ref l] ∧ IsRow K G H ∧ l ≠ G.d ∧ H l = some (.lst xs) ∧ 1 ≤ xs.length ∧ xs.length < 1000 ∧ ∀ v H', v ∈ xs → Rl K G H H' → Q v H'
def okRow (p : Int × Int) : Prop := 0 ≤ p.1 ∧ p.1 ≤ 60 ∧ 1 ≤ p.2 ∧ p.2 ≤ 5
def spRows (K : PySem.W.Frag) : Sp := fun vs H Q _ => ∃ G, vs = [.ref G.d] ∧ IsRow K G H ∧ ∀ H' p c t ps, Rl K G H H' → H' p = some (.tup [.int c, .ref t]) → IsPs H' t ps → 2 ≤ c → c ≤ 10 → 1 ≤ ps.length → ps.length ≤ 5 → (∀ p ∈ ps, okRow p) → Q (.ref p) H'
def spMade (K : PySem.W.Frag) : Sp := fun vs H Q _ => ∃ c t ps, vs = [.int c, .ref t] ∧ IsPs H t ps ∧ Wy.ok ⟨c, ps⟩ ∧ ∀ H' v, Same H H' → IsWy K H' v ⟨c, ps⟩ → Q v H'
def times (f : Int) (ps : List (Int × Int)) : List (Int × Int) := ps.map fun p => (p.1 * f, p.2 * f)
def spGreatR (K : PySem.W.Frag) : Sp := fun vs H Q _ => ∃ G c t ps, vs = [.ref G.d, .int c, .ref t] ∧ IsRow K G H ∧ IsPs H t ps ∧ ps.length ≤ 12 ∧ ∀ H' p t' f, Rl K G H H' → 1 ≤ f → f ≤ 10000000 → H' p = some (.tup [.int (c * f), .ref t', .int f]) → IsPs H' t' (times f ps) → Q (.ref p) H'
section
variable {P : Program} {w : World} {K : PySem.W.Frag} {mg : Str → Option Value} {base : Heap}
end
section
variable {X : Cx} {e e2 : Expr} {es : List Expr} {σ : L2.St} {H : Hp} {Q : VK} {Qt Qf : Hp → Prop} {D : Ends} {k j : Nat} {E : XK} {x : Str} {p p1 p2 pos apos : Pos}
end
section
variable {P : Program} {w : World} {K : PySem.W.Frag} {mg : Str → Option Value} {base : Heap}
end
section
variable {X : Cx} {e e2 : Expr} {es : List Expr} {σ : L2.St} {H : Hp} {Q : VK} {Qt Qf : Hp → Prop} {D : Ends} {k j : Nat} {E : XK} {x : Str} {p p1 p2 pos apos : Pos}
end
end OilLaw
set_option Elab.async false
set_option linter.all false
set_option maxRecDepth 100000
set_option maxHeartbeats 2000000
set_option pp.maxSteps 4000
namespace OilLaw
open PySem PySem.Spec PyProof.Rows L2 Oil
local macro_rules | `(tactic| walk_at "kp") => `(tactic| first
  | exact Kp.refl
  | assumption
  | exact Same.kp (by assumption)
  | (refine Kp.tr (Same.kp ?_) ?_; assumption; walk_at "kp")
  | (refine Kp.tr ?_ ?_; assumption; walk_at "kp"))
local macro_rules | `(tactic| walk_at "same") => `(tactic| first
  | exact Same.refl _
  | assumption
  | (refine Same.tr ?_ ?_; assumption; walk_at "same"))
local macro_rules | `(tactic| walk_at "rp") => `(tactic| first
  | assumption
  | (refine IsSt.up ?_ ?_; assumption; walk_at "kp")
  | (refine IsWy.up ?_ ?_; assumption; walk_at "kp")
  | (refine IsPs.up ?_ ?_; assumption; walk_at "kp")
  | (refine IsPr.up ?_ ?_; assumption; walk_at "kp")
  | (refine Kp.tup ?_ ?_; rotate_left; assumption; walk_at "kp"))
/-! ### the law's ways -/
def IsPl (H : Hp) (l : Addr) (ps : List (Int × Int)) : Prop := ∃ vs, H l = some (.lst vs) ∧ AreP H vs ps
theorem IsPl.same {H H' : Hp} {l : Addr} {ps : List (Int × Int)} (h : IsPl H l ps) (S : Same H H') : IsPl H' l ps := by
  obtain ⟨vs, h1, h2⟩ := h
  exact ⟨vs, S _ _ h1, AreP.upS h2 S⟩
theorem IsPl.rl {K : PySem.W.Frag} {G : Dice} {H H' : Hp} {l : Addr} {ps : List (Int × Int)} (h : IsPl H l ps) (n : l ≠ G.d) (R : Rl K G H H') : IsPl H' l ps := by
  obtain ⟨vs, h1, h2⟩ := h
  exact ⟨vs, R.1 _ _ n h1, AreP.up h2 R.2.1⟩
def spGreat (K : PySem.W.Frag) : Sp := fun vs H Q _ => ∃ G n, vs = [.ref G.d, .int n] ∧ IsRow K G H ∧ 1 ≤ n ∧ ∀ r H', 0 ≤ r → r < n → Rl K G H H' → Q (.int r) H'
def spPosts (K : PySem.W.Frag) : Sp := fun vs H Q _ => ∃ G m, vs = [.ref G.d, .int m] ∧ IsRow K G H ∧ 1 ≤ m ∧ m ≤ 12 ∧ ∀ H' l ps, Rl K G H H' → l ≠ G.d → H l = none → IsPl H' l ps → 1 ≤ ps.length → (ps.length : Int) ≤ m → (∀ p ∈ ps, 0 ≤ p.1 ∧ p.1 ≤ 1000 ∧ 1 ≤ p.2 ∧ p.2 ≤ 40) → Q (.ref l) H'
def spCap (K : PySem.W.Frag) : Sp := fun vs H Q _ => ∃ G, vs = [.ref G.d] ∧ IsRow K G H ∧ ∀ r H', 1 ≤ r → r ≤ 120 → Rl K G H H' → Q (.int r) H'
def spWay (K : PySem.W.Frag) : Sp := fun vs H Q _ => ∃ c l ps, vs = [.int c, .ref l] ∧ IsPl H l ps ∧ Wy.ok ⟨c, ps⟩ ∧ ∀ H' v, Same H H' → IsWy K H' v ⟨c, ps⟩ → Q v H'
theorem sum_bound : ∀ {ps : List (Int × Int)}, (∀ p ∈ ps, 0 ≤ p.1 ∧ p.1 ≤ 41 ∧ 1 ≤ p.2 ∧ p.2 ≤ 40) → (ps.map fun p => p.2 - p.1).sum ≤ 40 * ps.length
  | [], _ => by simp
  | p :: ps, h => by
    have h1 := sum_bound fun q hq => h q (List.mem_cons_of_mem _ hq)
    have h2 := h p List.mem_cons_self
    simp only [List.map_cons, List.sum_cons, List.length_cons]
    omega
section
variable {P : Program} {w : World} {K : PySem.W.Frag} {mg : Str → Option Value} {base : Heap}
theorem sc__law_capacity : FnScope ["_law_row"] ["_law_row"] (defScope s__law_capacity) := ⟨rfl, rfl, rfl, by decide +kernel, rfl, by decide +kernel, by decide +kernel⟩
theorem ok__law_capacity (T : Txt K mg) : FnR P w K mg base (L2.CX P w) 2 (He.ga K "_law_capacity") (spCap K) := by
  refine fnr T.d__law_capacity sc__law_capacity (fun _ _ _ _ _ _ us hl => match us, hl with | [_], _ => rfl) (fun vs H Q E h => ?_) fun cdv A outer s H vs Q E hr h => ?_
  · obtain ⟨G, rfl, _⟩ := h
    rfl
  · obtain ⟨G, rfl, hrow, q⟩ := h
    have C := Cal.body (P := P) (w := w) (K := K) (mg := mg) (base := base) (N := ["_law_row"]) (outer := outer) (H := H) (E := E) hr
    refine lv_one (sv_ret (ev_bin op_add (ev_int (ev_taken T C (by decide) (av_cons (ev_var 0 rfl (av_cons (ev_ixL (ev_lst (av_cons (ev_int (av_cons (ev_int (av_cons (ev_int (av_nil ⟨by show 3 ≤ sizeLine; decide, fun H1 l1 S1 h1 z1 => ?_⟩))))))))))))))))
    have R1 := Rl.ofS hrow S1
    refine ev_taken T C (by decide) (av_cons (ev_var 0 rfl (av_cons (ev_int (av_nil ⟨G, _, rfl, R1.row, by decide, by decide, fun r2 H2 a2 b2 R2 => ?_⟩)))))
    have hz : ∃ z : Int, atI [V.int 9, V.int 30, V.int 120] r2 = some (.int z) ∧ 1 ≤ z ∧ z ≤ 120 := by
      have : r2 = 0 ∨ r2 = 1 ∨ r2 = 2 := by omega
      rcases this with rfl | rfl | rfl
      · exact ⟨9, rfl, by decide, by decide⟩
      · exact ⟨30, rfl, by decide, by decide⟩
      · exact ⟨120, rfl, by decide, by decide⟩
    obtain ⟨z, hz, z3, z4⟩ := hz
    refine ⟨l1, _, r2, _, rfl, rfl, SqL.of (R2.1 _ _ (hrow.ne z1) h1), hz, av_nil ⟨G, z, rfl, R2.row, z3, by omega, fun r3 H3 a3 b3 R3 => i2 ?_⟩⟩
    exact q _ _ (by omega) (by omega) ((R1.tr R2).tr R3)
theorem sc__law_posts : FnScope ["_law_row", "_law_most", "_law_size", "_law_posts_here", "_law_k", "_law_short", "_law_oil", "_law_steps"] ["_law_row", "_law_most"] (defScope s__law_posts) := ⟨rfl, rfl, rfl, by decide +kernel, rfl, by decide +kernel, by decide +kernel⟩
theorem ok__law_posts (T : Txt K mg) : FnR P w K mg base (L2.CX P w) 2 (He.ga K "_law_posts") (spPosts K) := by
  refine fnr T.d__law_posts sc__law_posts (fun _ _ _ _ _ _ us hl => match us, hl with | [_, _], _ => rfl) (fun vs H Q E h => ?_) fun cdv A outer s H vs Q E hr h => ?_
  · obtain ⟨G, m, rfl, _⟩ := h
    rfl
  · obtain ⟨G, m, rfl, hrow, m1, m2, q⟩ := h
    have C := Cal.body (P := P) (w := w) (K := K) (mg := mg) (base := base) (N := ["_law_row", "_law_most", "_law_size", "_law_posts_here", "_law_k", "_law_short", "_law_oil", "_law_steps"]) (outer := outer) (H := H) (E := E) hr
    have hnd := sc__law_posts.nd
    refine lv_cons (sv_set 2 (ev_ixL (ev_lst (av_cons (ev_int (av_cons (ev_int (av_cons (ev_int (av_nil ⟨by show 3 ≤ sizeLine; decide, fun H1 l1 S1 h1 z1 => ev_taken T C (by decide) (av_cons (ev_var 0 rfl (av_cons (ev_int (av_nil ⟨G, _, rfl, hrow.same S1, by decide, by decide, fun r2 H2 a2 b2 R2 => ?_⟩)))))⟩))))))))) hnd)
    have R1 := Rl.ofS hrow S1
    have hz : ∃ z : Int, atI [V.int 4, V.int 9, V.int 40] r2 = some (.int z) ∧ 1 ≤ z ∧ z ≤ 40 := by
      have : r2 = 0 ∨ r2 = 1 ∨ r2 = 2 := by omega
      rcases this with rfl | rfl | rfl
      · exact ⟨4, rfl, by decide, by decide⟩
      · exact ⟨9, rfl, by decide, by decide⟩
      · exact ⟨40, rfl, by decide, by decide⟩
    obtain ⟨z, hz, z3, z4⟩ := hz
    refine ⟨l1, _, r2, _, rfl, rfl, SqL.of (R2.1 _ _ (hrow.ne z1) h1), hz, ?_⟩
    have R02 := R1.tr R2
    have Hnone : ∀ {x : Addr}, H2 x = none → H x = none := fun {x} e => by
      cases hx : H x with
      | none => rfl
      | some o =>
        by_cases e2 : x = G.d
        · obtain ⟨xs, h⟩ := R02.row.some
          rw [e2, h] at e
          cases e
        · have := R02.1 _ _ e2 hx
          rw [e] at this
          cases this
    refine lv_cons (sv_lcR 3 [("_law_k", 4)] C.calm hnd T.b_range (ev_bin op_add (ev_int (ev_taken T C (by decide) (av_cons (ev_var 0 rfl (av_cons (ev_var 1 rfl (av_nil ⟨G, _, rfl, R02.row, m1, by omega, fun r3 H3 a3 b3 R3 => i2 ⟨_, rfl, by omega, by omega, fun D zD => ?_⟩⟩)))))))))
    have hrow3 := R3.row
    have nD := hrow3.ne zD
    have zD' : H2 D = none := by
      cases hx : H2 D with
      | none => rfl
      | some o =>
        have := R3.1 _ _ nD hx
        rw [zD] at this
        cases this
    refine ⟨fun i H' => Rl K G H3 H' ∧ ∃ vs ps, H' D = some (.lst vs) ∧ AreP H' vs ps ∧ ps.length = i ∧ ∀ p ∈ ps, 0 ≤ p.1 ∧ p.1 ≤ 41 ∧ 1 ≤ p.2 ∧ p.2 ≤ 40, ⟨Rl.fresh hrow3 (Rl.refl hrow3) zD, [], [], upd_same, .nil, rfl, fun p hp => nomatch hp⟩, fun i H4 hi hp => ?_, fun H4 hp => ?_⟩
    · obtain ⟨R4, vs, ps, hD, hps, hlen, hall⟩ := hp
      rintro Y ⟨s0, H0, C0, cl, fp, rfl⟩
      refine gv_name 4 ⟨rfl, ?_⟩ hnd
      rintro Y ⟨s0, H0, C0, cl, fp, rfl⟩
      refine ev_tup (av_cons (ev_taken T (Cal.blk C) (by decide) (av_cons (ev_var 0 rfl (av_cons (ev_bin op_add (ev_var 2 rfl (ev_int (i2 (av_nil ⟨G, _, rfl, R4.row, by omega, by omega, fun r5 H5 a5 b5 R5 => av_cons (ev_bin op_add (ev_int (ev_taken T (Cal.blk C) (by decide) (av_cons (ev_var 0 rfl (av_cons (ev_var 2 rfl (av_nil ⟨G, _, rfl, R5.row, by omega, by omega, fun r6 H6 a6 b6 R6 => i2 (av_nil ⟨by show 2 ≤ sizeLine; decide, fun H7 p7 S7 h7 _ => ?_⟩)⟩))))))))⟩))))))))))
      have R47 := (R5.tr R6).same S7
      have R7 := R4.tr R47
      have hD7 := R47.1 _ _ nD hD
      have hl := AreP.len hps
      have K8 : Kp K H7 (upd H7 D (.lst (vs ++ [V.ref p7]))) := But.kp but_upd hD7
      refine ⟨vs, hD7, by rw [sizeLine_eq]; omega, Rl.fresh hrow3 R7 zD, vs ++ [.ref p7], ps ++ [(r5, 1 + r6)], upd_same, ?_, by rw [List.length_append, hlen]; rfl, fun p hp => ?_⟩
      · exact arep_app (AreP.up (AreP.up hps R47.2.1) K8) (.cons ⟨p7, rfl, K8.tup h7⟩ .nil)
      · rcases List.mem_append.mp hp with h | h
        · exact hall p h
        · rw [List.mem_singleton.mp h]
          exact ⟨a5, by show r5 ≤ 41; omega, by show 1 ≤ 1 + r6; omega, by show 1 + r6 ≤ 40; omega⟩
    · obtain ⟨R4, vs, ps, hD, hps, hlen, hall⟩ := hp
      have hl := AreP.len hps
      have R04 : Rl K G H H4 := (R02.tr R3).tr R4
      refine lv_cons (sv_set 5 (ev_callB C.calm (cr_sum C.calm) T.b_sum (av_cons (ev_lcL [("_law_oil", 6), ("_law_steps", 7)] C.calm hnd (ev_var 3 rfl ⟨D, vs, rfl, SqL.of hD, fun D2 zD2 => ?_⟩)))) hnd)
      have e2 : D ≠ D2 := fun e => by
        rw [← e, hD] at zD2
        cases zD2
      refine ⟨fun i H' => Same H4 H' ∧ H' D2 = some (.lst (((ps.take i).map fun p => p.2 - p.1).map V.int)), ⟨same_fresh (Same.refl _) zD2, upd_same⟩, fun i H' hi hp => SqL.of (hp.1 _ _ hD), fun i x H5 hx hp => ?_, fun H5 hp => ?_⟩
      · obtain ⟨S5, h5⟩ := hp
        have hi : i < ps.length := by rw [← hl]; exact (List.getElem?_eq_some_iff.mp hx).1
        obtain ⟨u, e1, hpr⟩ := AreP.get hps (p := ps[i]) (List.getElem?_eq_getElem hi)
        rw [hx] at e1
        cases e1
        obtain ⟨pa, rfl, hpa⟩ := hpr
        rintro Y ⟨s0, H0, C0, cl, fp, rfl⟩
        refine gv_tup C.calm (SqT.of (S5 _ _ hpa)) rfl (gsv_cons (gv_name 6 (gsv_cons (gv_name 7 (gsv_nil ⟨rfl, ?_⟩) hnd)) hnd))
        rintro Y ⟨s0, H0, C0, cl, fp, rfl⟩
        refine ev_bin op_sub (ev_var 7 rfl (ev_var 6 rfl (i2 ⟨_, h5, by rw [sizeLine_eq]; simp; omega, same_fresh S5 zD2, ?_⟩)))
        rw [upd_same, List.take_succ, List.getElem?_eq_getElem hi, List.map_append, List.map_append]
        rfl
      · obtain ⟨S5, h5⟩ := hp
        rw [hl, List.take_length] at h5
        refine av_nil ⟨D2, _, rfl, SqL.of h5, ?_⟩
        have hsb := sum_bound hall
        generalize hsh : (ps.map fun p => p.2 - p.1).sum = sh at hsb
        have R05 := R04.same S5
        have hD5 := S5 _ _ hD
        have hps5 := AreP.upS hps S5
        have hn : 1 ≤ ps.length ∧ (ps.length : Int) ≤ m := by omega
        refine lv_cut (fun σ2 H2 => Rl K G H H2 ∧ σ2[3]? = some (some (.ref D)) ∧ ∃ ps', IsPl H2 D ps' ∧ ps'.length = ps.length ∧ ∀ p ∈ ps', 0 ≤ p.1 ∧ p.1 ≤ 1000 ∧ 1 ≤ p.2 ∧ p.2 ≤ 40)
          (sv_if (tv_w (wv_and (tv_cmp op_gt (ev_var 5 rfl (ev_int (ti2 (fun hs => ?_) fun hs => lv_nil ⟨R05, rfl, ps, ⟨vs, hD5, hps5⟩, rfl, fun p hp => ?_⟩))))))) ?_
        · refine wv_and1 (tv_cmp op_gt (ev_taken T C (by decide) (av_cons (ev_var 0 rfl (av_cons (ev_int (av_nil ⟨G, _, rfl, R05.row, by decide, by decide, fun r6 H6 a6 b6 R6 => ev_int (ti2 (fun h6 => ?_) fun h6 => lv_nil ⟨R05.tr R6, rfl, ps, IsPl.rl ⟨vs, hD5, hps5⟩ nD R6, rfl, fun p hp => ?_⟩)⟩)))))))
          · cases ps with
            | nil => exact absurd hn.1 (by decide)
            | cons p0 ps' =>
              cases hps5 with
              | @cons v0 _ vs' _ hp0 hps' =>
                obtain ⟨pa, rfl, hpa⟩ := hp0
                have h0 := hall p0 List.mem_cons_self
                simp only [List.length_cons] at hsb hn
                have hD6 := R6.1 _ _ nD hD5
                have hpa6 := R6.2.1.tup hpa
                refine lv_one (sv_asg (ev_tup (av_cons (ev_bin op_add (ev_ixT (ev_ixL (ev_var 3 rfl (ev_int ⟨D, _, _, _, rfl, rfl, SqL.of hD6, atI_zero _ _, ev_int ⟨pa, _, _, _, rfl, rfl, hpa6, rfl, ev_var 5 rfl (i2 (av_cons (ev_ixT (ev_ixL (ev_var 3 rfl (ev_int ⟨D, _, _, _, rfl, rfl, SqL.of hD6, atI_zero _ _, ev_int ⟨pa, _, _, _, rfl, rfl, hpa6, rfl, av_nil ⟨by show 2 ≤ sizeLine; decide, fun H7 p7 S7 h7 z7 => gv_setL (ev_var 3 rfl (ev_int ⟨D, _, 0, 0, rfl, rfl, S7 _ _ hD6, ixN_nat (i := 0) (Nat.succ_pos _), ?_⟩))⟩⟩⟩))))))⟩⟩))))))))
                have K8 : Kp K H7 (upd H7 D (.lst (V.ref p7 :: vs'))) := But.kp but_upd (S7 _ _ hD6)
                have R07 : Rl K G H H7 := (R05.tr R6).same S7
                refine ⟨Rl.fresh hrow R07 (Hnone zD'), rfl, (p0.1 + sh, p0.2) :: ps', ⟨_, upd_same, ?_⟩, rfl, fun p hp => ?_⟩
                · exact .cons ⟨p7, rfl, K8.tup h7⟩ (AreP.up (AreP.upS (AreP.up hps' R6.2.1) S7) K8)
                · rcases List.mem_cons.mp hp with e | h
                  · rw [e]
                    exact ⟨by show 0 ≤ p0.1 + sh; omega, by show p0.1 + sh ≤ 1000; omega, h0.2.2⟩
                  · have := hall p (List.mem_cons_of_mem _ h)
                    omega
          · have := hall p hp
            omega
        · have := hall p hp
          omega
        · rintro σ2 H2 ⟨R2, e2, ps', hpl, hlen2, hall2⟩
          exact lv_one (sv_ret (ev_var 3 e2 (q _ _ ps' R2 nD (Hnone zD') hpl (by omega) (by omega) hall2)))
end
end OilLaw
set_option Elab.async false
set_option linter.all false
set_option maxRecDepth 100000
set_option maxHeartbeats 2000000
set_option pp.maxSteps 4000
namespace OilLaw
open PySem PySem.Spec PyProof.Rows L2 Oil
local macro_rules | `(tactic| walk_at "kp") => `(tactic| first
  | exact Kp.refl
  | assumption
  | exact Same.kp (by assumption)
  | (refine Kp.tr (Same.kp ?_) ?_; assumption; walk_at "kp")
  | (refine Kp.tr ?_ ?_; assumption; walk_at "kp"))
local macro_rules | `(tactic| walk_at "same") => `(tactic| first
  | exact Same.refl _
  | assumption
  | (refine Same.tr ?_ ?_; assumption; walk_at "same"))
local macro_rules | `(tactic| walk_at "rp") => `(tactic| first
  | assumption
  | (refine IsSt.up ?_ ?_; assumption; walk_at "kp")
  | (refine IsWy.up ?_ ?_; assumption; walk_at "kp")
  | (refine IsPs.up ?_ ?_; assumption; walk_at "kp")
  | (refine IsPr.up ?_ ?_; assumption; walk_at "kp")
  | (refine Kp.tup ?_ ?_; rotate_left; assumption; walk_at "kp"))
/-! ### rows drawn, a way made of rows, rows so many times as great -/
theorem sum_rows : ∀ {ps : List (Int × Int)}, (∀ p ∈ ps, 0 ≤ p.1 ∧ p.1 ≤ 5 ∧ 1 ≤ p.2 ∧ p.2 ≤ 5) → (ps.map fun p => p.2 - p.1).sum ≤ 5 * ps.length
  | [], _ => by simp
  | p :: ps, h => by
    have h1 := sum_rows fun q hq => h q (List.mem_cons_of_mem _ hq)
    have h2 := h p List.mem_cons_self
    simp only [List.map_cons, List.sum_cons, List.length_cons]
    omega
section
variable {P : Program} {w : World} {K : PySem.W.Frag} {mg : Str → Option Value} {base : Heap}
end
end OilLaw
set_option Elab.async false
set_option linter.all false
set_option maxRecDepth 100000
set_option maxHeartbeats 2000000
set_option pp.maxSteps 4000
namespace OilLaw
open PySem PySem.Spec PyProof.Rows L2 Oil
local macro_rules | `(tactic| walk_at "kp") => `(tactic| first
  | exact Kp.refl
  | assumption
  | exact Same.kp (by assumption)
  | (refine Kp.tr (Same.kp ?_) ?_; assumption; walk_at "kp")
  | (refine Kp.tr ?_ ?_; assumption; walk_at "kp"))
local macro_rules | `(tactic| walk_at "same") => `(tactic| first
  | exact Same.refl _
  | assumption
  | (refine Same.tr ?_ ?_; assumption; walk_at "same"))
local macro_rules | `(tactic| walk_at "rp") => `(tactic| first
  | assumption
  | (refine IsSt.up ?_ ?_; assumption; walk_at "kp")
  | (refine IsWy.up ?_ ?_; assumption; walk_at "kp")
  | (refine IsPs.up ?_ ?_; assumption; walk_at "kp")
  | (refine IsPr.up ?_ ?_; assumption; walk_at "kp")
  | (refine Kp.tup ?_ ?_; rotate_left; assumption; walk_at "kp"))
/-! ### the law's way, drawn; plain walking as the law does it -/
def spDrawn (K : PySem.W.Frag) : Sp := fun vs H Q _ => ∃ G m, vs = [.ref G.d, .int m] ∧ IsRow K G H ∧ 1 ≤ m ∧ m ≤ 12 ∧ ∀ H' p wv wy l (i : Nat) (o : Int), Rl K G H H' → H' p = some (.tup [wv, .int wy.cap, .ref l, .int i, .int o]) → IsWy K H' wv wy → wy.cap ≤ 120 → (wy.posts.length : Int) ≤ m →
  (∀ p ∈ wy.posts, 0 ≤ p.1 ∧ p.1 ≤ 1000 ∧ 1 ≤ p.2 ∧ p.2 ≤ 40) → i < wy.posts.length → 0 ≤ o → o ≤ wy.cap → l ≠ G.d → IsPl H' l wy.posts → Q (.ref p) H'
/-- what is told of a walk of at most n legs -/
def Walked (H : Hp) (w : Wy) (i : Nat) (o : Int) (n : Nat) (xs : List Int) (z : V) : Prop := (∀ j, j < xs.length → w.walk i o (j + 1) = xs[j]?) ∧
  ((xs.length = n ∧ z = .non) ∨ (xs.length < n ∧ w.walk i o (xs.length + 1) = none ∧ ∃ q u, w.walk i o xs.length = some u ∧ z = .ref q ∧ H q = some (.tup [.int (xs.length : Nat), .int (min w.cap (u + (w.at (i + xs.length)).1))])))
def spWalked : Sp := fun vs H Q _ => ∃ wy l i o n, vs = [.int wy.cap, .ref l, .int (i : Nat), .int o, .int (n : Nat)] ∧ IsPl H l wy.posts ∧ wy.ok ∧ i < wy.posts.length ∧ n < 10000000 ∧
  ∀ H' p f xs z, Same H H' → H' p = some (.tup [.ref f, z]) → H' f = some (.lst (xs.map V.int)) → H f = none → Walked H' wy i o n xs z → Q (.ref p) H'
theorem walk_none {w : Wy} {i : Nat} {o : Int} : ∀ {m n : Nat}, m ≤ n → w.walk i o m = none → w.walk i o n = none
  | m, 0, h, e => by
    have : m = 0 := by omega
    rw [this] at e
    exact e
  | m, n + 1, h, e => by
    by_cases h2 : m = n + 1
    · rw [← h2]
      exact e
    · have := walk_none (m := m) (n := n) (by omega) e
      simp only [Wy.walk, this]
      rfl
section
variable {P : Program} {w : World} {K : PySem.W.Frag} {mg : Str → Option Value} {base : Heap}
theorem sc__law_way : FnScope ["_law_capacity_here", "_law_posts_here", "_law_way_here", "_law_k"] ["_law_capacity_here", "_law_posts_here"] (defScope s__law_way) := ⟨rfl, rfl, rfl, by decide +kernel, rfl, by decide +kernel, by decide +kernel⟩
theorem ok__law_way (T : Txt K mg) : FnR P w K mg base (L2.CX P w) 7 (He.ga K "_law_way") (spWay K) := by
  refine fnr T.d__law_way sc__law_way (fun _ _ _ _ _ _ us hl => match us, hl with | [_, _], _ => rfl) (fun vs H Q E h => ?_) fun cdv A outer s H vs Q E hr h => ?_
  · obtain ⟨c, l, ps, rfl, _⟩ := h
    rfl
  · obtain ⟨c, l, ps, rfl, hpl, ok, q⟩ := h
    have C := Cal.body (P := P) (w := w) (K := K) (mg := mg) (base := base) (N := ["_law_capacity_here", "_law_posts_here", "_law_way_here", "_law_k"]) (outer := outer) (H := H) (E := E) hr
    have hnd := sc__law_way.nd
    obtain ⟨vs, hl, hps⟩ := hpl
    have hlen := AreP.len hps
    have n1 := ok.n1
    have n2 := ok.n2
    have c1 := ok.c1
    have c2 := ok.c2
    simp only at n1 n2 c1 c2
    refine lv_cons (sv_set 2 (ev_cmeth C T.cm_Way_even (ok_Way_even T) (by decide) (ev_gref T.gl_Way ⟨rfl, av_cons (ev_var 0 rfl (av_cons (ev_lenL C T.b_len (ev_var 1 rfl ⟨l, vs, rfl, SqL.of hl, av_cons (ev_int (av_cons (ev_int (av_nil ⟨c, _, 0, 1, rfl, by omega, by omega, ?_, fun H1 v1 S1 h1 => ?_⟩))))⟩))))⟩)) hnd)
    · refine ⟨c1, c2, by simp; omega, by simp; omega, fun p hp => ?_⟩
      rw [List.eq_of_mem_replicate hp]
      exact ⟨by decide, by decide, by decide, by decide⟩
    · rw [Int.toNat_natCast, hlen] at h1
      refine lv_cons (sv_forR1 C.calm C.po T.b_range (ev_lenL C T.b_len (ev_var 1 rfl ⟨l, vs, rfl, SqL.of (S1 _ _ hl), (vs.length : Int), rfl, by omega, by omega, fun j σ' H' => Same H H' ∧ ∃ wv kv ws, σ' = [some (.int c), some (.ref l), some wv, kv] ∧ IsWy K H' wv ⟨c, ws⟩ ∧ ws.length = ps.length ∧ ∀ i, i < j → ws[i]? = ps[i]?, ⟨S1, v1, _, _, rfl, h1, by simp, fun i hi => absurd hi (by omega)⟩, fun j σ' H' hj hp => ?_, fun σ' H' hp => ?_⟩)))
      · obtain ⟨S2, wv, kv, ws, rfl, hw, hwl, hpre⟩ := hp
        rw [Int.toNat_natCast] at hj
        have hj' : j < ps.length := by omega
        obtain ⟨u, e1, pa, rfl, hpa⟩ := AreP.get hps (p := ps[j]) (List.getElem?_eq_getElem hj')
        have okp := ok.ps ps[j] (List.getElem_mem hj')
        obtain ⟨a, dx, t, rfl, ha⟩ := wy_at hw
        have hat : atI vs (j : Int) = some (.ref pa) := (atI_eq _ _).trans e1
        refine gv_name 3 ?_ hnd
        refine lv_one (sv_set 2 (ev_meth C T.cls_Way T.me_Way_with_post (ok_Way_with_post T) (by decide) (ev_var 2 rfl ⟨_, _, _, rfl, ha, rfl, av_cons (ev_var 3 rfl (av_cons (ev_ixT (ev_ixL (ev_var 1 rfl (ev_var 3 rfl ⟨l, _, _, _, rfl, rfl, SqL.of (S2 _ _ hl), hat, ev_int ⟨pa, _, _, _, rfl, rfl, S2 _ _ hpa, rfl, av_cons (ev_ixT (ev_ixL (ev_var 1 rfl (ev_var 3 rfl ⟨l, _, _, _, rfl, rfl, SqL.of (S2 _ _ hl), hat, ev_int ⟨pa, _, _, _, rfl, rfl, S2 _ _ hpa, rfl, av_nil ⟨_, _, j, _, _, rfl, hw, ?_, okp, fun H3 v3 S3 h3 => ?_⟩⟩⟩))))⟩⟩))))))⟩)) hnd)
        · show j < ws.length
          omega
        · refine ⟨S2.trans S3, v3, _, _, rfl, h3, by simpa using hwl, fun i hi => ?_⟩
          by_cases e : i = j
          · subst e
            have hiw : i < ws.length := by omega
            rw [List.getElem?_set_self hiw, List.getElem?_eq_getElem hj']
          · rw [List.getElem?_set_ne (fun h => e h.symm)]
            exact hpre i (by omega)
      · obtain ⟨S2, wv, kv, ws, rfl, hw, hwl, hpre⟩ := hp
        rw [Int.toNat_natCast] at hpre
        have ews : ws = ps := by
          apply List.ext_getElem?
          intro i
          by_cases h : i < vs.length
          · exact hpre i h
          · rw [List.getElem?_eq_none (by omega), List.getElem?_eq_none (by omega)]
        rw [ews] at hw
        exact lv_one (sv_ret (ev_var 2 rfl (q _ _ S2 hw)))
theorem sc__law_drawn : FnScope ["_law_row", "_law_most", "_law_posts_here", "_law_capacity_here"] ["_law_row", "_law_most"] (defScope s__law_drawn) := ⟨rfl, rfl, rfl, by decide +kernel, rfl, by decide +kernel, by decide +kernel⟩
theorem ok__law_drawn (T : Txt K mg) : FnR P w K mg base (L2.CX P w) 8 (He.ga K "_law_drawn") (spDrawn K) := by
  refine fnr T.d__law_drawn sc__law_drawn (fun _ _ _ _ _ _ us hl => match us, hl with | [_, _], _ => rfl) (fun vs H Q E h => ?_) fun cdv A outer s H vs Q E hr h => ?_
  · obtain ⟨G, m, rfl, _⟩ := h
    rfl
  · obtain ⟨G, m, rfl, hrow, m1, m2, q⟩ := h
    have C := Cal.body (P := P) (w := w) (K := K) (mg := mg) (base := base) (N := ["_law_row", "_law_most", "_law_posts_here", "_law_capacity_here"]) (outer := outer) (H := H) (E := E) hr
    have hnd := sc__law_drawn.nd
    refine lv_cons (sv_par2 2 3 C.calm hnd (av_cons (ev_call C (ok__law_posts T) (by decide) T.gl__law_posts (fkp T.d__law_posts) (av_cons (ev_var 0 rfl (av_cons (ev_var 1 rfl (av_nil ⟨G, m, rfl, hrow, m1, m2, fun H1 l ps R1 nl _ hpl p1 p2 hall => av_cons (ev_call C (ok__law_capacity T) (by decide) T.gl__law_capacity (fkp T.d__law_capacity) (av_cons (ev_var 0 rfl (av_nil ⟨G, rfl, R1.row, fun c H2 c1 c2 R2 => av_nil ⟨_, _, rfl, ?_⟩⟩))))⟩))))))))
    have hpl2 := hpl.rl nl R2
    have ok : Wy.ok ⟨c, ps⟩ := ⟨c1, by show c ≤ 1000000000; omega, p1, by show ps.length ≤ 12; omega, fun p hp => by
      have := hall p hp
      exact ⟨this.1, by omega, this.2.2.1, by omega⟩⟩
    have okn : 0 < ps.length := p1
    refine lv_one (sv_ret (ev_tup (av_cons (ev_call C (ok__law_way T) (by decide) T.gl__law_way (fkp T.d__law_way) (av_cons (ev_var 3 rfl (av_cons (ev_var 2 rfl (av_nil ⟨c, l, ps, rfl, hpl2, ok, fun H3 v3 S3 h3 => av_cons (ev_var 3 rfl (av_cons (ev_var 2 rfl (av_cons ?_))))⟩)))))))))
    have R3 := R2.same S3
    obtain ⟨vs, hl, hps⟩ := hpl2
    have hlen := AreP.len hps
    refine ev_taken T C (by decide) (av_cons (ev_var 0 rfl (av_cons (ev_lenL C T.b_len (ev_var 2 rfl ⟨l, vs, rfl, SqL.of (S3 _ _ hl), av_nil ⟨G, _, rfl, R3.row, by omega, by omega, fun r4 H4 a4 b4 R4 => av_cons ?_⟩⟩)))))
    refine ev_taken T C (by decide) (av_cons (ev_var 0 rfl (av_cons (ev_bin op_add (ev_var 3 rfl (ev_int (i2 (av_nil ⟨G, _, rfl, R4.row, by omega, by omega, fun r5 H5 a5 b5 R5 => av_nil ⟨by show 5 ≤ sizeLine; decide, fun H6 p6 S6 h6 _ => ?_⟩⟩))))))))
    obtain ⟨i, rfl⟩ : ∃ i : Nat, r4 = i := ⟨r4.toNat, by omega⟩
    have R06 := ((R1.tr R3).tr (R4.tr R5)).same S6
    have R46 := (R4.tr R5).same S6
    exact q H6 p6 v3 ⟨c, ps⟩ l i r5 R06 h6 (h3.up R46.2.1) c2 p2 hall (by show i < ps.length; omega) a5 (by show r5 ≤ c; omega) nl (IsPl.rl ⟨vs, S3 _ _ hl, AreP.upS hps S3⟩ nl R46)
theorem sc__law_walked : FnScope ["_law_capacity_here", "_law_posts_here", "_law_post", "_law_oil", "_law_legs", "_law_found", "_law_here", "_law_left", "_law_turn", "_law_there", "_law_steps"] ["_law_capacity_here", "_law_posts_here", "_law_post", "_law_oil", "_law_legs"] (defScope s__law_walked) := ⟨rfl, rfl, rfl, by decide +kernel, rfl, by decide +kernel, by decide +kernel⟩
theorem ok__law_walked (T : Txt K mg) : FnR P w K mg base (L2.CX P w) 1 (He.ga K "_law_walked") spWalked := by
  refine fnr T.d__law_walked sc__law_walked (fun _ _ _ _ _ _ us hl => match us, hl with | [_, _, _, _, _], _ => rfl) (fun vs H Q E h => ?_) fun cdv A outer s H vs Q E hr h => ?_
  · obtain ⟨wy, l, i, o, n, rfl, _⟩ := h
    rfl
  · obtain ⟨wy, l, i, o, n, rfl, ⟨vs, hl, hps⟩, ok, hi, hn, q⟩ := h
    have C := Cal.body (P := P) (w := w) (K := K) (mg := mg) (base := base) (N := ["_law_capacity_here", "_law_posts_here", "_law_post", "_law_oil", "_law_legs", "_law_found", "_law_here", "_law_left", "_law_turn", "_law_there", "_law_steps"]) (outer := outer) (H := H) (E := E) hr
    have hnd := sc__law_walked.nd
    have hlen := AreP.len hps
    have n1 := ok.n1
    refine lv_cons (sv_par3 5 6 7 C.calm hnd (av_cons (ev_lst (av_nil ⟨by show 0 ≤ sizeLine; decide, fun H1 f S1 h1 z1 => av_cons (ev_var 2 rfl (av_cons (ev_var 3 rfl (av_nil ⟨_, _, _, rfl, ?_⟩))))⟩))))
    refine lv_cons (sv_forR1 C.calm C.po T.b_range (ev_var 4 rfl ⟨(n : Int), rfl, by omega, by omega, fun j σ' H' => ∃ xs u a b c, Same H H' ∧ H' f = some (.lst (xs.map V.int)) ∧ xs.length = j ∧ (∀ m, m < xs.length → wy.walk i o (m + 1) = xs[m]?) ∧ wy.walk i o j = some u ∧ σ' = [some (.int wy.cap), some (.ref l), some (.int (i : Nat)), some (.int o), some (.int (n : Nat)), some (.ref f), some (.int ((i + j) % wy.posts.length : Nat)), some (.int u), a, b, c], ⟨[], o, none, none, none, S1, h1, rfl, fun m hm => absurd hm (by simp), rfl, ?_⟩, fun j σ' H' hj hp => ?_, fun σ' H' hp => ?_⟩))
    · rw [Nat.add_zero, Nat.mod_eq_of_lt hi]
      rfl
    · obtain ⟨xs, u, a, b, c, S2, h2, hxl, hxs, hu, rfl⟩ := hp
      rw [Int.toNat_natCast] at hj
      have hlt : (i + j) % wy.posts.length < wy.posts.length := Nat.mod_lt _ n1
      obtain ⟨x, e1, pa, rfl, hpa⟩ := AreP.get hps (at_get hlt)
      rw [at_mod] at hpa
      have hat : atI vs (((i + j) % wy.posts.length : Nat) : Int) = some (.ref pa) := (atI_eq _ _).trans e1
      refine gv_name 8 ?_ hnd
      refine lv_cons (sv_asg (ev_ixL (ev_var 1 rfl (ev_var 6 rfl ⟨l, _, _, _, rfl, rfl, SqL.of (S2 _ _ hl), hat, gv_tup C.calm (SqT.of (S2 _ _ hpa)) rfl (gsv_cons (gv_name 9 (gsv_cons (gv_name 10 (gsv_nil ?_) hnd)) hnd))⟩))))
      refine lv_cons (sv_set 7 (ev_callB C.calm (call_min2 C.calm) T.b_min (av_cons (ev_var 0 rfl (av_cons (ev_bin op_add (ev_var 7 rfl (ev_var 9 rfl (i2 (av_nil ⟨_, _, rfl, ?_⟩))))))))) hnd)
      have em : (if u + (wy.at (i + j)).1 < wy.cap then u + (wy.at (i + j)).1 else wy.cap) = min wy.cap (u + (wy.at (i + j)).1) := by split <;> omega
      have hstep : wy.walk i o (j + 1) = wy.step (i + j) u := by
        show (wy.walk i o j).bind _ = _
        rw [hu]
        rfl
      rw [em]
      refine lv_cons (sv_if (tv_cmp op_lt (ev_var 7 rfl (ev_var 10 rfl (ti2 (fun hlt2 => ?_) fun hlt2 => lv_nil ?_)))))
      · refine lv_one (sv_ret (ev_tup (av_cons (ev_var 5 rfl (av_cons (ev_tup (av_cons (ev_var 8 rfl (av_cons (ev_var 7 rfl (av_nil ⟨by show 2 ≤ sizeLine; decide, fun H3 p3 S3 h3 _ => av_nil ⟨by show 2 ≤ sizeLine; decide, fun H4 p4 S4 h4 _ => ?_⟩⟩)))))))))))
        refine q H4 p4 f xs (.ref p3) (S2.trans (S3.trans S4)) h4 ((S3.trans S4) _ _ h2) z1 ⟨hxs, .inr ⟨by omega, ?_, p3, u, ?_, rfl, ?_⟩⟩
        · rw [hxl, hstep]
          exact if_pos hlt2
        · rw [hxl]
          exact hu
        · rw [hxl]
          exact S4 _ _ h3
      · have hs : wy.step (i + j) u = some (min wy.cap (u + (wy.at (i + j)).1) - (wy.at (i + j)).2) := if_neg hlt2
        refine lv_cons (sv_par2 7 6 C.calm hnd (av_cons (ev_bin op_sub (ev_var 7 rfl (ev_var 10 rfl (i2 (av_cons (ev_bin op_mod (ev_callT call_int1 T.b_int (av_cons (ev_bin op_add (ev_var 6 rfl (ev_int (i2 (av_nil (Or.inl ⟨_, rfl, ev_lenL C T.b_len (ev_var 1 rfl ⟨l, vs, rfl, SqL.of (S2 _ _ hl), i2c (by omega) (av_nil ⟨_, _, rfl, ?_⟩)⟩)⟩))))))))))))))))
        have emod : (((i + j) % wy.posts.length : Nat) : Int) + 1 = (((i + j) % wy.posts.length + 1 : Nat) : Int) := by omega
        rw [emod, hlen, ← Int.natCast_emod, Nat.mod_add_mod]
        refine lv_one (sv_expr (ev_append (ev_var 5 rfl ⟨f, rfl, ⟨_, SqL.of h2⟩, ev_var 7 rfl ⟨_, h2, by rw [sizeLine_eq, List.length_map, hxl]; omega, ?_⟩⟩)))
        refine ⟨xs ++ [min wy.cap (u + (wy.at (i + j)).1) - (wy.at (i + j)).2], _, _, _, _, same_fresh S2 z1, by rw [upd_same, List.map_append]; rfl, by rw [List.length_append, hxl]; rfl, fun m hm => ?_, hstep.trans hs, rfl⟩
        rw [List.length_append, List.length_singleton] at hm
        by_cases e : m = xs.length
        · subst e
          rw [List.getElem?_append_right (Nat.le_refl _), Nat.sub_self, hxl, hstep, hs]
          rfl
        · rw [List.getElem?_append_left (by omega)]
          exact hxs m (by omega)
    · obtain ⟨xs, u, a, b, c, S2, h2, hxl, hxs, hu, rfl⟩ := hp
      rw [Int.toNat_natCast] at hxl hu
      exact lv_one (sv_ret (ev_tup (av_cons (ev_var 5 rfl (av_cons (ev_non (av_nil ⟨by show 2 ≤ sizeLine; decide, fun H4 p4 S4 h4 _ => q H4 p4 f xs .non (S2.trans S4) h4 (S4 _ _ h2) z1 ⟨hxs, .inl ⟨hxl, rfl⟩⟩⟩)))))))
end
end OilLaw
set_option Elab.async false
set_option linter.all false
set_option maxRecDepth 100000
set_option maxHeartbeats 2000000
set_option pp.maxSteps 4000
namespace OilLaw
open PySem PySem.Spec PyProof.Rows L2 Oil
local macro_rules | `(tactic| walk_at "kp") => `(tactic| first
  | exact Kp.refl
  | assumption
  | exact Same.kp (by assumption)
  | (refine Kp.tr (Same.kp ?_) ?_; assumption; walk_at "kp")
  | (refine Kp.tr ?_ ?_; assumption; walk_at "kp"))
local macro_rules | `(tactic| walk_at "same") => `(tactic| first
  | exact Same.refl _
  | assumption
  | (refine Same.tr ?_ ?_; assumption; walk_at "same"))
local macro_rules | `(tactic| walk_at "rp") => `(tactic| first
  | assumption
  | (refine IsSt.up ?_ ?_; assumption; walk_at "kp")
  | (refine IsWy.up ?_ ?_; assumption; walk_at "kp")
  | (refine IsPs.up ?_ ?_; assumption; walk_at "kp")
  | (refine IsPr.up ?_ ?_; assumption; walk_at "kp")
  | (refine Kp.tup ?_ ?_; rotate_left; assumption; walk_at "kp"))
/-! ### rules at a law's calls -/
theorem scal_vN (a b : Option Int) : scal (vN a) (vN b) = true := by cases a <;> cases b <;> rfl
theorem vN_inj {a b : Option Int} (h : vN a = vN b) : a = b := by
  cases a <;> cases b <;> first | rfl | (injection h with h; rw [h]) | cases h
theorem typd_vN {H : Hp} (a : Option Int) : Typd H (vN a) := by
  cases a with
  | none => exact .non
  | some i => exact .int i
section
variable {X : Cx} {e e2 : Expr} {es : List Expr} {σ : L2.St} {H : Hp} {Q : VK} {Qt Qf : Hp → Prop} {D : Ends} {k j : Nat} {E : XK} {x : Str} {p p1 p2 pos apos : Pos}
/-- w.stretch(i, n) -/
theorem ev_stretchW {pl : Sem Bool} (T : Txt X.K X.mg) (C : Cal X k E) (hk : 7 ≤ k) (q : EV X e σ H fun x H1 => ∃ w, IsWy X.K H1 x w ∧ AV X (e2 :: es) σ H1 fun vs H2 => ∃ i n : Nat, vs = [.int (i : Nat), .int (n : Nat)] ∧ Kp X.K H1 H2 ∧ i < w.posts.length ∧ 1 ≤ n ∧ n ≤ 10 ^ 18 ∧ ∀ H' v', Same H2 H' → IsSt X.K H' v' (w.st i n) → Q v' H')
    (hst : starEach (e2 :: es) X.env = (false, eval e2 X.env) :: starEach es X.env := by rfl) (hpl : (backTo pos (starEach es X.env)).any (·.1) = false := by rfl)
    (ht : eval (.Call (.Attribute e "stretch" apos) (e2 :: es) [] pos) X.env = (do
      let ov ← eval e X.env
      standAt apos.atName
      let (f, first) ← holding [ov] (getMethod ov "stretch" pl)
      callWith pos f first (backTo pos (starEach (e2 :: es) X.env)) (backToKw pos (keywordEach [] X.env))) := by rfl) : EV X (.Call (.Attribute e "stretch" apos) (e2 :: es) [] pos) σ H Q := by
  refine ev_meth C T.cls_Way T.me_Way_stretch (ok_Way_stretch T) hk (EV.mono q fun x H1 ⟨w, hw, q⟩ => ?_) hst hpl ht
  obtain ⟨a, dx, t, rfl, ha⟩ := wy_at hw
  refine ⟨a, dx, _, rfl, ha, rfl, AV.mono q fun vs H2 ⟨i, n, ev, kp, hi, n1, n2, q⟩ => ⟨.ref a, w, .int (i : Nat), .int (n : Nat), by rw [ev], hw.up kp, .int _, .int _, fun j n' ej en _ _ _ => ?_, fun e => ?_, fun _ e => ?_⟩⟩
  · have e1 : j = i := by
      have := V.int.inj ej
      omega
    have e2 : n' = n := by
      have := V.int.inj en
      omega
    subst e1 e2
    exact q
  · exact absurd (inRg_ok (lo := 0) (hi := (w.posts.length : Int) - 1) (i := (i : Int)) (by omega) (by omega)) (by rw [e]; exact Bool.false_ne_true)
  · exact absurd (inRg_ok (lo := 1) (hi := 10 ^ 18) (i := (n : Int)) (by omega) (by omega)) (by rw [e]; exact Bool.false_ne_true)
/-- s(o), o a number from 0 on -/
theorem ev_callV (T : Txt X.K X.mg) (C : Cal X k E) (hk : 2 ≤ k) (q : EV X e σ H fun y H1 => ∃ s, IsSt X.K H1 y s ∧ AV X (e2 :: es) σ H1 fun vs H2 => ∃ o, vs = [.int o] ∧ 0 ≤ o ∧ Kp X.K H1 H2 ∧ Q (vN (s.call o)) H2)
    (ht : eval (.Call e (e2 :: es) [] pos) X.env = (do callWith pos (← eval e X.env) [] (backTo pos (starEach (e2 :: es) X.env)) (backToKw pos (keywordEach [] X.env))) := by rfl)
    (he : starEach (e2 :: es) X.env = (false, eval e2 X.env) :: starEach es X.env := by rfl) (hpl : (backTo pos (starEach es X.env)).any (·.1) = false := by rfl) : EV X (.Call e (e2 :: es) [] pos) σ H Q := by
  refine ev_callSt T C hk (EV.mono q fun y H1 ⟨s, hs, q⟩ => ⟨s, hs, AV.mono q fun vs H2 ⟨o, ev, h0, kp, q⟩ => ⟨_, ev, kp, .int _, fun i ei _ => ?_, fun h => absurd (h o rfl) (by omega)⟩⟩) ht he hpl
  cases ei
  exact q
end
theorem mkS_self {s : St3} (h : s.ok) : argOk s.need s.gain s.top ∧ mkS s.need s.gain s.top = s := by
  obtain ⟨n, g, t⟩ := s
  cases n with
  | none =>
    obtain ⟨h1, h2⟩ := h
    simp only at h1 h2
    subst h1 h2
    exact ⟨⟨by decide, trivial⟩, rfl⟩
  | some n => exact ⟨⟨h.2.2, h.1, h.2.1⟩, rfl⟩
theorem bar_join (s : St3) : bar.join s = bar := by
  obtain ⟨n, g, t⟩ := s
  cases n <;> rfl
end OilLaw
set_option Elab.async false
set_option linter.all false
set_option maxRecDepth 100000
set_option maxHeartbeats 2000000
set_option pp.maxSteps 4000
namespace OilLaw
open PySem PySem.Spec PyProof.Rows L2 Oil
local macro_rules | `(tactic| walk_at "kp") => `(tactic| first
  | exact Kp.refl
  | assumption
  | exact Same.kp (by assumption)
  | (refine Kp.tr (Same.kp ?_) ?_; assumption; walk_at "kp")
  | (refine Kp.tr ?_ ?_; assumption; walk_at "kp"))
local macro_rules | `(tactic| walk_at "same") => `(tactic| first
  | exact Same.refl _
  | assumption
  | (refine Same.tr ?_ ?_; assumption; walk_at "same"))
local macro_rules | `(tactic| walk_at "rp") => `(tactic| first
  | assumption
  | (refine IsSt.up ?_ ?_; assumption; walk_at "kp")
  | (refine IsWy.up ?_ ?_; assumption; walk_at "kp")
  | (refine IsPs.up ?_ ?_; assumption; walk_at "kp")
  | (refine IsPr.up ?_ ?_; assumption; walk_at "kp")
  | (refine Kp.tup ?_ ?_; rotate_left; assumption; walk_at "kp"))
/-! ### surplus, is_endless, least_oil, good_posts -/
def spSurplus (K : PySem.W.Frag) : Sp := fun vs H Q _ => ∃ v w, vs = [v] ∧ IsWy K H v w ∧ ∀ H', Same H H' → Q (.int w.surplus) H'
def spEndless (K : PySem.W.Frag) : Sp := fun vs H Q E => ∃ v w p o, vs = [v, p, o] ∧ IsWy K H v w ∧ Typd H p ∧ Typd H o ∧
  (∀ (i : Nat) (ol : Int), p = .int i → o = .int ol → i < w.posts.length → 0 ≤ ol → ol ≤ w.cap → ∀ H', Same H H' → Q (.bl (w.endless i ol)) H') ∧
  (inRg 0 (w.posts.length - 1) p = false → E (.ref (He.ga K "UnknownPost")) none H) ∧ (inRg 0 (w.posts.length - 1) p = true → inRg 0 w.cap o = false → E (.ref (He.ga K "InvalidNumber")) none H)
def spLeast (K : PySem.W.Frag) : Sp := fun vs H Q E => ∃ v w p, vs = [v, p] ∧ IsWy K H v w ∧ Typd H p ∧ (∀ i : Nat, p = .int i → i < w.posts.length → ∀ H', Same H H' → Q (vN (w.lst i)) H') ∧ (inRg 0 (w.posts.length - 1) p = false → E (.ref (He.ga K "UnknownPost")) none H)
theorem brI {Qt Qf : Hp → Prop} {H : Hp} {o : Option Int} (h : br Qt Qf (!decide (vN o = V.non)) H) : br Qt Qf o.isSome H := by
  cases o <;> exact h
theorem isS {o : Option Int} : (!decide (vN o = V.non)) = o.isSome := by
  cases o <;> rfl
section
variable {X : Cx} {e e2 : Expr} {es : List Expr} {σ : L2.St} {H : Hp} {Q : VK} {Qt Qf : Hp → Prop} {D : Ends} {k j : Nat} {E : XK} {x : Str} {p p1 p2 pos apos : Pos}
/-- len(w) -/
theorem ev_lenW (T : Txt X.K X.mg) (C : Cal X k E) (hk : 2 ≤ k) (q : EV X e σ H fun x H1 => ∃ w, IsWy X.K H1 x w ∧ Q (.int (w.posts.length : Nat)) H1) (hg : Gl X "len" := by rfl)
    (he : starEach [e] X.env = (false, eval e X.env) :: starEach [] X.env := by rfl) (hpl : (backTo pos (starEach [] X.env)).any (·.1) = false := by rfl) : EV X (.Call (.Name "len" p) [e] [] pos) σ H Q := by
  refine ev_callB C.calm (call_lenO C T.me_Way_len (ok_Way_len T) hk) T.b_len (av_cons (EV.mono q fun x H1 ⟨w, hw, h⟩ => ?_) he) (hg := hg) (he := he) (hpl := hpl)
  obtain ⟨a, dx, t, rfl, ha⟩ := wy_at hw
  have n2 := hw.1.n2
  exact av_nil ⟨a, dx, _, rfl, ha, _, w, rfl, hw, _, rfl, by omega, by omega, h⟩
/-- w.path(i, n) -/
theorem ev_pathW {pl : Sem Bool} (T : Txt X.K X.mg) (C : Cal X k E) (hk : 6 ≤ k) (q : EV X e σ H fun x H1 => ∃ w, IsWy X.K H1 x w ∧ AV X (e2 :: es) σ H1 fun vs H2 => ∃ i n : Nat, vs = [.int (i : Nat), .int (n : Nat)] ∧ Kp X.K H1 H2 ∧ 1 ≤ n ∧ n ≤ 10 ^ 18 ∧ ∀ H' v', Same H2 H' → IsSt X.K H' v' (w.st i n) → Q v' H')
    (hst : starEach (e2 :: es) X.env = (false, eval e2 X.env) :: starEach es X.env := by rfl) (hpl : (backTo pos (starEach es X.env)).any (·.1) = false := by rfl)
    (ht : eval (.Call (.Attribute e "path" apos) (e2 :: es) [] pos) X.env = (do
      let ov ← eval e X.env
      standAt apos.atName
      let (f, first) ← holding [ov] (getMethod ov "path" pl)
      callWith pos f first (backTo pos (starEach (e2 :: es) X.env)) (backToKw pos (keywordEach [] X.env))) := by rfl) : EV X (.Call (.Attribute e "path" apos) (e2 :: es) [] pos) σ H Q := by
  refine ev_meth C T.cls_Way T.me_Way_path (ok_Way_path T) hk (EV.mono q fun x H1 ⟨w, hw, q⟩ => ?_) hst hpl ht
  obtain ⟨a, dx, t, rfl, ha⟩ := wy_at hw
  exact ⟨a, dx, _, rfl, ha, rfl, AV.mono q fun vs H2 ⟨i, n, ev, kp, n1, n2, q⟩ => ⟨.ref a, w, i, n, by rw [ev], hw.up kp, n1, n2, q⟩⟩
end
section
variable {P : Program} {w : World} {K : PySem.W.Frag} {mg : Str → Option Value} {base : Heap}
end
section
variable {X : Cx} {e e2 : Expr} {es : List Expr} {σ : L2.St} {H : Hp} {Q : VK} {Qt Qf : Hp → Prop} {D : Ends} {k j : Nat} {E : XK} {x : Str} {p p1 p2 pos apos : Pos}
end
section
variable {P : Program} {w : World} {K : PySem.W.Frag} {mg : Str → Option Value} {base : Heap}
end
end OilLaw
set_option Elab.async false
set_option linter.all false
set_option maxRecDepth 100000
set_option maxHeartbeats 2000000
set_option pp.maxSteps 4000
namespace OilLaw
open PySem PySem.Spec PyProof.Rows L2 Oil
local macro_rules | `(tactic| walk_at "kp") => `(tactic| first
  | exact Kp.refl
  | assumption
  | exact Same.kp (by assumption)
  | (refine Kp.tr (Same.kp ?_) ?_; assumption; walk_at "kp")
  | (refine Kp.tr ?_ ?_; assumption; walk_at "kp"))
local macro_rules | `(tactic| walk_at "same") => `(tactic| first
  | exact Same.refl _
  | assumption
  | (refine Same.tr ?_ ?_; assumption; walk_at "same"))
local macro_rules | `(tactic| walk_at "rp") => `(tactic| first
  | assumption
  | (refine IsSt.up ?_ ?_; assumption; walk_at "kp")
  | (refine IsWy.up ?_ ?_; assumption; walk_at "kp")
  | (refine IsPs.up ?_ ?_; assumption; walk_at "kp")
  | (refine IsPr.up ?_ ?_; assumption; walk_at "kp")
  | (refine Kp.tup ?_ ?_; rotate_left; assumption; walk_at "kp"))
/-! ### goes_out -/
/-- where it goes out: so many legs, so many steps -/
def OutAt (w : Wy) (i : Nat) (o : Int) (n : Nat) (u : Int) : Prop := w.walk i o n = some u ∧ w.walk i o (n + 1) = none
def spGoesOut (K : PySem.W.Frag) : Sp := fun vs H Q E => ∃ v w p o, vs = [v, p, o] ∧ IsWy K H v w ∧ Typd H p ∧ Typd H o ∧
  (∀ (i : Nat) (ol : Int), p = .int i → o = .int ol → i < w.posts.length → 0 ≤ ol → ol ≤ w.cap → (w.endless i ol = true → ∀ H', Same H H' → Q .non H') ∧
    (w.endless i ol = false → ∀ H' a (n : Nat) u, Same H H' → OutAt w i ol n u → H' a = some (.tup [.int (n : Nat), .int (min w.cap (u + (w.at (i + n)).1))]) → Q (.ref a) H')) ∧
  (inRg 0 (w.posts.length - 1) p = false → E (.ref (He.ga K "UnknownPost")) none H) ∧ (inRg 0 (w.posts.length - 1) p = true → inRg 0 w.cap o = false → E (.ref (He.ga K "InvalidNumber")) none H)
section
variable {P : Program} {w : World} {K : PySem.W.Frag} {mg : Str → Option Value} {base : Heap}
end
end OilLaw
set_option Elab.async false
set_option linter.all false
set_option maxRecDepth 100000
set_option maxHeartbeats 2000000
set_option pp.maxSteps 4000
namespace OilLaw
open PySem PySem.Spec PyProof.Rows L2 Oil
local macro_rules | `(tactic| walk_at "kp") => `(tactic| first
  | exact Kp.refl
  | assumption
  | exact Same.kp (by assumption)
  | (refine Kp.tr (Same.kp ?_) ?_; assumption; walk_at "kp")
  | (refine Kp.tr ?_ ?_; assumption; walk_at "kp"))
local macro_rules | `(tactic| walk_at "same") => `(tactic| first
  | exact Same.refl _
  | assumption
  | (refine Same.tr ?_ ?_; assumption; walk_at "same"))
local macro_rules | `(tactic| walk_at "rp") => `(tactic| first
  | assumption
  | (refine IsSt.up ?_ ?_; assumption; walk_at "kp")
  | (refine IsWy.up ?_ ?_; assumption; walk_at "kp")
  | (refine IsPs.up ?_ ?_; assumption; walk_at "kp")
  | (refine IsPr.up ?_ ?_; assumption; walk_at "kp")
  | (refine Kp.tup ?_ ?_; rotate_left; assumption; walk_at "kp"))
/-! ### good_posts -/
def goodTo (w : Wy) (n : Nat) : List Int := ((List.range n).filter fun i : Nat => decide (w.lst i = some 0)).map fun i : Nat => (i : Int)
theorem goodTo_succ (w : Wy) (n : Nat) : goodTo w (n + 1) = if w.lst n = some 0 then goodTo w n ++ [(n : Int)] else goodTo w n := by
  unfold goodTo
  rw [List.range_succ, List.filter_append, List.map_append]
  by_cases h : w.lst n = some 0
  · rw [if_pos h]
    simp [List.filter, h]
  · rw [if_neg h]
    simp [List.filter, h]
theorem goodTo_len (w : Wy) (n : Nat) : (goodTo w n).length ≤ n := by
  unfold goodTo
  rw [List.length_map]
  exact Nat.le_trans (List.length_filter_le _ _) (by rw [List.length_range]; exact Nat.le_refl n)
def spGood (K : PySem.W.Frag) : Sp := fun vs H Q _ => ∃ v w, vs = [v] ∧ IsWy K H v w ∧ ∀ H' l, Same H H' → H l = none → H' l = some (.lst ((goodTo w w.posts.length).map V.int)) → Q (.ref l) H'
section
variable {X : Cx} {e e2 : Expr} {es : List Expr} {σ : L2.St} {H : Hp} {Q : VK} {Qt Qf : Hp → Prop} {D : Ends} {k j : Nat} {E : XK} {x : Str} {p p1 p2 pos apos : Pos}
end
theorem scal_vI (a : Option Int) (i : Int) : scal (vN a) (.int i) = true := by cases a <;> rfl
theorem vN_int {a : Option Int} {i : Int} : vN a = .int i ↔ a = some i := by
  cases a with
  | none => exact ⟨fun h => (by cases h), fun h => (by cases h)⟩
  | some n => exact ⟨fun h => (by injection h with h; rw [h]), fun h => (by injection h with h; rw [h]; rfl)⟩
section
variable {P : Program} {w : World} {K : PySem.W.Frag} {mg : Str → Option Value} {base : Heap}
end
end OilLaw
set_option Elab.async false
set_option linter.all false
set_option maxRecDepth 100000
set_option maxHeartbeats 2000000
set_option pp.maxSteps 4000
namespace OilLaw
open PySem PySem.Spec PyProof.Rows L2 Oil
local macro_rules | `(tactic| walk_at "kp") => `(tactic| first
  | exact Kp.refl
  | assumption
  | exact Same.kp (by assumption)
  | (refine Kp.tr (Same.kp ?_) ?_; assumption; walk_at "kp")
  | (refine Kp.tr ?_ ?_; assumption; walk_at "kp"))
local macro_rules | `(tactic| walk_at "same") => `(tactic| first
  | exact Same.refl _
  | assumption
  | (refine Same.tr ?_ ?_; assumption; walk_at "same"))
local macro_rules | `(tactic| walk_at "rp") => `(tactic| first
  | assumption
  | (refine IsSt.up ?_ ?_; assumption; walk_at "kp")
  | (refine IsWy.up ?_ ?_; assumption; walk_at "kp")
  | (refine IsPs.up ?_ ?_; assumption; walk_at "kp")
  | (refine IsPr.up ?_ ?_; assumption; walk_at "kp")
  | (refine Kp.tup ?_ ?_; rotate_left; assumption; walk_at "kp"))
/-! ### planning: with_capacity, lack, judge_stretch, worst_stretch, least_capacity -/
def spHold (K : PySem.W.Frag) : Sp := fun vs H Q _ => ∃ v w c, vs = [v, .int c] ∧ IsWy K H v w ∧ 1 ≤ c ∧ c ≤ 1000000000 ∧ ∀ H' v', Same H H' → IsWy K H' v' (w.hold c) → Q v' H'
/-- v, of the class C, has these posts as its rows -/
def HasR (H : Hp) (C : Addr) (v : V) (ps : List (Int × Int)) : Prop := ∃ a dx fs t, v = .ref a ∧ H a = some (.ins C dx fs) ∧ fs.lookup ("rows" : Str) = some (.ref t) ∧ IsPs H t ps
/-- what lack asks of a class -/
structure RC (P : Program) (w : World) (K : PySem.W.Frag) (mg : Str → Option Value) (base : Heap) (C : Addr) (Is : Hp → V → Wy → Prop) : Prop where
  c : Cls K C
  n : NoAttr K C "rows"
  len : ∃ f, Meth K C "__len__" f ∧ FnR P w K mg base (L2.CX P w) 1 f (fun vs H Q _ => ∃ v wy, vs = [v] ∧ Is H v wy ∧ Q (.int (wy.posts.length : Nat)) H)
  has : ∀ H v wy, Is H v wy → 1 ≤ wy.posts.length ∧ wy.posts.length ≤ 12 ∧ HasR H C v wy.posts
  up : ∀ H H' v wy, Is H v wy → Same H H' → Is H' v wy
def spLack (Is : Hp → V → Wy → Prop) : Sp := fun vs H Q _ => ∃ v wy, ∃ i n : Nat, vs = [v, .int (i : Nat), .int (n : Nat)] ∧ Is H v wy ∧ n < 1000000 ∧ ∀ H', Same H H' → Q (.int (wy.lack i n)) H'
def MaxLack (w : Wy) (i m : Nat) (r : Int) : Prop := (∃ k, 1 ≤ k ∧ k ≤ m ∧ r = w.lack i k) ∧ ∀ k, 1 ≤ k → k ≤ m → w.lack i k ≤ r
def spJudge (K : PySem.W.Frag) : Sp := fun vs H Q E => ∃ v w p n, vs = [v, p, n] ∧ IsWy K H v w ∧ Typd H p ∧ Typd H n ∧
  (∀ i m : Nat, p = .int i → n = .int m → i < w.posts.length → 1 ≤ m → m ≤ 12 → ∀ H' r, Same H H' → MaxLack w i m r → Q (.int r) H') ∧
  (inRg 0 (w.posts.length - 1) p = false → E (.ref (He.ga K "UnknownPost")) none H) ∧ (inRg 0 (w.posts.length - 1) p = true → inRg 1 12 n = false → E (.ref (He.ga K "InvalidNumber")) none H)
def spWorst (Is : Hp → V → Wy → Prop) : Sp := fun vs H Q _ => ∃ v wy, vs = [v] ∧ Is H v wy ∧ ∀ H' a p n, Same H H' → Worst wy p n → H' a = some (.tup [.int (p : Nat), .int (n : Nat), .int (wy.lack p n)]) → Q (.ref a) H'
def spLeastCap (K : PySem.W.Frag) : Sp := fun vs H Q _ => ∃ v w, vs = [v] ∧ IsWy K H v w ∧ (0 ≤ w.surplus → ∀ H' p n, Same H H' → Worst w p n → Q (.int (w.lack p n)) H') ∧ (w.surplus < 0 → ∀ H', Same H H' → Q .non H')
section
variable {X : Cx} {e e2 : Expr} {es : List Expr} {σ : L2.St} {H : Hp} {Q : VK} {Qt Qf : Hp → Prop} {D : Ends} {k j : Nat} {E : XK} {x : Str} {p p1 p2 pos apos : Pos} {CC : Addr} {Is : Hp → V → Wy → Prop}
/-- len(o) -/
theorem ev_lenC (R : RC X.prog X.w X.K X.mg X.base CC Is) (hm : X.mg "len" = none) (C : Cal X k E) (hk : 2 ≤ k) (q : EV X e σ H fun x H1 => ∃ wy, Is H1 x wy ∧ Q (.int (wy.posts.length : Nat)) H1) (hg : Gl X "len" := by rfl)
    (he : starEach [e] X.env = (false, eval e X.env) :: starEach [] X.env := by rfl) (hpl : (backTo pos (starEach [] X.env)).any (·.1) = false := by rfl) : EV X (.Call (.Name "len" p) [e] [] pos) σ H Q := by
  obtain ⟨f, me, F⟩ := R.len
  refine ev_callB C.calm (call_lenO C me F hk) hm (av_cons (EV.mono q fun x H1 ⟨w, hw, h⟩ => ?_) he) (hg := hg) (he := he) (hpl := hpl)
  obtain ⟨n1, n2, a, dx, fs, t, rfl, ha, _⟩ := R.has _ _ _ hw
  exact av_nil ⟨a, dx, _, rfl, ha, _, w, rfl, hw, _, rfl, by omega, by omega, h⟩
theorem ev_rowsC (R : RC X.prog X.w X.K X.mg X.base CC Is) (q : EV X e σ H fun x H1 => ∃ wy, Is H1 x wy ∧ ∀ t, IsPs H1 t wy.posts → Q (.ref t) H1) (hb : attributeBase e "rows" X.env (eval e X.env) = eval e X.env := by rfl) : EV X (.Attribute e "rows" pos) σ H Q :=
  ev_fld (EV.mono q fun v H' ⟨w, hw, h⟩ => by
    obtain ⟨_, _, a, dx, fs, t, rfl, ha, hl, hp⟩ := R.has _ _ _ hw
    exact ⟨a, _, dx, _, _, rfl, ha, R.c, R.n, hl, h t hp⟩) hb
end
section
variable {P : Program} {w : World} {K : PySem.W.Frag} {mg : Str → Option Value} {base : Heap} {CC : Addr} {Is : Hp → V → Wy → Prop}
theorem rc_way (T : Txt K mg) : RC P w K mg base (He.ga K "Way") (IsWy K) where
  c := T.cls_Way
  n := T.no_Way_rows
  len := ⟨_, T.me_Way_len, ok_Way_len T⟩
  has := fun H v wy h => ⟨h.1.n1, h.1.n2, by
    obtain ⟨_, a, dx, t, e, ha, hp⟩ := h
    exact ⟨a, dx, _, t, e, ha, rfl, hp⟩⟩
  up := fun _ _ _ _ h S => h.upS S
/-- what is told of each stretch, in the order in which they are told -/
def toldOf (w : Wy) (z : Nat) : List Int := [0 - w.lack (z / w.posts.length) (z % w.posts.length + 1), ((z % w.posts.length + 1 : Nat) : Int), ((z / w.posts.length : Nat) : Int)]
theorem worst_of {wy : Wy} {z : Nat} (hz : z < wy.posts.length * wy.posts.length) (h : ∀ j, j < wy.posts.length * wy.posts.length → HT.lexLt (toldOf wy j) (toldOf wy z) = false) : Worst wy (z / wy.posts.length) (z % wy.posts.length + 1) := by
  have hL : 0 < wy.posts.length := by
    rcases Nat.eq_zero_or_pos wy.posts.length with e | e
    · rw [e] at hz
      exact absurd hz (by simp)
    · exact e
  refine ⟨Nat.div_lt_of_lt_mul hz, by omega, Nat.mod_lt _ hL, fun q m hq m1 m2 => ?_⟩
  have hj : wy.posts.length * q + (m - 1) < wy.posts.length * wy.posts.length := by
    have : wy.posts.length * (q + 1) ≤ wy.posts.length * wy.posts.length := Nat.mul_le_mul_left _ hq
    rw [Nat.mul_succ] at this
    omega
  have e1 : (wy.posts.length * q + (m - 1)) / wy.posts.length = q := by
    rw [Nat.mul_add_div hL, Nat.div_eq_of_lt (by omega), Nat.add_zero]
  have e2 : (wy.posts.length * q + (m - 1)) % wy.posts.length + 1 = m := by
    rw [Nat.mul_add_mod, Nat.mod_eq_of_lt (by omega)]
    omega
  have k := h _ hj
  unfold toldOf at k
  rw [e1, e2] at k
  generalize wy.lack q m = A at k ⊢
  generalize wy.lack (z / wy.posts.length) (z % wy.posts.length + 1) = B at k ⊢
  generalize z % wy.posts.length + 1 = n at k ⊢
  generalize z / wy.posts.length = p at k ⊢
  rw [HT.lexLt_cons, HT.lexLt_cons, HT.lexLt_cons] at k
  by_cases c1 : 0 - A = 0 - B
  · rw [if_pos c1] at k
    by_cases c2 : (m : Int) = (n : Int)
    · rw [if_pos c2] at k
      by_cases c3 : (q : Int) = (p : Int)
      · omega
      · rw [if_neg c3, decide_eq_false_iff_not] at k
        omega
    · rw [if_neg c2, decide_eq_false_iff_not] at k
      omega
  · rw [if_neg c1, decide_eq_false_iff_not] at k
    omega
/-- the rows that are told so far -/
def Rows4 (wy : Wy) (H : Hp) (vs : List V) : Prop := ∀ z x, vs[z]? = some x → ∃ a, x = .ref a ∧ H a = some (.tup ((toldOf wy z).map V.int))
end
section
variable {X : Cx} {e e2 : Expr} {es : List Expr} {σ : L2.St} {H : Hp} {Q : VK} {Qt Qf : Hp → Prop} {D : Ends} {k j : Nat} {E : XK} {x : Str} {p p1 p2 pos apos : Pos}
end
end OilLaw
set_option Elab.async false
set_option linter.all false
set_option maxRecDepth 100000
set_option maxHeartbeats 2000000
set_option pp.maxSteps 4000
namespace OilLaw
open PySem PySem.Spec PyProof.Rows L2 Oil
local macro_rules | `(tactic| walk_at "kp") => `(tactic| first
  | exact Kp.refl
  | assumption
  | exact Same.kp (by assumption)
  | (refine Kp.tr (Same.kp ?_) ?_; assumption; walk_at "kp")
  | (refine Kp.tr ?_ ?_; assumption; walk_at "kp"))
local macro_rules | `(tactic| walk_at "same") => `(tactic| first
  | exact Same.refl _
  | assumption
  | (refine Same.tr ?_ ?_; assumption; walk_at "same"))
local macro_rules | `(tactic| walk_at "rp") => `(tactic| first
  | assumption
  | (refine IsSt.up ?_ ?_; assumption; walk_at "kp")
  | (refine IsWy.up ?_ ?_; assumption; walk_at "kp")
  | (refine IsPs.up ?_ ?_; assumption; walk_at "kp")
  | (refine IsPr.up ?_ ?_; assumption; walk_at "kp")
  | (refine Kp.tup ?_ ?_; rotate_left; assumption; walk_at "kp"))
/-! ### ways turned, walked back, compared; settled; helpful posts -/
def spShift (K : PySem.W.Frag) : Sp := fun vs H Q E => ∃ v w o, vs = [v, o] ∧ IsWy K H v w ∧ Typd H o ∧ (∀ i : Nat, o = .int i → i < w.posts.length → ∀ H' v', Same H H' → IsWy K H' v' (w.turn i) → Q v' H') ∧ (inRg 0 (w.posts.length - 1) o = false → E (.ref (He.ga K "InvalidNumber")) none H)
def spInvert (K : PySem.W.Frag) : Sp := fun vs H Q _ => ∃ v w, vs = [v] ∧ IsWy K H v w ∧ ∀ H' v', Same H H' → IsWy K H' v' w.back → Q v' H'
def spWyEq (K : PySem.W.Frag) : Sp := fun vs H Q _ => ∃ v w o, vs = [v, o] ∧ IsWy K H v w ∧ ((∃ w', IsWy K H o w' ∧ Q (.bl (decide (w = w'))) H) ∨ (Typd H o ∧ Q (.bl false) H))
def spSettled (K : PySem.W.Frag) : Sp := fun vs H Q E => ∃ v w p o, vs = [v, p, o] ∧ IsWy K H v w ∧ Typd H p ∧ Typd H o ∧
  (∀ (i : Nat) (ol : Int), p = .int i → o = .int ol → i < w.posts.length → 0 ≤ ol → ol ≤ w.cap → ∀ H' v', Same H H' → IsOP H' v' (w.sett i ol) → Q v' H') ∧
  (inRg 0 (w.posts.length - 1) p = false → E (.ref (He.ga K "UnknownPost")) none H) ∧ (inRg 0 (w.posts.length - 1) p = true → inRg 0 w.cap o = false → E (.ref (He.ga K "InvalidNumber")) none H)
def IsRi (K : PySem.W.Frag) (H : Hp) (v : V) (w : Wy) : Prop := 1 ≤ w.posts.length ∧ w.posts.length ≤ 12 ∧ HasR H (He.ga K "Richer") v w.posts
def riF (t : Addr) : List (Str × V) := [(("rows" : Str), V.ref t)]
def spRiInit (K : PySem.W.Frag) : Sp := fun vs H Q _ => ∃ x dx v w, ∃ i : Nat, vs = [.ref x, v, .int (i : Nat)] ∧ H x = some (.ins (He.ga K "Richer") dx []) ∧ IsWy K H v w ∧ i < w.posts.length ∧ ∀ H1 t, Same H H1 → IsPs H1 t (w.rich i).posts → Q .non (upd H1 x (.ins (He.ga K "Richer") dx (riF t)))
def spHelpful (K : PySem.W.Frag) : Sp := fun vs H Q _ => ∃ v w, vs = [v] ∧ IsWy K H v w ∧ ∀ H' l, Same H H' → H l = none → H' l = some (.lst ((helpL w).map V.int)) → Q (.ref l) H'
theorem back_rows (w : Wy) (vs1 vs2 : List Int) (h1 : vs1 = w.posts.map (·.1)) (h2 : vs2 = w.posts.map (·.2)) {j : Nat} (hj : j < w.posts.length) :
    atI (vs1.map V.int) (0 - (j : Int)) = some (.int (w.at (w.posts.length - j)).1) ∧ atI (vs2.map V.int) ((w.posts.length : Int) - 1 - (j : Int)) = some (.int (w.at (w.posts.length - 1 - j)).2) := by
  subst h1 h2
  have g : ∀ i, i < w.posts.length → w.posts[i]? = some (w.at i) := fun i hi => opt_at hi
  constructor
  · by_cases h0 : j = 0
    · subst h0
      have e : w.at (w.posts.length - 0) = w.at 0 := at_cong (by rw [Nat.sub_zero, Nat.mod_self, Nat.zero_mod])
      rw [e]
      show atI _ (0 - 0) = _
      rw [show (0 : Int) - 0 = ((0 : Nat) : Int) by rfl, atI_eq]
      simp [g 0 hj]
    · rw [atI_back _ (by omega) (by simp; omega)]
      simp [g (w.posts.length - j) (by omega)]
  · rw [show (w.posts.length : Int) - 1 - (j : Int) = ((w.posts.length - 1 - j : Nat) : Int) by omega, atI_eq]
    simp [g (w.posts.length - 1 - j) (by omega)]
section
variable {P : Program} {w : World} {K : PySem.W.Frag} {mg : Str → Option Value} {base : Heap}
theorem sc_Way_rshift : FnScope ["self", "posts", "rows"] ["self", "posts"] (defScope s_Way_rshift) := ⟨rfl, rfl, rfl, by decide +kernel, rfl, by decide +kernel, by decide +kernel⟩
theorem ok_Way_rshift (T : Txt K mg) : FnR P w K mg base (L2.CX P w) 6 (He.ma K (He.ga K "Way") "__rshift__") (spShift K) := by
  refine fnr T.d_Way_rshift sc_Way_rshift (fun _ _ _ _ _ _ us hl => match us, hl with | [_, _], _ => rfl) (fun vs H Q E h => ?_) fun cdv A outer s H vs Q E hr h => ?_
  · obtain ⟨v, w, o, rfl, _⟩ := h
    rfl
  · obtain ⟨v, wy, o, rfl, hw, ty, q1, q2⟩ := h
    have C := Cal.body (P := P) (w := w) (K := K) (mg := mg) (base := base) (N := ["self", "posts", "rows"]) (outer := outer) (H := H) (E := E) hr
    have hnd := sc_Way_rshift.nd
    have n2 := hw.1.n2
    refine lv_cons (sv_if (tv_not (tv_val (ev_call C (ok_is_integer T) (by decide) T.gl_is_integer (fkp T.d_is_integer) (av_cons (ev_var 1 rfl (av_cons (ev_int (av_cons (ev_bin op_sub (ev_lenP C T.b_len (ev_rows T.cls_Way T.no_Way_rows (ev_var 0 rfl ⟨_, hw, fun t ht => ⟨_, _, rfl, ht, ev_int (i2 (av_nil ⟨_, _, _, rfl, ty, _, rfl, br_b (fun e => ?_) fun e => ?_⟩))⟩⟩)))))))))))))
    · obtain ⟨i, rfl, hi⟩ := inRg_nat e
      refine lv_nil (lv_cons (sv_set 2 (ev_bin op_catP (ev_from (ev_rows T.cls_Way T.no_Way_rows (ev_var 0 rfl ⟨_, hw, fun t1 ⟨us, hu, ru⟩ => ev_var 1 rfl ⟨t1, us, _, rfl, rfl, hu, fun H1 q1' S1 h1 => ev_upto (ev_rows T.cls_Way T.no_Way_rows (ev_var 0 rfl ⟨_, hw.upS S1, fun t2 ⟨us2, hu2, ru2⟩ => ev_var 1 rfl ⟨t2, us2, _, rfl, rfl, hu2, fun H2 q2' S2 h2 => ⟨q1', q2', _, _, rfl, rfl, S2 _ _ h1, h2, ?_, fun H3 q3' S3 h3 => ?_⟩⟩⟩))⟩⟩)))) hnd))
      · have hl := AreP.len ru
        have hl2 := AreP.len ru2
        rw [cut_from, cut_upto, List.length_drop, List.length_take, sizeLine_eq]
        omega
      · rw [cut_from, cut_upto] at h3
        have S13 := (S1.trans S2).trans S3
        refine lv_one (sv_ret (ev_mkS C T.mk_Way (ok_Way_init T) (by decide) T.gl_Way (av_cons (ev_holds T.cls_Way T.no_Way_holds (ev_var 0 rfl ⟨_, hw.upS S13, av_star (ev_var 2 rfl ⟨_, _, rfl, .inl (SqT.of h3), av_nil ?_⟩)⟩)))))
        rw [List.append_nil]
        exact wy_made (X := cxOf (L2.CX P w) P w K mg base ["self", "posts", "rows"] "Way.__rshift__" (defScope s_Way_rshift) (He.ma K (He.ga K "Way") "__rshift__") cdv A outer s H E) (arep_app (arep_drop i (AreP.upS ru S13)) (arep_take i (AreP.upS ru2 (S2.trans S3)))) (turn_ok hw.1 hi) fun H' v S' hv => q1 i rfl hi _ _ (S13.trans S') hv
    · exact lv_one (sv_raise C T.ex_InvalidNumber (q2 e))
theorem sc_Way_invert : FnScope ["self", "oils", "oil", "steps", "number", "count", "rows", "index"] ["self"] (defScope s_Way_invert) := ⟨rfl, rfl, rfl, by decide +kernel, rfl, by decide +kernel, by decide +kernel⟩
theorem ok_Way_invert (T : Txt K mg) : FnR P w K mg base (L2.CX P w) 6 (He.ma K (He.ga K "Way") "__invert__") (spInvert K) := by
  refine fnr T.d_Way_invert sc_Way_invert (fun _ _ _ _ _ _ us hl => match us, hl with | [_], _ => rfl) (fun vs H Q E h => ?_) fun cdv A outer s H vs Q E hr h => ?_
  · obtain ⟨v, w, rfl, _⟩ := h
    rfl
  · obtain ⟨v, wy, rfl, hw, q⟩ := h
    have C := Cal.body (P := P) (w := w) (K := K) (mg := mg) (base := base) (N := ["self", "oils", "oil", "steps", "number", "count", "rows", "index"]) (outer := outer) (H := H) (E := E) hr
    have hnd := sc_Way_invert.nd
    have ok := hw.1
    have n1 := ok.n1
    have n2 := ok.n2
    refine lv_cons (sv_set 1 (ev_lcT [("oil", 2), ("steps", 3)] C.calm hnd (ev_rows T.cls_Way T.no_Way_rows (ev_var 0 rfl ⟨_, hw, fun t ⟨vs, ht, hps⟩ => ⟨t, vs, rfl, SqT.of ht, lc_prs 2 3 (·.1) hps (by omega) (fun H' S => SqT.of (S _ _ ht)) ?_ ?_ (fun H1 D1 S1 z1 h1 => ?_)⟩⟩))) hnd)
    · rintro Y ⟨s0, H0, C0, cl, fp, rfl⟩ p a σ H R ha r
      exact gv_tup C.calm (SqT.of ha) rfl (gsv_cons (gv_name 2 (gsv_cons (gv_name 3 (gsv_nil r) hnd)) hnd))
    · rintro Y ⟨s0, H0, C0, cl, fp, rfl⟩ p H R r
      exact ev_var 2 rfl r
    refine lv_cons (sv_set 3 (ev_lcT [("oil", 2), ("number", 4)] C.calm hnd (ev_rows T.cls_Way T.no_Way_rows (ev_var 0 rfl ⟨_, hw.upS S1, fun t ⟨vs, ht, hps⟩ => ⟨t, vs, rfl, SqT.of ht, lc_prs 2 4 (·.2) hps (by omega) (fun H' S => SqT.of (S _ _ ht)) ?_ ?_ (fun H2 D2 S2 z2 h2 => ?_)⟩⟩))) hnd)
    · rintro Y ⟨s0, H0, C0, cl, fp, rfl⟩ p a σ H R ha r
      exact gv_tup C.calm (SqT.of ha) rfl (gsv_cons (gv_name 2 (gsv_cons (gv_name 4 (gsv_nil r) hnd)) hnd))
    · rintro Y ⟨s0, H0, C0, cl, fp, rfl⟩ p H R r
      exact ev_var 4 rfl r
    have h1' := S2 _ _ h1
    refine lv_cons (sv_set 5 (ev_lenL C T.b_len (ev_var 1 rfl ⟨D1, _, rfl, SqL.of h1', ?_⟩)) hnd)
    rw [List.length_map, List.length_map]
    refine lv_cons (sv_lcR 6 [("index", 7)] C.calm hnd T.b_range (ev_var 5 rfl ⟨_, rfl, by omega, by omega, fun D zD => ?_⟩))
    rw [Int.toNat_natCast]
    refine ⟨fun j H' => Same H2 H' ∧ ∃ vs, H' D = some (.lst vs) ∧ AreP H' vs ((List.range j).map fun i => ((wy.at (wy.posts.length - i)).1, (wy.at (wy.posts.length - 1 - i)).2)), ⟨same_fresh (Same.refl _) zD, [], upd_same, .nil⟩, fun j H5 hj hp => ?_, fun H5 hp => ?_⟩
    · obtain ⟨S5, vs, h5, hvs⟩ := hp
      obtain ⟨b1, b2⟩ := back_rows wy _ _ rfl rfl hj
      have hl := AreP.len hvs
      rw [List.length_map, List.length_range] at hl
      rintro Y ⟨s0, H0, C0, cl, fp, rfl⟩
      refine gv_name 7 ⟨rfl, ?_⟩ hnd
      rintro Y ⟨s0, H0, C0, cl, fp, rfl⟩
      refine ev_tup (av_cons (ev_ixL (ev_var 1 rfl (ev_bin op_sub (ev_int (ev_var 7 rfl (i2 ⟨D1, _, _, _, rfl, rfl, SqL.of (S5 _ _ h1'), b1, av_cons (ev_ixL (ev_var 3 rfl (ev_bin op_sub (ev_bin op_sub (ev_var 5 rfl (ev_int (i2 (ev_var 7 rfl (i2 ⟨D2, _, _, _, rfl, rfl, SqL.of (S5 _ _ h2), b2, av_nil ⟨by show 2 ≤ sizeLine; decide, fun H6 p6 S6 h6 z6 => ?_⟩⟩)))))))))⟩)))))))
      have h5' := S6 _ _ h5
      have K7 : Kp K H6 (upd H6 D (.lst (vs ++ [V.ref p6]))) := But.kp but_upd h5'
      refine ⟨vs, h5', by rw [sizeLine_eq]; omega, same_fresh (S5.trans S6) zD, vs ++ [.ref p6], upd_same, ?_⟩
      rw [List.range_succ, List.map_append]
      exact arep_app (AreP.up (AreP.upS hvs S6) K7) (.cons ⟨p6, rfl, K7.tup h6⟩ .nil)
    · obtain ⟨S5, vs, h5, hvs⟩ := hp
      have S05 := (S1.trans S2).trans S5
      refine lv_one (sv_ret (ev_mkS C T.mk_Way (ok_Way_init T) (by decide) T.gl_Way (av_cons (ev_holds T.cls_Way T.no_Way_holds (ev_var 0 rfl ⟨_, hw.upS S05, av_star (ev_var 6 rfl ⟨_, _, rfl, .inr (SqL.of h5), av_nil ?_⟩)⟩)))))
      rw [List.append_nil]
      exact wy_made (X := cxOf (L2.CX P w) P w K mg base ["self", "oils", "oil", "steps", "number", "count", "rows", "index"] "Way.__invert__" (defScope s_Way_invert) (He.ma K (He.ga K "Way") "__invert__") cdv A outer s H E) hvs (back_ok ok) fun H' v S' hv => q _ _ (S05.trans S') hv
theorem wy_ty {K : PySem.W.Frag} {H : Hp} {v : V} {w : Wy} (i : IsiF K (He.ga K "Way")) (c : Cls K (He.ga K "Way")) (h : IsWy K H v w) : TyX K H v (.ref (He.ga K "Way")) := by
  obtain ⟨_, a, dx, t, rfl, ha, _⟩ := h
  exact i.ty c ha
theorem sc_Way_eq : FnScope ["self", "other"] ["self", "other"] (defScope s_Way_eq) := ⟨rfl, rfl, rfl, by decide +kernel, rfl, by decide +kernel, by decide +kernel⟩
theorem ok_Way_eq (T : Txt K mg) : FnR P w K mg base (L2.CX P w) 1 (He.ma K (He.ga K "Way") "__eq__") (spWyEq K) := by
  refine fnr T.d_Way_eq sc_Way_eq (fun _ _ _ _ _ _ us hl => match us, hl with | [_, _], _ => rfl) (fun vs H Q E h => ?_) fun cdv A outer s H vs Q E hr h => ?_
  · obtain ⟨v, s, o, rfl, _⟩ := h
    rfl
  · obtain ⟨v, wy, o, rfl, hw, q⟩ := h
    have C := Cal.body (P := P) (w := w) (K := K) (mg := mg) (base := base) (N := ["self", "other"]) (outer := outer) (H := H) (E := E) hr
    refine lv_one (sv_ret (ev_andV (ev_isi T.b_isinstance (ev_var 1 rfl (ev_gref T.gl_Way ?_)))))
    rcases q with ⟨w', hw', q⟩ | ⟨ty, q⟩
    · refine ⟨_, _, wy_ty T.isi_Way T.cls_Way hw', .own _, _, kit_self, _, rfl, bT ?_⟩
      refine ev_andV (ev_cmp op_eq (ev_holds T.cls_Way T.no_Way_holds (ev_var 0 rfl ⟨_, hw, ev_holds T.cls_Way T.no_Way_holds (ev_var 1 rfl ⟨_, hw', teqi (fun e => ?_) fun e => ?_⟩)⟩)))
      · refine ev_one (ev_cmp (op_eqD C.hr.units) (ev_rows T.cls_Way T.no_Way_rows (ev_var 0 rfl ⟨_, hw, fun t ⟨us, hu, ru⟩ => ev_rows T.cls_Way T.no_Way_rows (ev_var 1 rfl ⟨_, hw', fun t2 ⟨us2, hu2, ru2⟩ => ⟨_, _, dp_ps hu ru, dp_ps hu2 ru2, shaped_ps _, shaped_ps _, ?_⟩⟩)⟩)))
        rw [eqv_ps]
        have e2 : decide (wy = w') = decide (wy.posts = w'.posts) := by
          obtain ⟨c, ps⟩ := wy
          obtain ⟨c', ps'⟩ := w'
          simp only at e
          subst e
          simp
        rw [← e2]
        exact q
      · have e2 : decide (wy = w') = false := decide_eq_false fun h => e (by rw [h])
        rw [e2] at q
        exact q
    · obtain ⟨n, tx, hn⟩ := ty.tyn (K := K) (He.ga K "Way")
      exact ⟨_, _, tx, .own _, _, T.isi_Way.not hn, _, rfl, bF q⟩
end
/-- Richer(w, i) -/
theorem ri_made {X : Cx} {Q : VK} {E : XK} {vs : List V} {H1 : Hp} (h : ∃ v w, ∃ i : Nat, vs = [v, .int (i : Nat)] ∧ IsWy X.K H1 v w ∧ i < w.posts.length ∧ ∀ H' v', Same H1 H' → IsRi X.K H' v' (w.rich i) → Q v' H') :
    ∀ x dx, H1 x = Option.none → H1 dx = Option.none → dx ≠ x → spRiInit X.K (V.ref x :: vs) (upd (upd H1 dx (.own x)) x (.ins (He.ga X.K "Richer") dx [])) (fun v H2 => v = .non ∧ Q (.ref x) H2) E := by
  obtain ⟨v, w, i, rfl, hw, hi, q⟩ := h
  intro x dx hx hdx ne
  have S1 : Same H1 (upd H1 dx (.own x)) := same_upd hdx
  have S2 : Same (upd H1 dx (.own x)) (upd (upd H1 dx (.own x)) x (.ins (He.ga X.K "Richer") dx [])) := same_upd (by rw [upd_ne (Ne.symm ne)]; exact hx)
  refine ⟨x, dx, v, w, i, rfl, upd_same, hw.upS (S1.trans S2), hi, fun H4 t S4 hp => ⟨rfl, ?_⟩⟩
  have S14 : Same H1 (upd H4 x (.ins (He.ga X.K "Richer") dx (riF t))) := fun b o e => by
    rw [upd_ne (ne_of_none e hx)]
    exact S4 _ _ ((S1.trans S2) _ _ e)
  obtain ⟨us, hu, hps⟩ := hp
  have hx4 := S4 _ _ (upd_same (H := upd H1 dx (.own x)) (a := x) (o := .ins (He.ga X.K "Richer") dx []))
  have K4 : ∀ {b : Addr} {xs : List V}, H4 b = some (.tup xs) → upd H4 x (.ins (He.ga X.K "Richer") dx (riF t)) b = some (.tup xs) := fun {b xs} e => by
    have nb : b ≠ x := fun e2 => by
      rw [e2, hx4] at e
      cases e
    rw [upd_ne nb]
    exact e
  have n := hw.1.n1
  have n2 := hw.1.n2
  refine q _ _ S14 ⟨by rw [rich_len]; exact n, by rw [rich_len]; exact n2, x, dx, _, t, rfl, upd_same, rfl, us, K4 hu, Paired.mapP hps fun v p ⟨a, e, ha⟩ => ⟨a, e, K4 ha⟩⟩
section
variable {X : Cx} {e : Expr} {es : List Expr} {σ : L2.St} {H : Hp} {Q : VK} {k : Nat} {E : XK} {p pos : Pos}
end
section
variable {P : Program} {w : World} {K : PySem.W.Frag} {mg : Str → Option Value} {base : Heap}
end
section
variable {X : Cx} {e e2 : Expr} {es : List Expr} {σ : L2.St} {H : Hp} {Q : VK} {Qt Qf : Hp → Prop} {D : Ends} {k j : Nat} {E : XK} {x : Str} {p p1 p2 pos apos : Pos}
/-- a == b -/
theorem op_eqWy (T : Txt X.K X.mg) (C : Cal X k E) (hk : 1 ≤ k) : OpR X (compareOp .Eq) (fun x y H Q => ∃ a, IsWy X.K H x a ∧ ((∃ b, IsWy X.K H y b ∧ Q (.bl (decide (a = b))) H) ∨ (Typd H y ∧ Q (.bl false) H))) := by
  intro pins s σ H x y v u Q I rx ry ⟨a, ha, q⟩
  obtain ⟨p, dx, t, rfl, hp⟩ := wy_at ha
  refine op_ownC C (op := .Eq) (fun _ _ => rfl) T.me_Way_eq (ok_Way_eq T) hk pins s σ H _ _ v u Q I rx ry ?_
  rcases q with ⟨b, hb, q⟩ | ⟨ty, q⟩
  · exact ⟨p, dx, _, _, rfl, hp, wy_ty T.isi_Way T.cls_Way hb, by simp [PySem.W.notFirst], _, a, _, rfl, ha, .inl ⟨b, hb, q⟩⟩
  · obtain ⟨n, tx, hn⟩ := ty.tyn (K := X.K) (He.ga X.K "Way")
    exact ⟨p, dx, _, _, rfl, hp, tx, by simp [PySem.W.notFirst, hn], _, a, _, rfl, ha, .inr ⟨ty, q⟩⟩
/-- w >> i -/
theorem op_shift (T : Txt X.K X.mg) (C : Cal X k E) (hk : 6 ≤ k) : OpR X (binaryOp .RShift) (fun x y H Q => ∃ a, ∃ i : Nat, IsWy X.K H x a ∧ y = .int (i : Nat) ∧ i < a.posts.length ∧ ∀ H' v, Same H H' → IsWy X.K H' v (a.turn i) → Q v H') := by
  intro pins s σ H x y v u Q I rx ry ⟨a, i, ha, ey, hi, q⟩
  subst ey
  obtain ⟨p, dx, t, rfl, hp⟩ := wy_at ha
  refine op_ownI C (op := .RShift) (rc := none) (fo := some (.builtin "int.__rshift__")) (ro := some (.builtin "int.__rrshift__")) T.sf_Way T.me_Way_rshift (ok_Way_rshift T) hk T.no_Way_rrshift (.inl rfl) (by kernel_rfl) (by kernel_rfl) sub_int pins s σ H _ _ v u Q I rx ry ⟨p, dx, _, _, rfl, rfl, hp, _, a, _, rfl, ha, .int _, fun i' e _ => ?_, fun e => ?_⟩
  · have e1 : i' = i := by
      have := V.int.inj e
      omega
    subst e1
    exact q
  · exact absurd (inRg_ok (lo := 0) (hi := (a.posts.length : Int) - 1) (i := (i : Int)) (by omega) (by omega)) (by rw [e]; exact Bool.false_ne_true)
/-- ~w -/
theorem un_back (T : Txt X.K X.mg) (C : Cal X k E) (hk : 6 ≤ k) : UnR X (unaryOp .Invert) (fun x H Q => ∃ a, IsWy X.K H x a ∧ ∀ H' v, Same H H' → IsWy X.K H' v a.back → Q v H') := by
  intro pins s σ H x v Q I rx ⟨a, ha, q⟩
  obtain ⟨p, dx, t, rfl, hp⟩ := wy_at ha
  exact un_invO C T.me_Way_invert (ok_Way_invert T) hk pins s σ H _ v Q I rx ⟨p, dx, _, rfl, hp, _, a, rfl, ha, q⟩
/-- w[i] -/
theorem ev_getW (T : Txt X.K X.mg) (C : Cal X k E) (hk : 4 ≤ k) (q : EV X e σ H fun x H1 => EV X e2 σ H1 fun y H2 => ∃ w, ∃ i : Nat, IsWy X.K H2 x w ∧ y = .int (i : Nat) ∧ i < w.posts.length ∧ ∀ a, H2 a = some (.tup [.int (w.at i).1, .int (w.at i).2]) → Q (.ref a) H2)
    (hsl : ∀ x y, subscripted e2 true (.ref x) y = runValue (.builtin "lifetime.subscript" ⟨[.ref x, y], []⟩) := by intros; with_unfolding_all rfl) : EV X (.Subscript e e2 pos) σ H Q := by
  refine ev_subO C T.me_Way_getitem (fn_in T.d_Way_getitem) (ok_Way_getitem T) hk (EV.mono q fun x H1 q => EV.mono q fun y H2 ⟨w, i, hw, ey, hi, q⟩ => ?_) hsl
  subst ey
  obtain ⟨p, dx, t, rfl, hp⟩ := wy_at hw
  refine ⟨p, dx, _, rfl, hp, _, w, _, rfl, hw, .int _, fun i' e _ u hu => ?_, fun e => ?_⟩
  · have e1 : i' = i := by
      have := V.int.inj e
      omega
    subst e1
    obtain ⟨a, rfl, ha⟩ := hu
    exact q a ha
  · exact absurd (inRg_ok (lo := 0) (hi := (w.posts.length : Int) - 1) (i := (i : Int)) (by omega) (by omega)) (by rw [e]; exact Bool.false_ne_true)
/-- w.capacity -/
theorem ev_capW (T : Txt X.K X.mg) (C : Cal X k E) (hk : 2 ≤ k) (q : EV X e σ H fun x H1 => ∃ w, IsWy X.K H1 x w ∧ Q (.int w.cap) H1) (hab : attributeBase e "capacity" X.env (eval e X.env) = eval e X.env := by rfl) : EV X (.Attribute e "capacity" pos) σ H Q :=
  ev_prop C T.cls_Way T.pr_Way_capacity (ok_Way_capacity T) hk (EV.mono q fun x H1 ⟨w, hw, h⟩ => by
    obtain ⟨a, dx, t, rfl, ha⟩ := wy_at hw
    exact ⟨a, dx, _, rfl, ha, _, w, rfl, hw, h⟩) hab
/-- w.posts -/
theorem ev_postsW (T : Txt X.K X.mg) (C : Cal X k E) (hk : 2 ≤ k) (q : EV X e σ H fun x H1 => ∃ w, IsWy X.K H1 x w ∧ ∀ t, IsPs H1 t w.posts → Q (.ref t) H1) (hab : attributeBase e "posts" X.env (eval e X.env) = eval e X.env := by rfl) : EV X (.Attribute e "posts" pos) σ H Q :=
  ev_prop C T.cls_Way T.pr_Way_posts (ok_Way_posts T) hk (EV.mono q fun x H1 ⟨w, hw, h⟩ => by
    obtain ⟨a, dx, t, rfl, ha⟩ := wy_at hw
    exact ⟨a, dx, _, rfl, ha, _, w, rfl, hw, h⟩) hab
end
/-! ### worst stretches are there; helpful posts of turned ways -/
theorem worst_ex (w : Wy) (hn : 1 ≤ w.posts.length) : ∃ p n, Worst w p n := by
  obtain ⟨h1, h2⟩ := lex_best (toldOf w) (w.posts.length * w.posts.length - 1)
  have hp : 0 < w.posts.length * w.posts.length := Nat.mul_pos hn hn
  exact ⟨_, _, worst_of (z := argBest (fun i j => HT.lexLt (toldOf w i) (toldOf w j)) (w.posts.length * w.posts.length - 1)) (by omega) fun j hj => h2 j (by omega)⟩
theorem helpB_alike {w w' : Wy} {i j : Nat} (h1 : ∀ p n p' n', Worst w p n → Worst w' p' n' → w'.lack p' n' = w.lack p n) (h2 : ∀ p n p' n', Worst (w.rich i) p n → Worst (w'.rich j) p' n' → (w'.rich j).lack p' n' = (w.rich i).lack p n) (n1 : 1 ≤ w.posts.length) (n2 : 1 ≤ w'.posts.length) : helpB w' j = helpB w i := by
  obtain ⟨a, b, W1⟩ := worst_ex w n1
  obtain ⟨a', b', W1'⟩ := worst_ex w' n2
  obtain ⟨c, d, W2⟩ := worst_ex (w.rich i) (by rw [rich_len]; exact n1)
  obtain ⟨c', d', W2'⟩ := worst_ex (w'.rich j) (by rw [rich_len]; exact n2)
  rw [helpB_of W1 W2, helpB_of W1' W2', h1 _ _ _ _ W1 W1', h2 _ _ _ _ W2 W2']
theorem helpB_turn {w : Wy} {k j : Nat} (hk : k < w.posts.length) (hj : j < w.posts.length) : helpB (w.turn k) j = helpB w ((j + k) % w.posts.length) := by
  have hn : 1 ≤ w.posts.length := by omega
  refine helpB_alike (fun _ _ _ _ a b => (worst_turn hk a b).2.symm) (fun p n p' n' a b => ?_) hn (by rw [turn_len w hk]; exact hn)
  rw [turn_rich w hk hj] at b ⊢
  exact (worst_turn (by rw [rich_len]; exact hk) a b).2.symm
theorem helpB_back {w : Wy} {j : Nat} (hj : j < w.posts.length) : helpB w.back j = helpB w ((w.posts.length - j) % w.posts.length) := by
  have hn : 1 ≤ w.posts.length := by omega
  refine helpB_alike (fun _ _ _ _ a b => (worst_back hn a b).2.symm) (fun p n p' n' a b => ?_) hn (by rw [back_len]; exact hn)
  rw [back_rich w hj] at b ⊢
  exact (worst_back (by rw [rich_len]; exact hn) a b).2.symm
theorem help_turned {w : Wy} {k : Nat} (hk : k < w.posts.length) {c : List Int} (h : c.Perm ((helpL (w.turn k)).map fun z => (z + (k : Int)) % (w.posts.length : Int))) (s : c.Pairwise (· ≤ ·)) : c = helpL w := by
  have hn : 0 < w.posts.length := by omega
  refine helpL_moved (fun j => (j + k) % w.posts.length) (fun j => (j + (w.posts.length - k)) % w.posts.length) _ (turn_len w hk) (turn_surplus w hk) (fun j hj => ⟨Nat.mod_lt _ hn, ?_, helpB_turn hk hj, ?_⟩) (fun j hj => ⟨Nat.mod_lt _ hn, ?_⟩) h s
  · rw [Nat.mod_add_mod, show j + k + (w.posts.length - k) = j + w.posts.length by omega, Nat.add_mod_right, Nat.mod_eq_of_lt hj]
  · show ((j : Int) + (k : Int)) % (w.posts.length : Int) = (((j + k) % w.posts.length : Nat) : Int)
    rw [Int.natCast_emod, Int.natCast_add]
  · show ((j + (w.posts.length - k)) % w.posts.length + k) % w.posts.length = j
    rw [Nat.mod_add_mod, show j + (w.posts.length - k) + k = j + w.posts.length by omega, Nat.add_mod_right, Nat.mod_eq_of_lt hj]
theorem help_backed {w : Wy} (hn : 1 ≤ w.posts.length) {c : List Int} (h : c.Perm ((helpL w.back).map fun z => ((w.posts.length : Int) - z) % (w.posts.length : Int))) (s : c.Pairwise (· ≤ ·)) : c = helpL w := by
  have two : ∀ j, j < w.posts.length → (w.posts.length - (w.posts.length - j) % w.posts.length) % w.posts.length = j := fun j hj => by
    by_cases e : j = 0
    · subst e
      rw [Nat.sub_zero, Nat.mod_self, Nat.sub_zero, Nat.mod_self]
    · rw [Nat.mod_eq_of_lt (show w.posts.length - j < w.posts.length by omega), show w.posts.length - (w.posts.length - j) = j by omega, Nat.mod_eq_of_lt hj]
  refine helpL_moved (fun j => (w.posts.length - j) % w.posts.length) (fun j => (w.posts.length - j) % w.posts.length) _ (back_len w) (back_surplus w hn) (fun j hj => ⟨Nat.mod_lt _ hn, two j hj, helpB_back hj, ?_⟩) (fun j hj => ⟨Nat.mod_lt _ hn, two j hj⟩) h s
  show ((w.posts.length : Int) - (j : Int)) % (w.posts.length : Int) = (((w.posts.length - j) % w.posts.length : Nat) : Int)
  rw [Int.natCast_emod, Int.natCast_sub (by omega)]
section
variable {X : Cx} {e e2 : Expr} {es : List Expr} {σ : L2.St} {H : Hp} {Q : VK} {k : Nat} {E : XK} {p pos : Pos}
/-- a list of ints sorted, as a test against another -/
theorem ev_sortedI (hm : X.mg "sorted" = none) (C : Cal X k E) (q : EV X e σ H fun x H1 => ∃ (a : Addr) (ns : List Int), x = .ref a ∧ SqL X.K H1 a (ns.map V.int) ∧ ns.length < 64 ∧ ∀ (c : List Int) (H' : Hp) (p : Addr), c.Perm ns → c.Pairwise (· ≤ ·) → Same H1 H' → H' p = some (.lst (c.map V.int)) → Q (.ref p) H') (hg : Gl X "sorted" := by rfl)
    (he : starEach [e] X.env = (false, eval e X.env) :: starEach [] X.env := by rfl) (hpl : (backTo pos (starEach [] X.env)).any (·.1) = false := by rfl) : EV X (.Call (.Name "sorted" p) [e] [] pos) σ H Q :=
  ev_callB C.calm cr_sorted hm (av_cons (EV.mono q fun x H1 ⟨a, ns, ex, h, hn, q⟩ => av_nil ⟨a, ns, by rw [ex], h, hn, fun c p h1 h2 hp => q c _ p h1 h2 (same_upd hp) upd_same⟩) he) (hg := hg) (he := he) (hpl := hpl)
end
theorem helpL_len (w : Wy) : (helpL w).length ≤ w.posts.length := by
  unfold helpL
  split
  · exact Nat.zero_le _
  · rw [List.length_map]
    exact Nat.le_trans (List.length_filter_le _ _) (by rw [List.length_range]; exact Nat.le_refl _)
end OilLaw
set_option Elab.async false
set_option linter.all false
set_option maxRecDepth 100000
set_option maxHeartbeats 2000000
set_option pp.maxSteps 4000
namespace OilLaw
open PySem PySem.Spec PyProof.Rows L2 Oil
local macro_rules | `(tactic| walk_at "kp") => `(tactic| first
  | exact Kp.refl
  | assumption
  | exact Same.kp (by assumption)
  | (refine Kp.tr (Same.kp ?_) ?_; assumption; walk_at "kp")
  | (refine Kp.tr ?_ ?_; assumption; walk_at "kp"))
local macro_rules | `(tactic| walk_at "same") => `(tactic| first
  | exact Same.refl _
  | assumption
  | (refine Same.tr ?_ ?_; assumption; walk_at "same"))
local macro_rules | `(tactic| walk_at "rp") => `(tactic| first
  | assumption
  | (refine IsSt.up ?_ ?_; assumption; walk_at "kp")
  | (refine IsWy.up ?_ ?_; assumption; walk_at "kp")
  | (refine IsPs.up ?_ ?_; assumption; walk_at "kp")
  | (refine IsPr.up ?_ ?_; assumption; walk_at "kp")
  | (refine Kp.tup ?_ ?_; rotate_left; assumption; walk_at "kp"))
/-! ### legs told as two -/
def spSplit (K : PySem.W.Frag) : Sp := fun vs H Q _ => ∃ G l ps, vs = [.ref G.d, .ref l] ∧ IsRow K G H ∧ l ≠ G.d ∧ IsPl H l ps ∧ ps.length ≤ 6 ∧ (∀ p ∈ ps, 0 ≤ p.1 ∧ p.1 ≤ 1000 ∧ 1 ≤ p.2 ∧ p.2 ≤ 40) ∧
  ∀ H' t fl pl g qs, Rl K G H H' → H' t = some (.tup [.ref fl, .ref pl]) → fl ≠ G.d → pl ≠ G.d → IsPl H' fl qs → (∃ pls : List Int, H' pl = some (.lst (pls.map V.int)) ∧ pls.length = ps.length ∧ ∀ k, k < ps.length → pls[k]? = some ((g k : Nat) : Int)) → Cut ps ps.length g qs →
    (∀ p ∈ qs, 0 ≤ p.1 ∧ p.1 ≤ 1000 ∧ 1 ≤ p.2 ∧ p.2 ≤ 40) → Q (.ref t) H'
theorem rl_non {K : PySem.W.Frag} {G : Dice} {H H' : Hp} {p : Addr} (R : Rl K G H H') (n : H' p = none) : H p = none := by
  cases hx : H p with
  | none => rfl
  | some o =>
    by_cases e : p = G.d
    · obtain ⟨xs, h⟩ := R.row.some
      rw [e, h] at n
      cases n
    · rw [R.1 _ _ e hx] at n
      cases n
section
variable {P : Program} {w : World} {K : PySem.W.Frag} {mg : Str → Option Value} {base : Heap}
end
end OilLaw
set_option Elab.async false
set_option linter.all false
set_option maxRecDepth 100000
set_option maxHeartbeats 2000000
set_option pp.maxSteps 4000
namespace OilLaw
open PySem PySem.Spec PyProof.Rows L2 Oil
local macro_rules | `(tactic| walk_at "kp") => `(tactic| first
  | exact Kp.refl
  | assumption
  | exact Same.kp (by assumption)
  | (refine Kp.tr (Same.kp ?_) ?_; assumption; walk_at "kp")
  | (refine Kp.tr ?_ ?_; assumption; walk_at "kp"))
local macro_rules | `(tactic| walk_at "same") => `(tactic| first
  | exact Same.refl _
  | assumption
  | (refine Same.tr ?_ ?_; assumption; walk_at "same"))
local macro_rules | `(tactic| walk_at "rp") => `(tactic| first
  | assumption
  | (refine IsSt.up ?_ ?_; assumption; walk_at "kp")
  | (refine IsWy.up ?_ ?_; assumption; walk_at "kp")
  | (refine IsPs.up ?_ ?_; assumption; walk_at "kp")
  | (refine IsPr.up ?_ ?_; assumption; walk_at "kp")
  | (refine Kp.tup ?_ ?_; rotate_left; assumption; walk_at "kp"))
/-! ### stops -/
/-- tuples and lists of ints stay -/
def KpI (H H' : Hp) : Prop := (∀ b xs, H b = some (.tup xs) → H' b = some (.tup xs)) ∧ ∀ b (r : List Int), H b = some (.lst (r.map V.int)) → H' b = some (.lst (r.map V.int))
theorem kpi_same {H H' : Hp} (S : Same H H') : KpI H H' := ⟨fun b xs e => S _ _ e, fun b r e => S _ _ e⟩
theorem kpi_tr {H H1 H2 : Hp} (a : KpI H H1) (b : KpI H1 H2) : KpI H H2 := ⟨fun c xs e => b.1 _ _ (a.1 _ _ e), fun c r e => b.2 _ _ (a.2 _ _ e)⟩
theorem kpi_upd {H : Hp} {d : Addr} {u o : HO} (h : H d = some u) (hu : ∀ xs, u ≠ .tup xs) (hl : ∀ r : List Int, u ≠ .lst (r.map V.int)) : KpI H (upd H d o) := by
  refine ⟨fun b xs e => ?_, fun b r e => ?_⟩
  · rw [upd_ne (fun k => hu xs (by rw [k, h] at e; exact Option.some.inj e))]
    exact e
  · rw [upd_ne (fun k => hl r (by rw [k, h] at e; exact Option.some.inj e))]
    exact e
theorem kpi_dK {H : Hp} {d : Addr} {kvs : List (Key × V)} {o : HO} (h : H d = some (.dK kvs)) : KpI H (upd H d o) := kpi_upd h (fun _ e => by cases e) fun _ e => by cases e
theorem kpi_frz {H : Hp} {d : Addr} {od : Obj} {u o : HO} (h : H d = some (.frz od u)) : KpI H (upd H d o) := kpi_upd h (fun _ e => by cases e) fun _ e => by cases e
theorem refs_ints {xs : List V} {a : Addr} {r : List Int} : xs ++ [V.ref a] ≠ r.map V.int := fun e => by
  have h : V.ref a ∈ r.map V.int := by rw [← e]; exact List.mem_append_right _ (List.mem_singleton.mpr rfl)
  obtain ⟨z, _, k⟩ := List.mem_map.mp h
  cases k
def EntOk (H : Hp) (kv : Key × V) (e : Ent) : Prop := kv.1 = .inl ((e.1 : Nat) : Int) ∧ ∃ pa lr, kv.2 = .ref pa ∧ H pa = some (.tup [.int e.2.1, .ref lr]) ∧ H lr = some (.lst (e.2.2.map V.int))
abbrev AreE (H : Hp) : List (Key × V) → List Ent → Prop := Paired (EntOk H)
theorem EntOk.up {H H' : Hp} {kv : Key × V} {e : Ent} (h : EntOk H kv e) (k : KpI H H') : EntOk H' kv e := by
  obtain ⟨h1, pa, lr, h2, h3, h4⟩ := h
  exact ⟨h1, pa, lr, h2, k.1 _ _ h3, k.2 _ _ h4⟩
theorem are_up {H H' : Hp} {kvs : List (Key × V)} {TL : List Ent} (h : AreE H kvs TL) (k : KpI H H') : AreE H' kvs TL := Paired.mapP h fun _ _ q => q.up k
theorem are_get {H : Hp} : ∀ {kvs : List (Key × V)} {TL : List Ent} {m : Nat} {kv : Key × V}, AreE H kvs TL → kvs[m]? = some kv → ∃ e, TL[m]? = some e ∧ EntOk H kv e
  | _, _, _, _, .nil, e => by simp at e
  | _, _, 0, _, .cons r _, e => by simp at e; subst e; exact ⟨_, rfl, r⟩
  | _, _, m + 1, kv, .cons _ t, e => by
    obtain ⟨u, h1, h2⟩ := are_get (m := m) (kv := kv) t (by simpa using e)
    exact ⟨u, by simpa using h1, h2⟩
theorem key_eq {a b : Nat} : (decide ((Sum.inl ((a : Nat) : Int) : Key) = Sum.inl ((b : Nat) : Int))) = decide (a = b) := by
  refine decide_eq_decide.mpr ⟨fun h => ?_, fun h => by rw [h]⟩
  injection h with h
  omega
theorem are_look {H : Hp} {c : Nat} : ∀ {kvs : List (Key × V)} {TL : List Ent}, AreE H kvs TL → match look TL c with
    | none => valV kvs (.inl ((c : Nat) : Int)) = none
    | some x => ∃ v, valV kvs (.inl ((c : Nat) : Int)) = some v ∧ EntOk H (.inl ((c : Nat) : Int), v) (c, x)
  | _, _, .nil => rfl
  | _, _, @Paired.cons _ _ _ kv e kvs TL r t => by
    have ih := are_look (c := c) t
    unfold look valV at ih ⊢
    rw [List.find?_cons, List.find?_cons, r.1, key_eq]
    by_cases h : e.1 = c
    · rw [decide_eq_true h]
      obtain ⟨h1, pa, lr, h2, h3, h4⟩ := r
      exact ⟨kv.2, rfl, by show _ = Sum.inl _; rfl, pa, lr, h2, h3, h4⟩
    · rw [decide_eq_false h]
      exact ih
theorem are_any {H : Hp} {c : Nat} : ∀ {kvs : List (Key × V)} {TL : List Ent}, AreE H kvs TL → (kvs.any fun kv => decide (kv.1 = (Sum.inl ((c : Nat) : Int) : Key))) = TL.any fun e => decide (e.1 = c)
  | _, _, .nil => rfl
  | _, _, @Paired.cons _ _ _ kv e kvs TL r t => by rw [List.any_cons, List.any_cons, are_any t, r.1, key_eq]
theorem are_app {H : Hp} : ∀ {kvs ks : List (Key × V)} {TL U : List Ent}, AreE H kvs TL → AreE H ks U → AreE H (kvs ++ ks) (TL ++ U)
  | _, _, _, _, .nil, h => h
  | _, _, _, _, .cons r t, h => .cons r (are_app t h)
theorem are_map {H : Hp} {c : Nat} {v : V} {x : Int × List Int} (hv : EntOk H (.inl ((c : Nat) : Int), v) (c, x)) : ∀ {kvs : List (Key × V)} {TL : List Ent}, AreE H kvs TL →
    AreE H (kvs.map fun kv => if kv.1 = (Sum.inl ((c : Nat) : Int) : Key) then (kv.1, v) else kv) (TL.map fun e => if e.1 = c then (e.1, x) else e)
  | _, _, .nil => .nil
  | _, _, @Paired.cons _ _ _ kv e kvs TL r t => by
    rw [List.map_cons, List.map_cons]
    refine .cons ?_ (are_map hv t)
    by_cases h : e.1 = c
    · have h2 : kv.1 = (Sum.inl ((c : Nat) : Int) : Key) := by rw [r.1, h]
      rw [if_pos h, if_pos h2, h, h2]
      exact hv
    · have h2 : ¬ kv.1 = (Sum.inl ((c : Nat) : Int) : Key) := fun k => h (by
        rw [r.1] at k
        injection k with k
        omega)
      rw [if_neg h, if_neg h2]
      exact r
theorem are_put {H : Hp} {c : Nat} {v : V} {x : Int × List Int} {kvs : List (Key × V)} {TL : List Ent} (h : AreE H kvs TL) (hv : EntOk H (.inl ((c : Nat) : Int), v) (c, x)) : AreE H (putK kvs (.inl ((c : Nat) : Int)) v) (put TL c x) := by
  unfold putK put
  rw [are_any (c := c) h]
  split
  · exact are_map hv h
  · exact are_app h (.cons hv .nil)
/-- what stands of the tables while a new one is made -/
structure Mk8 (w : Wy) (i : Nat) (o : Int) (j : Nat) (H : Hp) (DN : Addr) (kn : List (Key × V)) (N : List Ent) : Prop where
  at_ : H DN = some (.dK kn)
  are : AreE H kn N
  keys : (N.map (·.1)).Nodup
  ok : ∀ e ∈ N, Valid w i o (j + 1) e
theorem Mk8.len {w : Wy} {i : Nat} {o : Int} {j : Nat} {H : Hp} {DN : Addr} {kn : List (Key × V)} {N : List Ent} (h : Mk8 w i o j H DN kn N) : kn.length ≤ j + 2 := by
  rw [Paired.length h.are]
  have h2 := nodup_lt (j + 2) h.keys fun c hc => by
    obtain ⟨e, he, rfl⟩ := List.mem_map.mp hc
    have := (h.ok e he).1.le
    omega
  rw [List.length_map] at h2
  exact h2
theorem Mk8.up {w : Wy} {i : Nat} {o : Int} {j : Nat} {H H' : Hp} {DN : Addr} {kn : List (Key × V)} {N : List Ent} (h : Mk8 w i o j H DN kn N) (k : KpI H H') (hd : H' DN = some (.dK kn)) : Mk8 w i o j H' DN kn N := ⟨hd, are_up h.are k, h.keys, h.ok⟩
/-- the two candidates of an entry -/
def cand (w : Wy) (i j : Nat) (e : Ent) : Nat → Ent
  | 0 => e
  | _ => (e.1 + 1, min w.cap (e.2.1 + (w.at (i + j)).1), e.2.2 ++ [((j : Nat) : Int)])
theorem cand_valid {w : Wy} {i j : Nat} {o : Int} {e : Ent} (h : Valid w i o j e) (q : Nat) (hs : (w.at (i + j)).2 ≤ (cand w i j e q).2.1) : Valid w i o (j + 1) ((cand w i j e q).1, (cand w i j e q).2.1 - (w.at (i + j)).2, (cand w i j e q).2.2) := by
  cases q with
  | zero =>
    refine valid_go h ?_
    unfold Wy.stopLeg
    rw [if_neg Bool.false_ne_true, if_neg (show ¬ e.2.1 < (w.at (i + j)).2 from by have : (w.at (i + j)).2 ≤ e.2.1 := hs; omega)]
    rfl
  | succ q =>
    refine valid_stop h ?_
    unfold Wy.stopLeg
    rw [if_pos rfl, if_neg (show ¬ min w.cap (e.2.1 + (w.at (i + j)).1) < (w.at (i + j)).2 from by have : (w.at (i + j)).2 ≤ min w.cap (e.2.1 + (w.at (i + j)).1) := hs; omega)]
    rfl
/-- one candidate more; the candidates of an entry; a table; all tables -/
def tput (w : Wy) (i j : Nat) (N : List Ent) (d : Ent) : List Ent :=
  if (w.at (i + j)).2 ≤ d.2.1 then (match look N d.1 with
    | some x => if x.1 < d.2.1 - (w.at (i + j)).2 then put N d.1 (d.2.1 - (w.at (i + j)).2, d.2.2) else N
    | none => put N d.1 (d.2.1 - (w.at (i + j)).2, d.2.2)) else N
def tcan (w : Wy) (i j : Nat) (N : List Ent) (e : Ent) : Nat → List Ent
  | 0 => N
  | q + 1 => tput w i j (tcan w i j N e q) (cand w i j e q)
def trow (w : Wy) (i j : Nat) (T : List Ent) : Nat → List Ent
  | 0 => []
  | m + 1 => match T[m]? with
    | some e => tcan w i j (trow w i j T m) e 2
    | none => trow w i j T m
def tbl (w : Wy) (i : Nat) (o : Int) : Nat → List Ent
  | 0 => [(0, o, [])]
  | j + 1 => trow w i j (tbl w i o j) (tbl w i o j).length
theorem trow_one {w : Wy} {i j : Nat} {T : List Ent} {m : Nat} {e : Ent} (h : T[m]? = some e) : trow w i j T (m + 1) = tcan w i j (trow w i j T m) e 2 := by
  show (match T[m]? with | some e => tcan w i j (trow w i j T m) e 2 | none => trow w i j T m) = _
  rw [h]
theorem cov_of {w : Wy} {i j : Nat} {N : List Ent} {e : Ent} (h : ∀ q, q < 2 → (w.at (i + j)).2 ≤ (cand w i j e q).2.1 → Dom N (cand w i j e q).1 ((cand w i j e q).2.1 - (w.at (i + j)).2)) : Cov w i j N e := by
  refine ⟨fun f hf => ?_, fun f hf => ?_⟩
  · unfold Wy.stopLeg at hf
    rw [if_neg Bool.false_ne_true] at hf
    split at hf
    · cases hf
    · rename_i k
      injection hf with hf
      have := h 0 (by decide) (by show _ ≤ e.2.1; omega)
      rw [← hf]
      exact this
  · unfold Wy.stopLeg at hf
    rw [if_pos rfl] at hf
    split at hf
    · cases hf
    · rename_i k
      injection hf with hf
      have := h 1 (by decide) (by show _ ≤ min w.cap (e.2.1 + (w.at (i + j)).1); omega)
      rw [← hf]
      exact this
def spTables (K : PySem.W.Frag) : Sp := fun vs H Q _ => ∃ v w, ∃ (i n : Nat) (o : Int), vs = [v, .int (i : Nat), .int o, .int (n : Nat)] ∧ IsWy K H v w ∧ n ≤ 60 ∧ ∀ H' tb xs D kvs T, Same H H' → H' tb = some (.lst (xs ++ [.ref D])) → H' D = some (.dK kvs) → AreE H' kvs T → Tab w i o n T → T = tbl w i o n → Q (.ref tb) H'
theorem atI_end {xs : List V} {v : V} : atI (xs ++ [v]) (-1) = some v := by
  unfold atI ixN
  rw [if_neg (by decide), if_pos (by rw [List.length_append, List.length_singleton]; omega)]
  show (xs ++ [v])[(-1 + ((xs ++ [v]).length : Int)).toNat]? = _
  rw [List.length_append, List.length_singleton, show (-1 + ((xs.length + 1 : Nat) : Int)).toNat = xs.length by omega, List.getElem?_append_right (Nat.le_refl _), Nat.sub_self]
  rfl
section
variable {P : Program} {w : World} {K : PySem.W.Frag} {mg : Str → Option Value} {base : Heap}
end
/-- what stops_needed returns -/
def Needed (w : Wy) (i : Nat) (o : Int) (n : Nat) (H : Hp) (v : V) : Prop := (v = .non ∧ Fewest w i o n none) ∨ ∃ lr S g, v = .ref lr ∧ H lr = some (.lst (S.map V.int)) ∧ Asc n S.length S ∧ w.stp i o S n = some g ∧ Fewest w i o n (some S.length)
/-- .. and which list it is -/
def NeedAt (w : Wy) (i : Nat) (o : Int) (n : Nat) (S : List Int) : Prop := S.length ≤ n ∧ ∃ f, look (tbl w i o n) S.length = some (f, S) ∧ ∀ e ∈ tbl w i o n, S.length ≤ e.1
def NeededT (w : Wy) (i : Nat) (o : Int) (n : Nat) (H : Hp) (v : V) : Prop := Needed w i o n H v ∧ (v = .non → tbl w i o n = []) ∧ ∀ lr S, v = .ref lr → H lr = some (.lst (S.map V.int)) → NeedAt w i o n S
theorem needAt_one {w : Wy} {i n : Nat} {o : Int} {S S' : List Int} (h : NeedAt w i o n S) (h' : NeedAt w i o n S') : S = S' := by
  obtain ⟨_, f, a, b⟩ := h
  obtain ⟨_, f', a', b'⟩ := h'
  have x := b _ (look_mem a')
  have y := b' _ (look_mem a)
  have e : S.length = S'.length := by
    simp only at x y
    omega
  rw [e, a'] at a
  injection a with a
  injection a with _ a
  exact a.symm
def spNeeded (K : PySem.W.Frag) : Sp := fun vs H Q E => ∃ v w p o n, vs = [v, p, o, n] ∧ IsWy K H v w ∧ Typd H p ∧ Typd H o ∧ Typd H n ∧
  (∀ (i m : Nat) (ol : Int), p = .int i → o = .int ol → n = .int m → i < w.posts.length → 0 ≤ ol → ol ≤ w.cap → 1 ≤ m → m ≤ 60 → ∀ H' z, Same H H' → NeededT w i ol m H' z → Q z H') ∧
  (inRg 0 (w.posts.length - 1) p = false → E (.ref (He.ga K "UnknownPost")) none H) ∧ (inRg 0 (w.posts.length - 1) p = true → inRg 0 w.cap o = false → E (.ref (He.ga K "InvalidNumber")) none H) ∧
  (inRg 0 (w.posts.length - 1) p = true → inRg 0 w.cap o = true → inRg 1 60 n = false → E (.ref (He.ga K "InvalidNumber")) none H)
def spFewest (K : PySem.W.Frag) : Sp := fun vs H Q E => ∃ v w p o n, vs = [v, p, o, n] ∧ IsWy K H v w ∧ Typd H p ∧ Typd H o ∧ Typd H n ∧
  (∀ (i m : Nat) (ol : Int), p = .int i → o = .int ol → n = .int m → i < w.posts.length → 0 ≤ ol → ol ≤ w.cap → 1 ≤ m → m ≤ 60 → ∀ H' a, Same H H' → Fewest w i ol m a → Q (vN (a.map fun c : Nat => (c : Int))) H') ∧
  (inRg 0 (w.posts.length - 1) p = false → E (.ref (He.ga K "UnknownPost")) none H) ∧ (inRg 0 (w.posts.length - 1) p = true → inRg 0 w.cap o = false → E (.ref (He.ga K "InvalidNumber")) none H) ∧
  (inRg 0 (w.posts.length - 1) p = true → inRg 0 w.cap o = true → inRg 1 60 n = false → E (.ref (He.ga K "InvalidNumber")) none H)
theorem are_keys {H : Hp} : ∀ {kvs : List (Key × V)} {TL : List Ent}, AreE H kvs TL → kvs.map (·.1) = (TL.map fun e => ((e.1 : Nat) : Int)).map Sum.inl
  | _, _, .nil => rfl
  | _, _, @Paired.cons _ _ _ kv e kvs TL r t => by
    rw [List.map_cons, List.map_cons, List.map_cons, ← are_keys t, r.1]
section
variable {P : Program} {w : World} {K : PySem.W.Frag} {mg : Str → Option Value} {base : Heap}
end
section
variable {X : Cx} {e e2 : Expr} {es : List Expr} {σ : L2.St} {H : Hp} {Q : VK} {k : Nat} {E : XK} {p pos : Pos}
theorem int_inj {a b : Nat} (h : V.int (a : Int) = V.int (b : Int)) : a = b := by
  injection h with h
  omega
end
end OilLaw
set_option Elab.async false
set_option linter.all false
set_option maxRecDepth 100000
set_option maxHeartbeats 2000000
set_option pp.maxSteps 4000
namespace OilLaw
open PySem PySem.Spec PyProof.Rows L2 Oil
local macro_rules | `(tactic| walk_at "kp") => `(tactic| first
  | exact Kp.refl
  | assumption
  | exact Same.kp (by assumption)
  | (refine Kp.tr (Same.kp ?_) ?_; assumption; walk_at "kp")
  | (refine Kp.tr ?_ ?_; assumption; walk_at "kp"))
local macro_rules | `(tactic| walk_at "same") => `(tactic| first
  | exact Same.refl _
  | assumption
  | (refine Same.tr ?_ ?_; assumption; walk_at "same"))
local macro_rules | `(tactic| walk_at "rp") => `(tactic| first
  | assumption
  | (refine IsSt.up ?_ ?_; assumption; walk_at "kp")
  | (refine IsWy.up ?_ ?_; assumption; walk_at "kp")
  | (refine IsPs.up ?_ ?_; assumption; walk_at "kp")
  | (refine IsPr.up ?_ ?_; assumption; walk_at "kp")
  | (refine Kp.tup ?_ ?_; rotate_left; assumption; walk_at "kp"))
/-! ### rows so many times as great, a way of rows; settled and goes_out by walking; where two ways part -/
def spIsSettled (K : PySem.W.Frag) : Sp := fun vs H Q _ => ∃ v w, ∃ (i : Nat) (o : Int), vs = [v, .int (i : Nat), .int o] ∧ IsWy K H v w ∧ i < w.posts.length ∧ w.posts.length ≤ 10 ∧ 0 ≤ o ∧ o ≤ w.cap ∧ w.endless i o = true ∧ ∀ H', Same H H' → Q (.bl true) H'
def spIsOut (K : PySem.W.Frag) : Sp := fun vs H Q _ => ∃ v w a, ∃ (i n : Nat) (o u : Int), vs = [v, .int (i : Nat), .int o, .ref a] ∧ IsWy K H v w ∧ i < w.posts.length ∧ 0 ≤ o ∧ o ≤ w.cap ∧ w.endless i o = false ∧ OutAt w i o n u ∧ H a = some (.tup [.int (n : Nat), .int (min w.cap (u + (w.at (i + n)).1))]) ∧ ∀ H', Same H H' → Q (.bl true) H'
/-- where two walks part, within 2000 legs -/
def Part (w w' : Wy) (i : Nat) (o : Int) : Option Nat → Prop
  | none => ∃ m, m ≤ 2000 ∧ (m = 2000 ∨ w.walk i o m = none) ∧ ∀ j, j ≤ m → w.walk i o j = w'.walk i o j
  | some n => 1 ≤ n ∧ n ≤ 2000 ∧ w.walk i o n ≠ w'.walk i o n ∧ ∀ j, j < n → w.walk i o j = w'.walk i o j ∧ w.walk i o j ≠ none
def vNn : Option Nat → V
  | none => .non
  | some n => .int (n : Nat)
theorem part_self {w : Wy} {i : Nat} {o : Int} {r : Option Nat} (h : Part w w i o r) : r = none := by
  cases r with
  | none => rfl
  | some n => exact absurd rfl h.2.2.1
def spUnlike (K : PySem.W.Frag) : Sp := fun vs H Q E => ∃ v w v' w' p o, vs = [v, v', p, o] ∧ IsWy K H v w ∧ IsWy K H v' w' ∧ Typd H p ∧ Typd H o ∧
  (∀ (i : Nat) (ol : Int), p = .int i → o = .int ol → i < w.posts.length → i < w'.posts.length → 0 ≤ ol → ol ≤ w.cap → ol ≤ w'.cap → ∀ H' r, Same H H' → Part w w' i ol r → Q (vNn r) H') ∧
  (inRg 0 (w.posts.length - 1) p = false → E (.ref (He.ga K "UnknownPost")) none H) ∧ (inRg 0 (w.posts.length - 1) p = true → inRg 0 w.cap o = false → E (.ref (He.ga K "InvalidNumber")) none H) ∧
  (inRg 0 (w.posts.length - 1) p = true → inRg 0 w.cap o = true → inRg 0 (w'.posts.length - 1) p = false → E (.ref (He.ga K "UnknownPost")) none H) ∧ (inRg 0 (w.posts.length - 1) p = true → inRg 0 w.cap o = true → inRg 0 (w'.posts.length - 1) p = true → inRg 0 w'.cap o = false → E (.ref (He.ga K "InvalidNumber")) none H)
theorem times_len (f : Int) (ps : List (Int × Int)) : (times f ps).length = ps.length := List.length_map ..
section
variable {P : Program} {w : World} {K : PySem.W.Frag} {mg : Str → Option Value} {base : Heap}
end
end OilLaw
set_option Elab.async false
set_option linter.all false
set_option maxRecDepth 100000
set_option maxHeartbeats 2000000
set_option pp.maxSteps 4000
namespace OilLaw
open PySem PySem.Spec PyProof.Rows L2 Oil
local macro_rules | `(tactic| walk_at "kp") => `(tactic| first
  | exact Kp.refl
  | assumption
  | exact Same.kp (by assumption)
  | (refine Kp.tr (Same.kp ?_) ?_; assumption; walk_at "kp")
  | (refine Kp.tr ?_ ?_; assumption; walk_at "kp"))
local macro_rules | `(tactic| walk_at "same") => `(tactic| first
  | exact Same.refl _
  | assumption
  | (refine Same.tr ?_ ?_; assumption; walk_at "same"))
local macro_rules | `(tactic| walk_at "rp") => `(tactic| first
  | assumption
  | (refine IsSt.up ?_ ?_; assumption; walk_at "kp")
  | (refine IsWy.up ?_ ?_; assumption; walk_at "kp")
  | (refine IsPs.up ?_ ?_; assumption; walk_at "kp")
  | (refine IsPr.up ?_ ?_; assumption; walk_at "kp")
  | (refine Kp.tup ?_ ?_; rotate_left; assumption; walk_at "kp"))
/-! ### goes_out as an Option of a pair; first_unlike; the third part of worst_stretch -/
/-- what goes_out tells -/
def OutP (w : Wy) (i : Nat) (o : Int) : Option (Int × Int) → Prop
  | none => w.endless i o = true
  | some p => w.endless i o = false ∧ ∃ (n : Nat) (u : Int), OutAt w i o n u ∧ p = ((n : Int), min w.cap (u + (w.at (i + n)).1))
theorem outAt_one {w : Wy} {i : Nat} {o : Int} {n n' : Nat} {u u' : Int} (a : OutAt w i o n u) (b : OutAt w i o n' u') : n = n' ∧ u = u' := by
  have e : n = n' := by
    rcases Nat.lt_trichotomy n n' with h | h | h
    · have := walk_gone (m := n + 1) (n := n') (by omega) a.2
      rw [b.1] at this
      cases this
    · exact h
    · have := walk_gone (m := n' + 1) (n := n) (by omega) b.2
      rw [a.1] at this
      cases this
  subst e
  have := a.1.symm.trans b.1
  injection this with h
  exact ⟨rfl, h⟩
theorem outp_one {w : Wy} {i : Nat} {o : Int} : ∀ {a b : Option (Int × Int)}, OutP w i o a → OutP w i o b → a = b
  | none, none, _, _ => rfl
  | none, some _, h, k => absurd (h.symm.trans k.1) (by decide)
  | some _, none, h, k => absurd (k.symm.trans h.1) (by decide)
  | some _, some _, ⟨_, n, u, h1, h2⟩, ⟨_, n', u', k1, k2⟩ => by
    obtain ⟨rfl, rfl⟩ := outAt_one h1 k1
    rw [h2, k2]
theorem outp_turn {w : Wy} {k i : Nat} (hk : k < w.posts.length) {o : Int} {th : Nat} (ht : th = (i + (w.posts.length - k)) % w.posts.length) : ∀ {a : Option (Int × Int)}, OutP (w.turn k) th o a → OutP w i o a := by
  have hend : (w.turn k).endless th o = w.endless i o := by
    rw [ht, turn_endless hk]
    exact endless_cong (by rw [Nat.mod_add_mod, show i + (w.posts.length - k) + k = i + w.posts.length by omega, Nat.add_mod_right]) o
  intro a h
  cases a with
  | none => exact hend.symm.trans h
  | some p =>
    obtain ⟨h0, n, u, h1, h2⟩ := h
    refine ⟨hend.symm.trans h0, n, u, ⟨by rw [← walk_turnd hk, ← ht]; exact h1.1, by rw [← walk_turnd hk, ← ht]; exact h1.2⟩, ?_⟩
    have eat : (w.turn k).at (th + n) = w.at (i + n) := by
      rw [turn_at w hk, ht]
      refine at_cong ?_
      rw [Nat.add_assoc, Nat.mod_add_mod, show i + (w.posts.length - k) + (n + k) = i + n + w.posts.length by omega, Nat.add_mod_right]
    rw [h2, eat]
    rfl
theorem lst_turn {w : Wy} {k i : Nat} (hk : k < w.posts.length) {th : Nat} (ht : th = (i + (w.posts.length - k)) % w.posts.length) : (w.turn k).lst th = w.lst i := by
  unfold Wy.lst
  rw [turn_surplus w hk, turn_len w hk, turn_st w hk, st_cong (w := w) (a := th + k) (b := i) (by rw [ht, Nat.mod_add_mod, show i + (w.posts.length - k) + k = i + w.posts.length by omega, Nat.add_mod_right])]
theorem outp_non {w : Wy} {i : Nat} {o : Int} {H : Hp} {v : V} {a : Option (Int × Int)} (h : IsOP H v a) (k : OutP w i o a) : decide (v = V.non) = w.endless i o := by
  cases a with
  | none =>
    rw [show v = V.non from h, show w.endless i o = true from k]
    exact decide_eq_true rfl
  | some p =>
    obtain ⟨b, rfl, _⟩ := h
    rw [k.1]
    exact decide_eq_false nofun
theorem lv_eq {X : Cx} {b : List Stmt} {σ σ' : L2.St} {H : Hp} {D : Ends} (h : σ = σ') (q : LV X b σ' H D) : LV X b σ H D := by
  rw [h]
  exact q
section
variable {X : Cx} {e e2 : Expr} {es : List Expr} {σ : L2.St} {H : Hp} {Q : VK} {k : Nat} {E : XK} {p pos : Pos}
end
end OilLaw
set_option Elab.async false
set_option linter.all false
set_option maxRecDepth 100000
set_option maxHeartbeats 2000000
set_option pp.maxSteps 4000
namespace OilLaw
open PySem PySem.Spec PyProof.Rows L2 Oil
local macro_rules | `(tactic| walk_at "kp") => `(tactic| first
  | exact Kp.refl
  | assumption
  | exact Same.kp (by assumption)
  | (refine Kp.tr (Same.kp ?_) ?_; assumption; walk_at "kp")
  | (refine Kp.tr ?_ ?_; assumption; walk_at "kp"))
local macro_rules | `(tactic| walk_at "same") => `(tactic| first
  | exact Same.refl _
  | assumption
  | (refine Same.tr ?_ ?_; assumption; walk_at "same"))
local macro_rules | `(tactic| walk_at "rp") => `(tactic| first
  | assumption
  | (refine IsSt.up ?_ ?_; assumption; walk_at "kp")
  | (refine IsWy.up ?_ ?_; assumption; walk_at "kp")
  | (refine IsPs.up ?_ ?_; assumption; walk_at "kp")
  | (refine IsPr.up ?_ ?_; assumption; walk_at "kp")
  | (refine Kp.tup ?_ ?_; rotate_left; assumption; walk_at "kp"))
/-! ### what a call ends with, told: its value, or the exception's name -/
/-- cls is the own exception x without fields: it is told as a pair of texts -/
def tellE (K : PySem.W.Frag) (x : Str) (Q : VK) : XK := fun cls d H => cls = .ref (He.ga K x) ∧ d = none ∧ ∀ H' p, Same H H' → H' p = some (.tup [.str "error", .str x]) → H p = none → Q (.ref p) H'
def spTold (P : Program) (w : World) (K : PySem.W.Frag) (mg : Str → Option Value) (base : Heap) (kk : Nat) : Sp := fun vs H Q _ => ∃ (f : Addr) (R : VK → XK → Prop), vs = [.ref f] ∧ IsFn f H ∧ Cb P w K mg base kk f H R ∧
  ∀ E : XK, (∀ cls d H', tellE K "UnknownPost" Q cls d H' ∨ tellE K "InvalidNumber" Q cls d H' → E cls d H') → R Q E
section
variable {P : Program} {w : World} {K : PySem.W.Frag} {mg : Str → Option Value} {base : Heap}
end
end OilLaw
set_option Elab.async false
set_option linter.all false
set_option maxRecDepth 100000
set_option maxHeartbeats 2000000
set_option pp.maxSteps 4000
namespace OilLaw
open PySem PySem.Spec PyProof.Rows L2 Oil
local macro_rules | `(tactic| walk_at "kp") => `(tactic| first
  | exact Kp.refl
  | assumption
  | exact Same.kp (by assumption)
  | (refine Kp.tr (Same.kp ?_) ?_; assumption; walk_at "kp")
  | (refine Kp.tr ?_ ?_; assumption; walk_at "kp"))
local macro_rules | `(tactic| walk_at "same") => `(tactic| first
  | exact Same.refl _
  | assumption
  | (refine Same.tr ?_ ?_; assumption; walk_at "same"))
local macro_rules | `(tactic| walk_at "rp") => `(tactic| first
  | assumption
  | (refine IsSt.up ?_ ?_; assumption; walk_at "kp")
  | (refine IsWy.up ?_ ?_; assumption; walk_at "kp")
  | (refine IsPs.up ?_ ?_; assumption; walk_at "kp")
  | (refine IsPr.up ?_ ?_; assumption; walk_at "kp")
  | (refine Kp.tup ?_ ?_; rotate_left; assumption; walk_at "kp"))
/-! ### a lambda told that raises; what stays -/
open LamX
section
variable {K : PySem.W.Frag} {H H' H1 H2 H3 H4 : Hp} {G : Dice} {X : Cx} {σ : L2.St} {scope : Scope} {ps : List Str}
theorem IsRow.extN (h : IsRow K G H) (k : ExtN H H') : IsRow K G H' := by
  obtain ⟨hs, i, j, l, hd, hi⟩ := h
  refine ⟨?_, i, j, l, k _ _ hd nofun, hi⟩
  rcases hs with ⟨n, hs | ⟨o, hs⟩⟩ | hs
  · exact .inl ⟨n, .inl (k _ _ hs nofun)⟩
  · exact .inl ⟨n, .inr ⟨o, k _ _ hs nofun⟩⟩
  · exact .inr hs
theorem tabs_but {d : Addr} {xs : List V} {Tb : List (Addr × Str)} (t : Tabs Tb H) (hd : H d = some (.lst xs)) (b : But d H H') : Tabs Tb H' := fun p hp => by
  obtain ⟨tb, h1, h2, h3⟩ := t p hp
  refine ⟨tb, b _ _ (fun e => by rw [e, hd] at h1; cases h1) h1, h2, fun pos cv hc => ?_⟩
  obtain ⟨c, e1, e2⟩ := h3 pos cv hc
  refine ⟨c, e1, b _ _ (fun e => ?_) e2⟩
  rw [e, hd] at e2
  unfold CodeO at e2
  cases e2
theorem tabs_rl {Tb : List (Addr × Str)} (t : Tabs Tb H) (h : IsRow K G H) (R : Rl K G H H') : Tabs Tb H' := by
  obtain ⟨xs, hd⟩ := h.some
  exact tabs_but t hd R.1
theorem rl_out (F : Frz X σ H1 H2) (L : LamS2 X.N X.env.scope scope ps) (h : IsRow K G H1) (R : Rl K G (thw (clo X scope) H2) H3) (S : Same (fil (clo X scope) H2 H3) H4) : Rl K G H1 (thw X.env.cells H4) := by
  have S1 := lam_in F L
  have B : But G.d H1 (thw X.env.cells H4) := but_out F L (But.tr R.1 (Same.but S1)) S
  refine ⟨B, kp_out F L (Kp.tr R.2.1 (Same.kp S1)) (Same.kp S), h.1.but B, ?_⟩
  obtain ⟨_, i, j, l, hd, hi⟩ := R.2.2
  obtain ⟨xs, h1⟩ := h.some
  exact ⟨i, j, l, lam_out F L (by rw [h1]; simp) hd (S _ _), hi⟩
end
/-- an exception's name, as data -/
def dErr (x : Str) : PyData := .tuple [.str "error", .str x]
theorem dp_err {K : PySem.W.Frag} {H : Hp} {p : Addr} {x : Str} (h : H p = some (.tup [.str "error", .str x])) : Dp K H (.ref p) (dErr x) := .tup (SqT.of h) (.cons (.str _) (.cons (.str _) .nil))
theorem shaped_num : SeqAt.shaped (dErr "InvalidNumber") = true := by kernel_rfl
theorem shaped_post : SeqAt.shaped (dErr "UnknownPost") = true := by kernel_rfl
theorem eqv_num : PyData.eqv (dErr "InvalidNumber") (dErr "InvalidNumber") = true := by kernel_rfl
theorem eqv_post : PyData.eqv (dErr "UnknownPost") (dErr "UnknownPost") = true := by kernel_rfl
section
variable {X : Cx} {σ : L2.St} {H : Hp} {Q : VK} {k kk : Nat} {E : XK} {p pos lpos : Pos} {x : Str} {G : Dice} {Tb : List (Addr × Str)} {c P : Addr} {params : Arguments} {body : Expr} {scope : Scope}
theorem told_of {Q : VK} {E : XK} {cls : Value} {d : Option Addr} {H' : Hp} (hx : x = "UnknownPost" ∨ x = "InvalidNumber") (hE : ∀ cls d H', tellE X.K "UnknownPost" Q cls d H' ∨ tellE X.K "InvalidNumber" Q cls d H' → E cls d H') (h : tellE X.K x Q cls d H') : E cls d H' := by
  rcases hx with rfl | rfl
  · exact hE _ _ _ (.inl h)
  · exact hE _ _ _ (.inr h)
end
end OilLaw
set_option Elab.async false
set_option linter.all false
set_option maxRecDepth 100000
set_option maxHeartbeats 2000000
set_option pp.maxSteps 4000
namespace OilLaw
open PySem PySem.Spec PyProof.Rows L2 Oil
local macro_rules | `(tactic| walk_at "kp") => `(tactic| first
  | exact Kp.refl
  | assumption
  | exact Same.kp (by assumption)
  | (refine Kp.tr (Same.kp ?_) ?_; assumption; walk_at "kp")
  | (refine Kp.tr ?_ ?_; assumption; walk_at "kp"))
local macro_rules | `(tactic| walk_at "same") => `(tactic| first
  | exact Same.refl _
  | assumption
  | (refine Same.tr ?_ ?_; assumption; walk_at "same"))
local macro_rules | `(tactic| walk_at "rp") => `(tactic| first
  | assumption
  | (refine IsSt.up ?_ ?_; assumption; walk_at "kp")
  | (refine IsWy.up ?_ ?_; assumption; walk_at "kp")
  | (refine IsPs.up ?_ ?_; assumption; walk_at "kp")
  | (refine IsPr.up ?_ ?_; assumption; walk_at "kp")
  | (refine Kp.tup ?_ ?_; rotate_left; assumption; walk_at "kp"))
/-! ### lambdas told one after the other -/
section
open LamX
variable {X : Cx} {σ : L2.St} {H H' H1 H2 : Hp} {Q : VK} {k kk : Nat} {E : XK} {p pos lpos : Pos} {x : Str} {G : Dice} {Tb : List (Addr × Str)} {c P : Addr} {params : Arguments} {body : Expr} {scope : Scope}
theorem frz_kp {K : PySem.W.Frag} (F : Frz X σ H1 H2) (k : Kp K H2 H') : Frz X σ (thw X.env.cells H') H' where
  off := fun b c => (thw_f c).symm
  out := fun b c => thw_t c
  cel := fun b c => by
    obtain ⟨o, v, e, d⟩ := F.cel b c
    exact ⟨o, v, k b _ trivial e, d⟩
  loc := fun i x v c e1 e2 e3 e4 => by
    obtain ⟨o, u, q1, q2, q3⟩ := F.loc i x v c e1 e2 e3 e4
    exact ⟨o, u, k c _ trivial q1, q2, q3⟩
  has := F.has
  inj := F.inj
  len := F.len
/-- the lambda at f raises x, at a heap to which H1 has grown -/
def Rz (X : Cx) (G : Dice) (σ : L2.St) (kk : Nat) (H1 : Hp) (f : Addr) (x : Str) : Prop := (x = "UnknownPost" ∨ x = "InvalidNumber") ∧ ∃ ps body scope, IsLamAt X ps body scope f H1 ∧ LamS2 X.N X.env.scope scope ps ∧
  ∀ Hm A outer s0 H0 E1 f c', Rl X.K G H1 Hm → Cal (lamCx X A outer s0 H0 E1 scope f c') kk E1 → (∀ Hm', Rl X.K G Hm Hm' → E1 (.ref (He.ga X.K x)) none Hm') → EV (lamCx X A outer s0 H0 E1 scope f c') body σ Hm (fun _ _ => False)
/-- the names of the exceptions, told so far -/
def ToldL (H : Hp) (D : Addr) (xs : List Str) (i : Nat) : Prop := ∃ qs : List Addr, H D = some (.lst (qs.map V.ref)) ∧ qs.length = i ∧ ∀ j x, j < i → xs[j]? = some x → ∃ p, qs[j]? = some p ∧ H p = some (.tup [.str "error", .str x])
theorem ev_toldAll {tg iter elt : Expr} {cs : Scope} {cpos : Pos} (m : Nat) (own : List (Str × Nat)) (C : Cal X k E) (hfn : ∀ x, X.fn x = true) (hN : X.N.Nodup) (hno : ∀ y ∈ cs.names, y.2 ≠ .free ∧ y.2 ≠ .cell)
    (q : EV X iter σ H fun v H1 => ∃ l fs xs, v = .ref l ∧ H1 l = some (.lst (fs.map V.ref)) ∧ l ≠ G.d ∧ IsRow X.K G H1 ∧ Paired (Rz X G σ kk H1) fs xs ∧ xs.length ≤ 100 ∧ ∀ H' D, Rl X.K G H1 H' → H1 D = none → ToldL H' D xs xs.length → Q (.ref D) H')
    (hg : ∀ Y, IsBlk X cs Y → ∀ (v : V) (σ : L2.St) (H : Hp) (R : L2.St → Hp → Prop), R (σ.set m (some v)) H → GV Y tg v σ H R)
    (he : ∀ Y, IsBlk X cs Y → ∀ (v : V) (H : Hp) (R : VK), spTold X.prog X.w X.K X.mg X.base (kk + 1) [v] H R E0 → EV Y elt ((wipe σ (own.map (·.2))).set m (some v)) H R)
    (hw : ∀ v : V, wipe ((wipe σ (own.map (·.2))).set m (some v)) (own.map (·.2)) = wipe σ (own.map (·.2)) := by intro _; rfl)
    (ok : BlkOk X.N X.env.scope cs own := by exact blkOk_by (by kernel_rfl)) (hs : ∀ x, foldedSetIterable iter X.env x = pure x := by intro _; rfl) : EV X (.ListComp elt [⟨tg, iter, [], 0⟩] cs cpos) σ H Q := by
  refine ev_lcF own hfn C.calm hN hno (EV.mono q fun v H1 ⟨l, fs, xs, ev, hl, nl, row, hz, hlen, qq⟩ => ⟨l, fs.map V.ref, ev, SqL.of hl, fun D zD H2 F => ?_⟩) ok hs
  have lD : l ≠ D := ne_of_none hl zD
  have dD : D ≠ G.d := row.ne zD
  have hup : ∀ b o, b ≠ D → H1 b = some o → H2 b = some o := fun b o n e => F.same b o (by rw [upd_ne n]; exact e)
  have nD : ∀ b o, H1 b = some o → b ≠ D := fun b o e => ne_of_none e zD
  have pl := Paired.length hz
  refine ⟨fun i H' => (∀ b o, b ≠ G.d → b ≠ D → H2 b = some o → H' b = some o) ∧ Kp X.K H2 H' ∧ IsRow X.K G H' ∧ ToldL H' D xs i, ⟨fun b o _ _ e => e, Kp.refl, ?_, [], F.same _ _ upd_same, rfl, fun j x hj => absurd hj (Nat.not_lt_zero j)⟩, fun i H' _ hp => SqL.of (hp.1 _ _ nl lD (hup _ _ lD hl)), fun i v H' hv hp => ?_, fun H' hp => ?_⟩
  · have h0 : IsRow X.K G (upd H1 D (.lst [])) := row.same (same_upd zD)
    exact h0.same F.same
  · obtain ⟨B, kp, rowH, qs, hD, hql, hqs⟩ := hp
    have hi : i < fs.length := by have := (List.getElem?_eq_some_iff.mp hv).1; rw [List.length_map] at this; exact this
    rw [List.getElem?_map, List.getElem?_eq_getElem hi] at hv
    cases hv
    have hxi : xs[i]? = some (xs[i]'(by omega)) := List.getElem?_eq_getElem _
    obtain ⟨hx, ps, body, scope, hla, L, run⟩ : Rz X G σ kk H1 fs[i] (xs[i]'(by omega)) := by
      have gen : ∀ {fs : List Addr} {xs : List Str} (i : Nat) (h1 : i < fs.length) (h2 : i < xs.length), Paired (Rz X G σ kk H1) fs xs → Rz X G σ kk H1 fs[i] xs[i] := by
        intro fs xs i h1 h2 h
        induction h generalizing i with
        | nil => exact absurd h1 (Nat.not_lt_zero _)
        | cons r t ih =>
          cases i with
          | zero => exact r
          | succ i => exact ih i (by simpa using h1) (by simpa using h2)
      exact gen i hi (by omega) hz
    intro Y hY
    refine hg Y hY _ _ _ _ ⟨hw _, fun Y2 hY2 => he Y2 hY2 _ _ _ ?_⟩
    have F' := frz_kp F kp
    have k1 : Kp X.K H1 H' := fun b o im e => kp b o im (hup b o (nD b o e) e)
    have hl' := hla.up k1
    have notc : ∀ b o, H1 b = some o → isC X.env.cells b = false := fun b o e => by
      cases cc : isC X.env.cells b with
      | false => rfl
      | true =>
        have z := F.out b cc
        rw [upd_ne (nD b o e), e] at z
        cases z
    have notl : ∀ b o, H1 b = some o → isC (clo X scope) b = false := fun b o e => by
      cases cc : isC (clo X scope) b with
      | false => rfl
      | true =>
        have z := clo_isC F' L cc
        rw [notc b o e] at z
        cases z
    have inm : ∀ b o, H1 b = some o → H' b = some o → thw (clo X scope) H' b = some o := fun b o e e' => (thw_f (notl b o e)).trans e'
    have Bm : But G.d H1 (thw (clo X scope) H') := fun b o n e => inm b o e (B b o n (nD b o e) (hup b o (nD b o e) e))
    obtain ⟨dl, hdl⟩ := row.some
    have Rm : Rl X.K G H1 (thw (clo X scope) H') := by
      refine ⟨Bm, fun b o im e => inm b o e (k1 b o im e), row.1.but Bm, ?_⟩
      obtain ⟨_, i1, j1, l1, hd1, hi1⟩ := rowH
      exact ⟨i1, j1, l1, (thw_f (notl _ _ hdl)).trans hd1, hi1⟩
    refine ⟨fs[i], _, rfl, hl'.isFn, cb_of F' L hl', fun E' hE Y3 hY3 => ?_⟩
    obtain ⟨A, outer, s0, H0, f1, c1, hr, rfl⟩ := hY3
    refine EV.mono (run (thw (clo X scope) H') A outer s0 H0 _ f1 c1 Rm (Cal.lam hr) fun Hm' R => told_of hx hE ⟨rfl, rfl, fun H3 p3 S3 h3 z3 => ?_⟩) fun v H' z => z.elim
    have fillt : ∀ b o, isC (clo X scope) b = true → H' b = some o → H3 b = some o := fun b o cc e => S3 b o ((fil_t cc).trans e)
    have fillf : ∀ b o, isC (clo X scope) b = false → Hm' b = some o → H3 b = some o := fun b o cc e => S3 b o ((fil_f cc).trans e)
    have step : ∀ b o, b ≠ G.d → H' b = some o → H3 b = some o := fun b o n e => by
      cases cc : isC (clo X scope) b with
      | true => exact fillt b o cc e
      | false => exact fillf b o cc (R.1 b o n ((thw_f cc).trans e))
    have stepK : ∀ b o, Imm X.K o → H' b = some o → H3 b = some o := fun b o im e => by
      cases cc : isC (clo X scope) b with
      | true => exact fillt b o cc e
      | false => exact fillf b o cc (R.2.1 b o im ((thw_f cc).trans e))
    have hD3 := step D _ dD hD
    have rowU : IsRow X.K G (upd H3 D (.lst (qs.map V.ref ++ [V.ref p3]))) := by
      obtain ⟨_, i1, j1, l1, hd1, hi1⟩ := R.2.2
      refine ⟨row.1.but fun b o n e => ?_, i1, j1, l1, ?_, hi1⟩
      · rw [upd_ne (nD b o e)]
        exact step b o n (B b o n (nD b o e) (hup b o (nD b o e) e))
      · rw [upd_ne (Ne.symm dD)]
        exact fillf _ _ (notl _ _ hdl) hd1
    have kD : ∀ b o, H3 b = some o → (∀ l, o ≠ .lst l) → upd H3 D (.lst (qs.map V.ref ++ [V.ref p3])) b = some o := fun b o e n => by
      rw [upd_ne fun z => by rw [z, hD3] at e; exact n _ (Option.some.inj e).symm]
      exact e
    refine ⟨_, hD3, by rw [sizeLine_eq, List.length_map]; omega, fun b o n1 n2 e => ?_, fun b o im e => ?_, rowU, qs ++ [p3], ?_, by rw [List.length_append, hql]; rfl, fun j x hj hxj => ?_⟩
    · rw [upd_ne n2]
      exact step b o n1 (B b o n1 n2 e)
    · exact kD b o (stepK b o im (kp b o im e)) fun l z => by rw [z] at im; exact im
    · rw [upd_same, List.map_append]
      rfl
    · by_cases hji : j < i
      · obtain ⟨pj, h1, h2⟩ := hqs j x hji hxj
        exact ⟨pj, by rw [List.getElem?_append_left (by omega)]; exact h1, kD _ _ (stepK _ _ trivial h2) fun l z => by cases z⟩
      · have ej : j = i := by omega
        rw [ej] at hxj ⊢
        obtain rfl : xs[i]'(by omega) = x := Option.some.inj (hxi.symm.trans hxj)
        exact ⟨p3, by rw [List.getElem?_append_right (by omega), hql, Nat.sub_self]; rfl, kD _ _ h3 fun l z => by cases z⟩
  · obtain ⟨B, kp, rowH, qs, hD, hql, hqs⟩ := hp
    rw [List.length_map, pl] at hql hqs
    have F' := frz_kp F kp
    have notc : ∀ b o, H1 b = some o → isC X.env.cells b = false := fun b o e => by
      cases cc : isC X.env.cells b with
      | false => rfl
      | true =>
        have z := F.out b cc
        rw [upd_ne (nD b o e), e] at z
        cases z
    have fr : ∀ b, isC X.env.cells b = true → ∃ o, H' b = some (Fz o) := fun b cc => by
      obtain ⟨o, v, e, _⟩ := F'.cel b cc
      exact ⟨o, e⟩
    have B1 : But G.d H1 (thw X.env.cells H') := fun b o n e => (thw_f (notc b o e)).trans (B b o n (nD b o e) (hup b o (nD b o e) e))
    refine qq _ D ⟨B1, fun b o im e => (thw_f (notc b o e)).trans (kp b o im (hup b o (nD b o e) e)), row.1.but B1, ?_⟩ zD ⟨qs, thw_at fr hD fun z => by simp, hql, fun j x hj hx => ?_⟩
    · obtain ⟨_, i1, j1, l1, hd1, hi1⟩ := rowH
      obtain ⟨dl, hdl⟩ := row.some
      exact ⟨i1, j1, l1, (thw_f (notc _ _ hdl)).trans hd1, hi1⟩
    · obtain ⟨pj, h1, h2⟩ := hqs j x hj hx
      exact ⟨pj, h1, thw_at fr h2 fun z => by simp⟩
theorem ToldL.up {D : Addr} {xs : List Str} {i : Nat} (h : ToldL H D xs i) (S : Same H H') : ToldL H' D xs i := by
  obtain ⟨qs, hD, hl, hq⟩ := h
  refine ⟨qs, S _ _ hD, hl, fun j x hj hx => ?_⟩
  obtain ⟨p, h1, h2⟩ := hq j x hj hx
  exact ⟨p, h1, S _ _ h2⟩
theorem dp_told {K : PySem.W.Frag} {D : Addr} {xs : List Str} (h : ToldL H D xs xs.length) : Dp K H (.ref D) (.list (xs.map dErr)) := by
  obtain ⟨qs, hD, hl, hq⟩ := h
  refine .lst (SqL.of hD) ?_
  have gen : ∀ (qs : List Addr) (xs : List Str), qs.length = xs.length → (∀ j x, j < xs.length → xs[j]? = some x → ∃ p, qs[j]? = some p ∧ H p = some (.tup [.str "error", .str x])) → DpAll K H (qs.map V.ref) (xs.map dErr) := by
    intro qs
    induction qs with
    | nil =>
      intro xs hl _
      cases xs with
      | nil => exact .nil
      | cons x xs => cases hl
    | cons q qs ih =>
      intro xs hl hq
      cases xs with
      | nil => cases hl
      | cons x xs =>
        obtain ⟨p, h1, h2⟩ := hq 0 x (Nat.succ_pos _) rfl
        cases h1
        exact .cons (dp_err h2) (ih xs (Nat.succ.inj hl) fun j y hj hy => hq (j + 1) y (Nat.succ_lt_succ hj) hy)
  exact gen qs xs hl hq
theorem err_lay (x : Str) (h : x = "UnknownPost" ∨ x = "InvalidNumber") : PyData.canLay0 (dErr x) = true ∧ PyData.depth (dErr x) ≤ 60 := by
  rcases h with rfl | rfl
  · exact ⟨by decide +kernel, by simp [dErr, PyData.depth, PyData.depthAll]⟩
  · exact ⟨by decide +kernel, by simp [dErr, PyData.depth, PyData.depthAll]⟩
theorem shaped_errs {xs : List Str} (h : ∀ x ∈ xs, x = "UnknownPost" ∨ x = "InvalidNumber") : SeqAt.shaped (.list (xs.map dErr)) = true := shaped_list fun d hd => by
  obtain ⟨x, hx, rfl⟩ := List.mem_map.mp hd
  exact err_lay x (h x hx)
end
end OilLaw
set_option Elab.async false
set_option linter.all false
set_option maxRecDepth 100000
set_option maxHeartbeats 2000000
set_option pp.maxSteps 4000
namespace OilLaw
open PySem PySem.Spec PyProof.Rows L2 Oil
local macro_rules | `(tactic| walk_at "kp") => `(tactic| first
  | exact Kp.refl
  | assumption
  | exact Same.kp (by assumption)
  | (refine Kp.tr (Same.kp ?_) ?_; assumption; walk_at "kp")
  | (refine Kp.tr ?_ ?_; assumption; walk_at "kp"))
local macro_rules | `(tactic| walk_at "same") => `(tactic| first
  | exact Same.refl _
  | assumption
  | (refine Same.tr ?_ ?_; assumption; walk_at "same"))
local macro_rules | `(tactic| walk_at "rp") => `(tactic| first
  | assumption
  | (refine IsSt.up ?_ ?_; assumption; walk_at "kp")
  | (refine IsWy.up ?_ ?_; assumption; walk_at "kp")
  | (refine IsPs.up ?_ ?_; assumption; walk_at "kp")
  | (refine IsPr.up ?_ ?_; assumption; walk_at "kp")
  | (refine Kp.tup ?_ ?_; rotate_left; assumption; walk_at "kp"))
/-! ### _law_like: two values of the same data -/
/-- v is the data d, nested at most n deep, all its objects tracked -/
def Dq : Nat → Hp → V → PyData → Prop
  | _, _, .non, .none => True
  | _, _, .bl a, .bool b => a = b
  | _, _, .int a, .int b => a = b
  | _, _, .str a, .str b => a = b
  | n + 1, H, .ref p, .list ds => ∃ xs, H p = some (.lst xs) ∧ xs.length ≤ 1000 ∧ Paired (Dq n H) xs ds
  | n + 1, H, .ref p, .tuple ds => ∃ xs, H p = some (.tup xs) ∧ xs.length ≤ 1000 ∧ Paired (Dq n H) xs ds
  | _, _, _, _ => False
theorem dq_vN {H : Hp} (n : Nat) (a : Option Int) : Dq n H (vN a) (dN a) := by
  cases a with
  | none => cases n <;> trivial
  | some i => cases n <;> exact rfl
theorem dq_bl {H : Hp} (n : Nat) (b : Bool) : Dq n H (.bl b) (.bool b) := by cases n <;> exact rfl
theorem dq_int {H : Hp} (n : Nat) (i : Int) : Dq n H (.int i) (.int i) := by cases n <;> exact rfl
theorem dq_non {H : Hp} (n : Nat) : Dq n H .non .none := by cases n <;> trivial
theorem dq_ints {H : Hp} (n : Nat) : ∀ ns : List Int, Paired (Dq n H) (ns.map V.int) (ns.map PyData.int)
  | [] => .nil
  | i :: ns => .cons (dq_int n i) (dq_ints n ns)
theorem dq_lst {H : Hp} {n : Nat} {p : Addr} {ns : List Int} (h : H p = some (.lst (ns.map V.int))) (hn : ns.length ≤ 1000) : Dq (n + 1) H (.ref p) (.list (ns.map PyData.int)) := ⟨_, h, by rw [List.length_map]; exact hn, dq_ints n ns⟩
theorem dq_ns {H : Hp} (n : Nat) : ∀ xs : List (Option Int), Paired (Dq n H) (xs.map vN) (xs.map dN)
  | [] => .nil
  | i :: ns => .cons (dq_vN n i) (dq_ns n ns)
theorem Dq.up : ∀ {n : Nat} {H H' : Hp} {v : V} {d : PyData}, Dq n H v d → Same H H' → Dq n H' v d
  | 0, H, H', v, d, h, S => by cases v <;> cases d <;> first | exact h | exact h.elim
  | n + 1, H, H', v, d, h, S => by
    cases v <;> cases d <;> first
      | exact h
      | exact h.elim
      | (obtain ⟨xs, h1, h2, h3⟩ := h
         exact ⟨xs, S _ _ h1, h2, Paired.mapP h3 fun _ _ z => Dq.up z S⟩)
def tnD : PyData → String
  | .none => "NoneType"
  | .bool _ => "bool"
  | .int _ => "int"
  | .str _ => "str"
  | .list _ => "list"
  | .tuple _ => "tuple"
  | _ => "object"
theorem Dq.ty {K : PySem.W.Frag} {n : Nat} {H : Hp} {v : V} {d : PyData} (h : Dq n H v d) : TyX K H v (.type (tnD d)) := by
  cases n <;> cases v <;> cases d <;> first
    | exact .base .non
    | exact .base (.bl _)
    | exact .base (.int _)
    | exact .base (.str _)
    | exact (show False from h).elim
    | (obtain ⟨xs, h1, _⟩ := h; exact .base (.lst h1))
    | (obtain ⟨xs, h1, _⟩ := h; exact .base (.tup h1))
theorem kit_flat {n : String} (h : n = "NoneType" ∨ n = "bool" ∨ n = "int" ∨ n = "str") : kitB n "tuple" = some false ∧ kitB n "list" = some false ∧ ∃ b, kitB n "bool" = some b ∧ ∃ i, kitB n "int" = some i ∧ ∃ s, kitB n "str" = some s := by
  rcases h with rfl | rfl | rfl | rfl
  · exact ⟨by decide +kernel, by decide +kernel, false, by decide +kernel, false, by decide +kernel, false, by decide +kernel⟩
  · exact ⟨by decide +kernel, by decide +kernel, true, by decide +kernel, true, by decide +kernel, false, by decide +kernel⟩
  · exact ⟨by decide +kernel, by decide +kernel, false, by decide +kernel, true, by decide +kernel, false, by decide +kernel⟩
  · exact ⟨by decide +kernel, by decide +kernel, false, by decide +kernel, false, by decide +kernel, true, by decide +kernel⟩
theorem kit_lst : kitB "list" "tuple" = some false ∧ kitB "list" "list" = some true := ⟨by decide +kernel, by decide +kernel⟩
theorem kit_tup : kitB "tuple" "tuple" = some true ∧ kitB "tuple" "list" = some false := ⟨by decide +kernel, by decide +kernel⟩
theorem tn_flat {d : PyData} (h : tnD d = "NoneType" ∨ tnD d = "bool" ∨ tnD d = "int" ∨ tnD d = "str") : kitB (tnD d) "tuple" = some false ∧ kitB (tnD d) "list" = some false ∧ ∃ b, kitB (tnD d) "bool" = some b ∧ ∃ i, kitB (tnD d) "int" = some i ∧ ∃ s, kitB (tnD d) "str" = some s := kit_flat h
def spLike (n : Nat) : Sp := fun vs H Q _ => ∃ v u d, vs = [v, u] ∧ Dq n H v d ∧ Dq n H u d ∧ ∀ H', Same H H' → Q (.bl true) H'
section
variable {X : Cx} {e e2 : Expr} {es : List Expr} {σ : L2.St} {H : Hp} {Q : VK} {k : Nat} {E : XK} {p pos : Pos}
/-- len, [] of a list or a tuple of such data -/
theorem ev_lenQ (C : Cal X k E) (hm : X.mg "len" = none) (q : EV X e σ H fun x H1 => ∃ a xs, x = .ref a ∧ (H1 a = some (.lst xs) ∨ H1 a = some (.tup xs)) ∧ Q (.int (xs.length : Nat)) H1) (hg : Gl X "len" := by rfl)
    (he : starEach [e] X.env = (false, eval e X.env) :: starEach [] X.env := by rfl) (hpl : (backTo pos (starEach [] X.env)).any (·.1) = false := by rfl) : EV X (.Call (.Name "len" p) [e] [] pos) σ H Q :=
  ev_callB C.calm call_len_seq hm (av_cons (EV.mono q fun x H1 ⟨a, xs, ex, ht, h⟩ => av_nil ⟨a, xs, by rw [ex], ht.elim (fun z => .inl (SqL.of z)) (fun z => .inr (SqT.of z)), h⟩) he) (hg := hg) (he := he) (hpl := hpl)
theorem ev_ixQ {a b : Expr} {i : Nat} {z : V} (q : EV X a σ H fun x H1 => EV X b σ H1 fun y H2 => ∃ t xs, x = .ref t ∧ (H2 t = some (.lst xs) ∨ H2 t = some (.tup xs)) ∧ y = .int (i : Nat) ∧ xs[i]? = some z ∧ Q z H2) (hs : PlainIx b := by intro _ _; rfl) : EV X (.Subscript a b pos) σ H Q := by
  refine EV.of (pe_ix ix_seq pe_ev pe_ev hs) (EV.mono q fun x H1 q => EV.mono q fun y H2 ⟨t, xs, ex, ht, ey, hz, q⟩ => ?_)
  rcases ht with ht | ht
  · exact .inl ⟨t, xs, i, z, ex, ey, SqL.of ht, (atI_eq _ _).trans hz, q⟩
  · exact .inr (.inl ⟨t, xs, i, z, ex, ey, SqT.of ht, (atI_eq _ _).trans hz, q⟩)
end
section
variable {P : Program} {w : World} {K : PySem.W.Frag} {mg : Str → Option Value} {base : Heap}
end
end OilLaw
set_option Elab.async false
set_option linter.all false
set_option maxRecDepth 100000
set_option maxHeartbeats 2000000
set_option pp.maxSteps 4000
namespace OilLaw
open PySem PySem.Spec PyProof.Rows L2 Oil
local macro_rules | `(tactic| walk_at "kp") => `(tactic| first
  | exact Kp.refl
  | assumption
  | exact Same.kp (by assumption)
  | (refine Kp.tr (Same.kp ?_) ?_; assumption; walk_at "kp")
  | (refine Kp.tr ?_ ?_; assumption; walk_at "kp"))
local macro_rules | `(tactic| walk_at "same") => `(tactic| first
  | exact Same.refl _
  | assumption
  | (refine Same.tr ?_ ?_; assumption; walk_at "same"))
local macro_rules | `(tactic| walk_at "rp") => `(tactic| first
  | assumption
  | (refine IsSt.up ?_ ?_; assumption; walk_at "kp")
  | (refine IsWy.up ?_ ?_; assumption; walk_at "kp")
  | (refine IsPs.up ?_ ?_; assumption; walk_at "kp")
  | (refine IsPr.up ?_ ?_; assumption; walk_at "kp")
  | (refine Kp.tup ?_ ?_; rotate_left; assumption; walk_at "kp"))
/-! ### _law_leg, _law_walk, _law_outs: leg by leg -/
def spLegL : Sp := fun vs H Q _ => ∃ (wy : Wy) (i : Nat) (o : Int) (v : V), vs = [.int wy.cap, v, .int o] ∧ IsPr H v (wy.at i) ∧ Q (.int (wy.lg i o)) H
def spWalkL : Sp := fun vs H Q _ => ∃ (wy : Wy) (t : Addr) (i : Nat) (o : Int) (n : Nat), vs = [.int wy.cap, .ref t, .int (i : Nat), .int o, .int (n : Nat)] ∧ IsPs H t wy.posts ∧ wy.ok ∧ n ≤ 100000 ∧ ∀ H' l, Same H H' → H l = none → H' l = some (.lst ((wy.wl i o n).map V.int)) → Q (.ref l) H'
/-- what is told within n legs -/
def OutsN (w : Wy) (i : Nat) (o : Int) (n : Nat) : Option (Int × Int) → Prop
  | none => ∃ r, w.walk i o n = some r
  | some p => ∃ (m : Nat) (u : Int), m < n ∧ OutAt w i o m u ∧ p = ((m : Int), min w.cap (u + (w.at (i + m)).1))
def spOuts : Sp := fun vs H Q _ => ∃ (wy : Wy) (t : Addr) (i : Nat) (o : Int) (n : Nat), vs = [.int wy.cap, .ref t, .int (i : Nat), .int o, .int (n : Nat)] ∧ IsPs H t wy.posts ∧ wy.ok ∧ 0 ≤ o ∧ n ≤ 100000 ∧ ∀ H' v a, Same H H' → IsOP H' v a → OutsN wy i o n a → Q v H'
section
variable {P : Program} {w : World} {K : PySem.W.Frag} {mg : Str → Option Value} {base : Heap}
end
end OilLaw
set_option Elab.async false
set_option linter.all false
set_option maxRecDepth 100000
set_option maxHeartbeats 2000000
set_option pp.maxSteps 4000
namespace OilLaw
open PySem PySem.Spec PyProof.Rows L2 Oil
local macro_rules | `(tactic| walk_at "kp") => `(tactic| first
  | exact Kp.refl
  | assumption
  | exact Same.kp (by assumption)
  | (refine Kp.tr (Same.kp ?_) ?_; assumption; walk_at "kp")
  | (refine Kp.tr ?_ ?_; assumption; walk_at "kp"))
local macro_rules | `(tactic| walk_at "same") => `(tactic| first
  | exact Same.refl _
  | assumption
  | (refine Same.tr ?_ ?_; assumption; walk_at "same"))
local macro_rules | `(tactic| walk_at "rp") => `(tactic| first
  | assumption
  | (refine IsSt.up ?_ ?_; assumption; walk_at "kp")
  | (refine IsWy.up ?_ ?_; assumption; walk_at "kp")
  | (refine IsPs.up ?_ ?_; assumption; walk_at "kp")
  | (refine IsPr.up ?_ ?_; assumption; walk_at "kp")
  | (refine Kp.tup ?_ ?_; rotate_left; assumption; walk_at "kp"))
/-! ### what a call ends with, told: its value, or the exception's name and fields -/
inductive Te where
  | post
  | num
  | st (part : Str)
  | wy (part : Str) (i : Int)
def Te.nm : Te → Str
  | .post => "UnknownPost"
  | .num => "InvalidNumber"
  | .st _ => "InvalidStretch"
  | .wy _ _ => "InvalidWay"
/-- cls, d is the exception t -/
def exTe (K : PySem.W.Frag) : Te → Value → Option Addr → Hp → Prop
  | .post, cls, d, _ => cls = .ref (He.ga K "UnknownPost") ∧ d = none
  | .num, cls, d, _ => cls = .ref (He.ga K "InvalidNumber") ∧ d = none
  | .st z, cls, d, H => cls = .ref (He.ga K "InvalidStretch") ∧ ∃ dd, d = some dd ∧ H dd = some (.xd [("part", .str z)])
  | .wy z i, cls, d, H => cls = .ref (He.ga K "InvalidWay") ∧ ∃ dd, d = some dd ∧ H dd = some (.xd [("index", .int i), ("part", .str z)])
/-- v tells it; what it is made of was not there in H0 -/
def IsTe (H0 H : Hp) (v : V) : Te → Prop
  | .post => ∃ p, v = .ref p ∧ H p = some (.tup [.str "error", .str "UnknownPost"]) ∧ H0 p = none
  | .num => ∃ p, v = .ref p ∧ H p = some (.tup [.str "error", .str "InvalidNumber"]) ∧ H0 p = none
  | .st z => ∃ p l, v = .ref p ∧ H p = some (.tup [.str "error", .str "InvalidStretch", .ref l]) ∧ H l = some (.lst [.str z]) ∧ H0 p = none ∧ H0 l = none
  | .wy z i => ∃ p l, v = .ref p ∧ H p = some (.tup [.str "error", .str "InvalidWay", .ref l]) ∧ H l = some (.lst [.str z, .int i]) ∧ H0 p = none ∧ H0 l = none
def dTe : Te → PyData
  | .post => .tuple [.str "error", .str "UnknownPost"]
  | .num => .tuple [.str "error", .str "InvalidNumber"]
  | .st z => .tuple [.str "error", .str "InvalidStretch", .list [.str z]]
  | .wy z i => .tuple [.str "error", .str "InvalidWay", .list [.str z, .int i]]
theorem dp_te {K : PySem.W.Frag} {H0 H : Hp} {v : V} : ∀ {t : Te}, IsTe H0 H v t → Dp K H v (dTe t)
  | .post, ⟨p, e, h, _⟩ => by rw [e]; exact .tup (SqT.of h) (.cons (.str _) (.cons (.str _) .nil))
  | .num, ⟨p, e, h, _⟩ => by rw [e]; exact .tup (SqT.of h) (.cons (.str _) (.cons (.str _) .nil))
  | .st z, ⟨p, l, e, h, hl, _⟩ => by rw [e]; exact .tup (SqT.of h) (.cons (.str _) (.cons (.str _) (.cons (.lst (SqL.of hl) (.cons (.str _) .nil)) .nil)))
  | .wy z i, ⟨p, l, e, h, hl, _⟩ => by rw [e]; exact .tup (SqT.of h) (.cons (.str _) (.cons (.str _) (.cons (.lst (SqL.of hl) (.cons (.str _) (.cons (.int _) .nil))) .nil)))
theorem te_up {H0 H1 H H' : Hp} {v : V} (S : ∀ b o, H0 b = none → H b = some o → H' b = some o) (k : ∀ b, H0 b = none → H1 b = none) : ∀ {t : Te}, IsTe H0 H v t → IsTe H1 H' v t
  | .post, ⟨p, e, h, n⟩ => ⟨p, e, S _ _ n h, k _ n⟩
  | .num, ⟨p, e, h, n⟩ => ⟨p, e, S _ _ n h, k _ n⟩
  | .st z, ⟨p, l, e, h, hl, n, nl⟩ => ⟨p, l, e, S _ _ n h, S _ _ nl hl, k _ n, k _ nl⟩
  | .wy z i, ⟨p, l, e, h, hl, n, nl⟩ => ⟨p, l, e, S _ _ n h, S _ _ nl hl, k _ n, k _ nl⟩
def Te.sk : Te → Bool
  | .post => true
  | .num => true
  | .st z => PyData.strOk z
  | .wy z _ => PyData.strOk z
theorem te_lay {t : Te} (h : t.sk = true) : PyData.canLay0 (dTe t) = true ∧ PyData.depth (dTe t) ≤ 60 := by
  have e1 : PyData.strOk (Str.ofString "error") = true := by decide +kernel
  have e2 : PyData.strOk (Str.ofString "UnknownPost") = true := by decide +kernel
  have e3 : PyData.strOk (Str.ofString "InvalidNumber") = true := by decide +kernel
  have e4 : PyData.strOk (Str.ofString "InvalidStretch") = true := by decide +kernel
  have e5 : PyData.strOk (Str.ofString "InvalidWay") = true := by decide +kernel
  cases t with
  | post => exact ⟨by simp [dTe, PyData.canLay0, PyData.canLayAll0, e1, e2], by simp [dTe, PyData.depth, PyData.depthAll]⟩
  | num => exact ⟨by simp [dTe, PyData.canLay0, PyData.canLayAll0, e1, e3], by simp [dTe, PyData.depth, PyData.depthAll]⟩
  | st z => exact ⟨by simp [dTe, PyData.canLay0, PyData.canLayAll0, e1, e4, show PyData.strOk z = true from h], by simp [dTe, PyData.depth, PyData.depthAll]⟩
  | wy z i => exact ⟨by simp [dTe, PyData.canLay0, PyData.canLayAll0, e1, e5, show PyData.strOk z = true from h], by simp [dTe, PyData.depth, PyData.depthAll]⟩
theorem te_shaped {t : Te} (h : t.sk = true) : SeqAt.shaped (dTe t) = true := by
  obtain ⟨a, b⟩ := te_lay h
  show (PyData.canLay0 (dTe t) && decide (PyData.depth (dTe t) ≤ 64)) = true
  rw [a, decide_eq_true (by omega)]
  rfl
theorem tes_shaped {ts : List Te} (h : ∀ t ∈ ts, t.sk = true) : SeqAt.shaped (.list (ts.map dTe)) = true := shaped_list fun d hd => by
  obtain ⟨t, ht, rfl⟩ := List.mem_map.mp hd
  exact te_lay (h t ht)
def tellX (K : PySem.W.Frag) (t : Te) (Q : VK) : XK := fun cls d H => exTe K t cls d H ∧ ∀ H' v, Same H H' → IsTe H H' v t → Q v H'
def spToldX (P : Program) (w : World) (K : PySem.W.Frag) (mg : Str → Option Value) (base : Heap) (kk : Nat) : Sp := fun vs H Q _ => ∃ (f : Addr) (R : VK → XK → Prop), vs = [.ref f] ∧ IsFn f H ∧ Cb P w K mg base kk f H R ∧
  ∀ E : XK, (∀ t cls d H', tellX K t Q cls d H' → E cls d H') → R Q E
section
variable {P : Program} {w : World} {K : PySem.W.Frag} {mg : Str → Option Value} {base : Heap}
end
end OilLaw
set_option Elab.async false
set_option linter.all false
set_option maxRecDepth 100000
set_option maxHeartbeats 2000000
set_option pp.maxSteps 4000
namespace OilLaw
open PySem PySem.Spec PyProof.Rows L2 Oil
local macro_rules | `(tactic| walk_at "kp") => `(tactic| first
  | exact Kp.refl
  | assumption
  | exact Same.kp (by assumption)
  | (refine Kp.tr (Same.kp ?_) ?_; assumption; walk_at "kp")
  | (refine Kp.tr ?_ ?_; assumption; walk_at "kp"))
local macro_rules | `(tactic| walk_at "same") => `(tactic| first
  | exact Same.refl _
  | assumption
  | (refine Same.tr ?_ ?_; assumption; walk_at "same"))
local macro_rules | `(tactic| walk_at "rp") => `(tactic| first
  | assumption
  | (refine IsSt.up ?_ ?_; assumption; walk_at "kp")
  | (refine IsWy.up ?_ ?_; assumption; walk_at "kp")
  | (refine IsPs.up ?_ ?_; assumption; walk_at "kp")
  | (refine IsPr.up ?_ ?_; assumption; walk_at "kp")
  | (refine Kp.tup ?_ ?_; rotate_left; assumption; walk_at "kp"))
/-! ### lambdas told one after the other, exceptions with fields among them -/
section
open LamX
variable {X : Cx} {σ : L2.St} {H H' H1 H2 : Hp} {Q : VK} {k kk : Nat} {E : XK} {p pos lpos : Pos} {G : Dice} {Tb : List (Addr × Str)} {c P : Addr} {params : Arguments} {body : Expr} {scope : Scope}
/-- where an exception leaves, the cells are no tracked things -/
theorem Cal.nc {X : Cx} {k : Nat} {E : XK} (C : Cal X k E) : Cal X k (fun cls d H => (∀ b, isC X.env.cells b = true → H b = none) → E cls d H) := by
  have tk : Takes X (fun cls d _ H => (∀ b, isC X.env.cells b = true → H b = none) → E cls d H) := fun u s' ⟨a, B, sI, pins, σ, H, cls, d, e, I, nb, up, sky, na, os, ag, w⟩ =>
    C.tk u s' ⟨a, B, sI, pins, σ, H, cls, d, e, I, nb, up, sky, na, os, ag, w fun b cc => by
      obtain ⟨x, hx⟩ := of_isC cc
      exact I.freeC x b hx⟩
  exact ⟨C.hr, passes_call tk (fun _ _ _ _ h => h), C.calm, tk, C.po⟩
theorem exTe_up {K : PySem.W.Frag} {cls : Value} {d : Option Addr} (S : ∀ b o, H b = some o → H' b = some o) : ∀ {t : Te}, exTe K t cls d H → exTe K t cls d H'
  | .post, h => h
  | .num, h => h
  | .st _, ⟨e, dd, ed, h⟩ => ⟨e, dd, ed, S _ _ h⟩
  | .wy _ _, ⟨e, dd, ed, h⟩ => ⟨e, dd, ed, S _ _ h⟩
/-- the lambda at f raises t, at a heap to which H1 has grown -/
def Rzx (X : Cx) (G : Dice) (σ : L2.St) (kk : Nat) (H1 : Hp) (f : Addr) (t : Te) : Prop := ∃ ps body scope, IsLamAt X ps body scope f H1 ∧ LamS2 X.N X.env.scope scope ps ∧
  ∀ Hm A outer s0 H0 E1 E2 f c', Rl X.K G H1 Hm → Cal (lamCx X A outer s0 H0 E1 scope f c') kk E2 → (∀ Hm' cls d, Rl X.K G Hm Hm' → exTe X.K t cls d Hm' → E2 cls d Hm') → EV (lamCx X A outer s0 H0 E1 scope f c') body σ Hm (fun _ _ => False)
/-- what was told so far -/
def ToldT (H0 H : Hp) (D : Addr) (ts : List Te) (i : Nat) : Prop := ∃ vs, H D = some (.lst vs) ∧ vs.length = i ∧ ∀ (j : Nat) (t : Te) (v : V), vs[j]? = some v → ts[j]? = some t → IsTe H0 H v t
theorem thw_te {cl : List (Str × Addr)} {H0 H : Hp} {v : V} (fr : ∀ b, isC cl b = true → ∃ o, H b = some (Fz o)) : ∀ {t : Te}, IsTe H0 H v t → IsTe H0 (thw cl H) v t
  | .post, ⟨p, e, h, n⟩ => ⟨p, e, thw_at fr h fun z => by simp, n⟩
  | .num, ⟨p, e, h, n⟩ => ⟨p, e, thw_at fr h fun z => by simp, n⟩
  | .st z, ⟨p, l, e, h, hl, n, nl⟩ => ⟨p, l, e, thw_at fr h fun z => by simp, thw_at fr hl fun z => by simp, n, nl⟩
  | .wy z i, ⟨p, l, e, h, hl, n, nl⟩ => ⟨p, l, e, thw_at fr h fun z => by simp, thw_at fr hl fun z => by simp, n, nl⟩
theorem ev_toldAllX {tg iter elt : Expr} {cs : Scope} {cpos : Pos} (m : Nat) (own : List (Str × Nat)) (C : Cal X k E) (hfn : ∀ x, X.fn x = true) (hN : X.N.Nodup) (hno : ∀ y ∈ cs.names, y.2 ≠ .free ∧ y.2 ≠ .cell)
    (q : EV X iter σ H fun v H1 => ∃ l fs ts, v = .ref l ∧ H1 l = some (.lst (fs.map V.ref)) ∧ l ≠ G.d ∧ IsRow X.K G H1 ∧ Paired (Rzx X G σ kk H1) fs ts ∧ ts.length ≤ 100 ∧ ∀ H' D, Rl X.K G H1 H' → H1 D = none → ToldT H1 H' D ts ts.length → Q (.ref D) H')
    (hg : ∀ Y, IsBlk X cs Y → ∀ (v : V) (σ : L2.St) (H : Hp) (R : L2.St → Hp → Prop), R (σ.set m (some v)) H → GV Y tg v σ H R)
    (he : ∀ Y, IsBlk X cs Y → ∀ (v : V) (H : Hp) (R : VK), spToldX X.prog X.w X.K X.mg X.base (kk + 1) [v] H R E0 → EV Y elt ((wipe σ (own.map (·.2))).set m (some v)) H R)
    (hw : ∀ v : V, wipe ((wipe σ (own.map (·.2))).set m (some v)) (own.map (·.2)) = wipe σ (own.map (·.2)) := by intro _; rfl)
    (ok : BlkOk X.N X.env.scope cs own := by exact blkOk_by (by kernel_rfl)) (hs : ∀ x, foldedSetIterable iter X.env x = pure x := by intro _; rfl) : EV X (.ListComp elt [⟨tg, iter, [], 0⟩] cs cpos) σ H Q := by
  refine ev_lcF own hfn C.calm hN hno (EV.mono q fun v H1 ⟨l, fs, ts, ev, hl, nl, row, hz, hlen, qq⟩ => ⟨l, fs.map V.ref, ev, SqL.of hl, fun D zD H2 F => ?_⟩) ok hs
  have lD : l ≠ D := ne_of_none hl zD
  have dD : D ≠ G.d := row.ne zD
  have hup : ∀ b o, b ≠ D → H1 b = some o → H2 b = some o := fun b o n e => F.same b o (by rw [upd_ne n]; exact e)
  have nD : ∀ b o, H1 b = some o → b ≠ D := fun b o e => ne_of_none e zD
  have pl := Paired.length hz
  obtain ⟨Hs, eHs⟩ : ∃ Hs, Hs = upd H1 D (.lst []) := ⟨_, rfl⟩
  have sD : Hs D = some (.lst []) := by rw [eHs]; exact upd_same
  obtain ⟨dl, hdl⟩ := row.some
  have sG : Hs G.d = some (.lst dl) := by rw [eHs, upd_ne (Ne.symm dD)]; exact hdl
  have s1 : ∀ b, Hs b = none → H1 b = none := fun b n => by
    by_cases hb : b = D
    · rw [hb]; exact zD
    · rw [eHs, upd_ne hb] at n; exact n
  refine ⟨fun i H' => (∀ b o, b ≠ G.d → b ≠ D → H2 b = some o → H' b = some o) ∧ Kp X.K H2 H' ∧ IsRow X.K G H' ∧ ToldT Hs H' D ts i, ⟨fun b o _ _ e => e, Kp.refl, ?_, [], F.same _ _ upd_same, rfl, fun j t v hv => by simp at hv⟩, fun i H' _ hp => SqL.of (hp.1 _ _ nl lD (hup _ _ lD hl)), fun i v H' hv hp => ?_, fun H' hp => ?_⟩
  · have h0 : IsRow X.K G (upd H1 D (.lst [])) := row.same (same_upd zD)
    exact h0.same F.same
  · obtain ⟨B, kp, rowH, vs, hD, hvl, hvs⟩ := hp
    have hi : i < fs.length := by have := (List.getElem?_eq_some_iff.mp hv).1; rw [List.length_map] at this; exact this
    rw [List.getElem?_map, List.getElem?_eq_getElem hi] at hv
    cases hv
    have hti : ts[i]? = some (ts[i]'(by omega)) := List.getElem?_eq_getElem _
    obtain ⟨ps, body, scope, hla, L, run⟩ : Rzx X G σ kk H1 fs[i] (ts[i]'(by omega)) := by
      have gen : ∀ {fs : List Addr} {ts : List Te} (i : Nat) (h1 : i < fs.length) (h2 : i < ts.length), Paired (Rzx X G σ kk H1) fs ts → Rzx X G σ kk H1 fs[i] ts[i] := by
        intro fs ts i h1 h2 h
        induction h generalizing i with
        | nil => exact absurd h1 (Nat.not_lt_zero _)
        | cons r t ih =>
          cases i with
          | zero => exact r
          | succ i => exact ih i (by simpa using h1) (by simpa using h2)
      exact gen i hi (by omega) hz
    intro Y hY
    refine hg Y hY _ _ _ _ ⟨hw _, fun Y2 hY2 => he Y2 hY2 _ _ _ ?_⟩
    have F' := frz_kp F kp
    have k1 : Kp X.K H1 H' := fun b o im e => kp b o im (hup b o (nD b o e) e)
    have hl' := hla.up k1
    have notc : ∀ b o, H1 b = some o → isC X.env.cells b = false := fun b o e => by
      cases cc : isC X.env.cells b with
      | false => rfl
      | true =>
        have z := F.out b cc
        rw [upd_ne (nD b o e), e] at z
        cases z
    have notl : ∀ b o, H1 b = some o → isC (clo X scope) b = false := fun b o e => by
      cases cc : isC (clo X scope) b with
      | false => rfl
      | true =>
        have z := clo_isC F' L cc
        rw [notc b o e] at z
        cases z
    have inm : ∀ b o, H1 b = some o → H' b = some o → thw (clo X scope) H' b = some o := fun b o e e' => (thw_f (notl b o e)).trans e'
    have Bm : But G.d H1 (thw (clo X scope) H') := fun b o n e => inm b o e (B b o n (nD b o e) (hup b o (nD b o e) e))
    have Rm : Rl X.K G H1 (thw (clo X scope) H') := by
      refine ⟨Bm, fun b o im e => inm b o e (k1 b o im e), row.1.but Bm, ?_⟩
      obtain ⟨_, i1, j1, l1, hd1, hi1⟩ := rowH
      exact ⟨i1, j1, l1, (thw_f (notl _ _ hdl)).trans hd1, hi1⟩
    refine ⟨fs[i], _, rfl, hl'.isFn, cb_of F' L hl', fun E' hE Y3 hY3 => ?_⟩
    obtain ⟨A, outer, s0, H0, f1, c1, hr, rfl⟩ := hY3
    refine EV.mono (run (thw (clo X scope) H') A outer s0 H0 _ _ f1 c1 Rm (Cal.nc (Cal.lam hr)) fun Hm' cls d R hx nc => hE _ _ _ _ ⟨exTe_up (fun b o e => ?_) hx, fun H3 v3 S3 h3 => ?_⟩) fun v H' z => z.elim
    · cases cc : isC (clo X scope) b with
      | true => rw [nc b cc] at e; cases e
      | false => exact (fil_f cc).trans e
    have fillt : ∀ b o, isC (clo X scope) b = true → H' b = some o → H3 b = some o := fun b o cc e => S3 b o ((fil_t cc).trans e)
    have fillf : ∀ b o, isC (clo X scope) b = false → Hm' b = some o → H3 b = some o := fun b o cc e => S3 b o ((fil_f cc).trans e)
    have step0 : ∀ b o, b ≠ G.d → H' b = some o → fil (clo X scope) H' Hm' b = some o := fun b o n e => by
      cases cc : isC (clo X scope) b with
      | true => exact (fil_t cc).trans e
      | false => exact (fil_f cc).trans (R.1 b o n ((thw_f cc).trans e))
    have step : ∀ b o, b ≠ G.d → H' b = some o → H3 b = some o := fun b o n e => S3 b o (step0 b o n e)
    have stepK : ∀ b o, Imm X.K o → H' b = some o → H3 b = some o := fun b o im e => by
      cases cc : isC (clo X scope) b with
      | true => exact fillt b o cc e
      | false => exact fillf b o cc (R.2.1 b o im ((thw_f cc).trans e))
    have hD3 := step D _ dD hD
    have rowU : IsRow X.K G (upd H3 D (.lst (vs ++ [v3]))) := by
      obtain ⟨_, i1, j1, l1, hd1, hi1⟩ := R.2.2
      refine ⟨row.1.but fun b o n e => ?_, i1, j1, l1, ?_, hi1⟩
      · rw [upd_ne (nD b o e)]
        exact step b o n (B b o n (nD b o e) (hup b o (nD b o e) e))
      · rw [upd_ne (Ne.symm dD)]
        exact fillf _ _ (notl _ _ hdl) hd1
    have kD : ∀ b o, H3 b = some o → (∀ l, o ≠ .lst l) → upd H3 D (.lst (vs ++ [v3])) b = some o := fun b o e n => by
      rw [upd_ne fun z => by rw [z, hD3] at e; exact n _ (Option.some.inj e).symm]
      exact e
    -- what is new is none of what was there at the start
    have back : ∀ b, fil (clo X scope) H' Hm' b = none → Hs b = none := fun b n => by
      cases hb : Hs b with
      | none => rfl
      | some o =>
        exfalso
        by_cases e1 : b = G.d
        · subst e1
          obtain ⟨_, i1, j1, l1, hd1, hi1⟩ := R.2.2
          rw [fil_f (notl _ _ hdl), hd1] at n
          cases n
        · by_cases e2 : b = D
          · subst e2
            rw [step0 _ _ e1 hD] at n
            cases n
          · rw [eHs, upd_ne e2] at hb
            rw [step0 b o e1 (B b o e1 e2 (hup b o e2 hb))] at n
            cases n
    have nGD : ∀ b, Hs b = none → b ≠ G.d ∧ b ≠ D := fun b n => ⟨fun e => (by rw [e, sG] at n; cases n), fun e => (by rw [e, sD] at n; cases n)⟩
    refine ⟨_, hD3, by rw [sizeLine_eq]; omega, fun b o n1 n2 e => ?_, fun b o im e => ?_, rowU, vs ++ [v3], upd_same, by rw [List.length_append, hvl]; rfl, fun j t v hj htj => ?_⟩
    · rw [upd_ne n2]
      exact step b o n1 (B b o n1 n2 e)
    · exact kD b o (stepK b o im (kp b o im e)) fun l z => by rw [z] at im; exact im
    · by_cases hji : j < i
      · rw [List.getElem?_append_left (by omega)] at hj
        exact te_up (fun b o n e => by
          rw [upd_ne (nGD b n).2]
          exact step b o (nGD b n).1 e) (fun _ n => n) (hvs j t v hj htj)
      · have ej : j = i := by
          have := (List.getElem?_eq_some_iff.mp hj).1
          rw [List.length_append] at this
          simp only [List.length_cons, List.length_nil] at this
          omega
        rw [ej] at htj hj
        rw [List.getElem?_append_right (by omega), hvl, Nat.sub_self] at hj
        cases hj
        obtain rfl : ts[i]'(by omega) = t := Option.some.inj (hti.symm.trans htj)
        exact te_up (fun b o n e => by
          rw [upd_ne (nGD b (back b n)).2]
          exact e) back h3
  · obtain ⟨B, kp, rowH, vs, hD, hvl, hvs⟩ := hp
    rw [List.length_map, pl] at hvl
    have F' := frz_kp F kp
    have notc : ∀ b o, H1 b = some o → isC X.env.cells b = false := fun b o e => by
      cases cc : isC X.env.cells b with
      | false => rfl
      | true =>
        have z := F.out b cc
        rw [upd_ne (nD b o e), e] at z
        cases z
    have fr : ∀ b, isC X.env.cells b = true → ∃ o, H' b = some (Fz o) := fun b cc => by
      obtain ⟨o, v, e, _⟩ := F'.cel b cc
      exact ⟨o, e⟩
    have B1 : But G.d H1 (thw X.env.cells H') := fun b o n e => (thw_f (notc b o e)).trans (B b o n (nD b o e) (hup b o (nD b o e) e))
    refine qq _ D ⟨B1, fun b o im e => (thw_f (notc b o e)).trans (kp b o im (hup b o (nD b o e) e)), row.1.but B1, ?_⟩ zD ⟨vs, thw_at fr hD fun z => by simp, hvl, fun j t v hj ht => te_up (fun b o _ e => e) s1 (thw_te fr (hvs j t v hj ht))⟩
    obtain ⟨_, i1, j1, l1, hd1, hi1⟩ := rowH
    exact ⟨i1, j1, l1, (thw_f (notc _ _ hdl)).trans hd1, hi1⟩
theorem dp_toldT {K : PySem.W.Frag} {H0 : Hp} {D : Addr} {ts : List Te} (h : ToldT H0 H D ts ts.length) : Dp K H (.ref D) (.list (ts.map dTe)) := by
  obtain ⟨vs, hD, hl, hq⟩ := h
  refine .lst (SqL.of hD) ?_
  have gen : ∀ (vs : List V) (ts : List Te), vs.length = ts.length → (∀ (j : Nat) (t : Te) (v : V), vs[j]? = some v → ts[j]? = some t → IsTe H0 H v t) → DpAll K H vs (ts.map dTe) := by
    intro vs
    induction vs with
    | nil =>
      intro ts hl _
      cases ts with
      | nil => exact .nil
      | cons t ts => cases hl
    | cons v vs ih =>
      intro ts hl hq
      cases ts with
      | nil => cases hl
      | cons t ts => exact .cons (dp_te (hq 0 t v rfl rfl)) (ih ts (Nat.succ.inj hl) fun j t' v' h1 h2 => hq (j + 1) t' v' (by simpa using h1) (by simpa using h2))
  exact gen vs ts hl hq
theorem toldT_up {H0 : Hp} {D : Addr} {ts : List Te} {i : Nat} (h : ToldT H0 H D ts i) (S : Same H H') : ToldT H0 H' D ts i := by
  obtain ⟨vs, hD, hl, hq⟩ := h
  exact ⟨vs, S _ _ hD, hl, fun j t v h1 h2 => te_up (fun b o _ e => S _ _ e) (fun _ n => n) (hq j t v h1 h2)⟩
/-- _law_told(lambda: body), the body raises t -/
theorem told1_core (F : Frz X σ H1 H2) {ps : List Str} {f : Addr} (L : LamS2 X.N X.env.scope scope ps) (row1 : IsRow X.K G H1) (hl2 : IsLamAt X ps body scope f H2) {t : Te}
    (q1 : ∀ Hm A outer s0 H0 E1 E2 f c', Same H1 Hm → IsRow X.K G Hm → Cal (lamCx X A outer s0 H0 E1 scope f c') kk E2 → (∀ Hm' cls d, Rl X.K G Hm Hm' → exTe X.K t cls d Hm' → E2 cls d Hm') → EV (lamCx X A outer s0 H0 E1 scope f c') body σ Hm (fun _ _ => False))
    (q2 : ∀ H' v, Rl X.K G H1 H' → IsTe H1 H' v t → Q v H') : spToldX X.prog X.w X.K X.mg X.base (kk + 1) [V.ref f] H2 (fun v H' => Q v (thw X.env.cells H')) E0 := by
  refine ⟨f, _, rfl, hl2.isFn, cb_of F L hl2, fun E' hE Y hY => ?_⟩
  obtain ⟨A, outer, s0, H0, f1, c1, hr, rfl⟩ := hY
  refine EV.mono (q1 (thw (clo X scope) H2) A outer s0 H0 _ _ f1 c1 (lam_in F L) (row1.same (lam_in F L)) (Cal.nc (Cal.lam hr)) fun Hm' cls d R hx nc => hE t _ _ _ ⟨exTe_up (fun b o e => ?_) hx, fun H3 v3 S3 h3 => ?_⟩) fun v H' z => z.elim
  · cases cc : isC (clo X scope) b with
    | true => rw [nc b cc] at e; cases e
    | false => exact (fil_f cc).trans e
  have R1 := rl_out F L row1 R S3
  refine q2 _ _ R1 (thw_te (fz_back F R.2.1 (Same.kp S3)) (te_up (fun b o _ e => e) (fun b n => ?_) h3))
  cases hb : H1 b with
  | none => rfl
  | some o =>
    exfalso
    have z := lam_in F L b o hb
    have cc : isC (clo X scope) b = false := clo_sub F L hb
    by_cases e : b = G.d
    · subst e
      obtain ⟨xs, hd⟩ := R.2.2.some
      rw [fil_f cc, hd] at n
      cases n
    · rw [fil_f cc, R.1 b o e z] at n
      cases n
end
end OilLaw
set_option Elab.async false
set_option linter.all false
set_option maxRecDepth 100000
set_option maxHeartbeats 2000000
set_option pp.maxSteps 4000
namespace OilLaw
open PySem PySem.Spec PyProof.Rows L2 Oil
local macro_rules | `(tactic| walk_at "kp") => `(tactic| first
  | exact Kp.refl
  | assumption
  | exact Same.kp (by assumption)
  | (refine Kp.tr (Same.kp ?_) ?_; assumption; walk_at "kp")
  | (refine Kp.tr ?_ ?_; assumption; walk_at "kp"))
local macro_rules | `(tactic| walk_at "same") => `(tactic| first
  | exact Same.refl _
  | assumption
  | (refine Same.tr ?_ ?_; assumption; walk_at "same"))
local macro_rules | `(tactic| walk_at "rp") => `(tactic| first
  | assumption
  | (refine IsSt.up ?_ ?_; assumption; walk_at "kp")
  | (refine IsWy.up ?_ ?_; assumption; walk_at "kp")
  | (refine IsPs.up ?_ ?_; assumption; walk_at "kp")
  | (refine IsPr.up ?_ ?_; assumption; walk_at "kp")
  | (refine Kp.tup ?_ ?_; rotate_left; assumption; walk_at "kp"))
/-! ### exceptions with fields: InvalidStretch, InvalidWay -/
abbrev rSt : List V → Hp → List (Str × V) → Prop := fun ws _ fs => ∃ z : Str, z.length ≤ 1000 ∧ ws = [.str z] ∧ fs = [(("part" : Str), V.str z)]
abbrev rWy : List V → Hp → List (Str × V) → Prop := fun ws _ fs => ∃ (z : Str) (i : Int), z.length ≤ 1000 ∧ -1000000000 ≤ i ∧ i ≤ 1000000000 ∧ ws = [.str z, .int i] ∧ fs = [(("index" : Str), V.int i), (("part" : Str), V.str z)]
section
variable {P : Program} {w : World} {K : PySem.W.Frag} {mg : Str → Option Value} {base : Heap}
end
/-! ### Stretch: what is wrong with its arguments -/
inductive BadSt : V → V → V → Str → Prop where
  | need {n g t : V} (h : n ≠ .non) (h2 : ∀ i, n = .int i → i < 0) : BadSt n g t "need"
  | gain {n g t : V} (h : n = .non ∨ ∃ i, n = .int i ∧ 0 ≤ i) (h2 : ∀ j, g = .int j → ∃ i, n = .int i ∧ i + j < 0) : BadSt n g t "gain"
  | top {n g t : V} (h : n = .non ∨ ∃ i, n = .int i ∧ 0 ≤ i) (hg : ∃ j, g = .int j ∧ ∀ i, n = .int i → 0 ≤ i + j) (h3 : ∀ j, t = .int j → j < 0) : BadSt n g t "top"
def spStBad (K : PySem.W.Frag) : Sp := fun vs H _ E => ∃ x n g t part, vs = [.ref x, n, g, t] ∧ Typd H n ∧ Typd H g ∧ Typd H t ∧ BadSt n g t part ∧ ∀ d H', Same H H' → H' d = some (.xd [("part", .str part)]) → E (.ref (He.ga K "InvalidStretch")) (some d) H'
theorem typd_up {H H' : Hp} {v : V} (h : Typd H v) (S : Same H H') : Typd H' v := by
  cases h with
  | non => exact .non
  | bl b => exact .bl b
  | int i => exact .int i
  | str x => exact .str x
  | lst e => exact .lst (S _ _ e)
  | tup e => exact .tup (S _ _ e)
theorem wh_int {v : V} (h : wh v = true) : ∃ i, v = .int i := by
  cases v <;> first | exact ⟨_, rfl⟩ | cases h
section
variable {P : Program} {w : World} {K : PySem.W.Frag} {mg : Str → Option Value} {base : Heap}
end
section
variable {X : Cx} {e : Expr} {es : List Expr} {σ : L2.St} {H : Hp} {Q : VK} {k : Nat} {E : XK} {p pos : Pos}
end
end OilLaw
set_option Elab.async false
set_option linter.all false
set_option maxRecDepth 100000
set_option maxHeartbeats 2000000
set_option pp.maxSteps 4000
namespace OilLaw
open PySem PySem.Spec PyProof.Rows L2 Oil
local macro_rules | `(tactic| walk_at "kp") => `(tactic| first
  | exact Kp.refl
  | assumption
  | exact Same.kp (by assumption)
  | (refine Kp.tr (Same.kp ?_) ?_; assumption; walk_at "kp")
  | (refine Kp.tr ?_ ?_; assumption; walk_at "kp"))
local macro_rules | `(tactic| walk_at "same") => `(tactic| first
  | exact Same.refl _
  | assumption
  | (refine Same.tr ?_ ?_; assumption; walk_at "same"))
local macro_rules | `(tactic| walk_at "rp") => `(tactic| first
  | assumption
  | (refine IsSt.up ?_ ?_; assumption; walk_at "kp")
  | (refine IsWy.up ?_ ?_; assumption; walk_at "kp")
  | (refine IsPs.up ?_ ?_; assumption; walk_at "kp")
  | (refine IsPr.up ?_ ?_; assumption; walk_at "kp")
  | (refine Kp.tup ?_ ?_; rotate_left; assumption; walk_at "kp"))
/-! ### posts and ways that are invalid -/
section
variable {X : Cx} {e g : Expr} {σ : L2.St} {H : Hp} {D : Ends} {x y : Str} {pa pb ps pw pos : Pos} {b1 b2 : List Stmt} {v : V}
/-- match e: case [x, y] if g: .. case _: .., e a list of two -/
theorem sv_matchL (i j : Nat) (hc : X.calm = true) (hN : X.N.Nodup)
    (q : EV X e σ H fun u H1 => ∃ p a b, u = .ref p ∧ SqL X.K H1 p [a, b] ∧ TV X g ((σ.set i (some a)).set j (some b)) H1 (fun H2 => LV X b1 ((σ.set i (some a)).set j (some b)) H2 D) (fun H2 => LV X b2 ((σ.set i (some a)).set j (some b)) H2 D))
    (hi : X.N[i]? = some x := by rfl) (hj : X.N[j]? = some y := by rfl) (hx : X.env.scope.names.lookup x = some .local := by rfl) (hy : X.env.scope.names.lookup y = some .local := by rfl) :
    SV X (.Match e [⟨.MatchSequence [.MatchAs none (some x) pa, .MatchAs none (some y) pb] ps, some g, b1⟩, ⟨.MatchAs none none pw, none, b2⟩] pos) σ H D := by
  intro pins s I
  refine wpAny_Match (thn (q pins s I) fun u s1 ⟨v, H1, I1, rv, p, a, b, ev, hl, h⟩ => ?_)
  subst ev
  cases (show u = Value.ref p from rv)
  obtain ⟨its, r, pl, hz⟩ := I1.list hl
  have hn : its.toArray.size = 2 := by
    have l := r.length
    rw [List.size_toArray, ← l]
    rfl
  refine wpAny_matchCases_cons (matchSeq_list_hit pl.isList (by rw [hn]; decide) (by rw [hn]; rfl) ?_)
  have e2 : ([Pattern.MatchAs none (some x) pa, Pattern.MatchAs none (some y) pb] : List Pattern).length = its.toArray.size := by rw [hn]; rfl
  rw [e2]
  refine PySem.W.kun_itemsOf (s := { s1 with toks := s1.toks + 1 + 1 }) (I1.ok.hd hc) pl.isList fun h' hx' => ?_
  have I2 : Inv X pins σ H1 { s1 with heap := h', toks := s1.toks + 1 + 1 } := I1.kept fun b o e => hx' b o (Nat.ne_of_lt (Heap.lt_size e)) e
  cases r with
  | @cons _ ua _ _ ra r =>
    cases r with
    | @cons _ ub _ _ rb r =>
      cases r
      refine wpAny_matchEach_cons (wpAny_matchPattern_Capture (wpAny_matchEach_cons (wpAny_matchPattern_Capture (wpAny_matchEach_nil ?_))))
      refine assignInOrder_cons (wpAny_bindName (store_ok I2 hN hi (.inl hx) ra (fun s3 I3 => ?_) (.inr hx)))
      refine assignInOrder_cons (wpAny_bindName (store_ok I3 hN hj (.inl hy) rb (fun s4 I4 => assignInOrder_nil ?_) (.inr hy)))
      refine thn (h pins s4 I4) fun ok s5 ⟨H5, I5, q5⟩ => ?_
      cases ok with
      | true =>
        rw [if_pos rfl]
        exact q5 pins s5 I5
      | false =>
        rw [if_neg Bool.false_ne_true]
        exact match_rest I5 q5
end
/-- v, asked whether it is a post -/
inductive PostV (H : Hp) : V → Bool → Prop where
  | pr {p : Addr} {a b : V} (h : H p = some (.tup [a, b])) (ta : Typd H a) (tb : Typd H b) : PostV H (.ref p) (inRg 0 1000000000 a && inRg 1 1000000000 b)
  | ntup {p : Addr} {xs : List V} (h : H p = some (.tup xs)) (n : xs.length ≠ 2) : PostV H (.ref p) false
  | lst {p : Addr} {a b : V} (h : H p = some (.lst [a, b])) : PostV H (.ref p) false
  | non : PostV H .non false
theorem postV_up {H H' : Hp} {v : V} {b : Bool} (h : PostV H v b) (S : Same H H') : PostV H' v b := by
  cases h with
  | pr h ta tb => exact .pr (S _ _ h) (typd_up ta S) (typd_up tb S)
  | ntup h n => exact .ntup (S _ _ h) n
  | lst h => exact .lst (S _ _ h)
  | non => exact .non
theorem postV_pr {H : Hp} {v : V} {p : Int × Int} (h : IsPr H v p) (k : okP p) : PostV H v true := by
  obtain ⟨a, rfl, ha⟩ := h
  obtain ⟨k1, k2, k3, k4⟩ := k
  have e : (inRg 0 1000000000 (.int p.1) && inRg 1 1000000000 (.int p.2)) = true := by simp [inRg, k1, k2, k3, k4]
  rw [← e]
  exact .pr ha (.int _) (.int _)
def spPostX : Sp := fun vs H Q _ => ∃ v b, vs = [v] ∧ PostV H v b ∧ Q (.bl b) H
/-- what is wrong with the arguments of a way -/
inductive BadWy (H : Hp) (c : V) (items : List V) : Str → Nat → Prop where
  | cap (h : inRg 1 1000000000 c = false) : BadWy H c items "capacity" 0
  | post {j : Nat} {v : V} (hc : inRg 1 1000000000 c = true) (hj : j < 12) (hv : items[j]? = some v) (hb : PostV H v false) (hg : ∀ (m : Nat) (u : V), m < j → items[m]? = some u → PostV H u true) : BadWy H c items "posts" j
  | empty (hc : inRg 1 1000000000 c = true) (h : items = []) : BadWy H c items "posts" 0
theorem badWy_up {H H' : Hp} {c : V} {items : List V} {part : Str} {j : Nat} (h : BadWy H c items part j) (S : Same H H') : BadWy H' c items part j := by
  cases h with
  | cap h => exact .cap h
  | post hc hj hv hb hg => exact .post hc hj hv (postV_up hb S) fun m u hm hu => postV_up (hg m u hm hu) S
  | empty hc h => exact .empty hc h
def spWyBad (K : PySem.W.Frag) : Sp := fun vs H _ E => ∃ x c t items part idx, vs = [.ref x, c, .ref t] ∧ Typd H c ∧ H t = some (.tup items) ∧ BadWy H c items part idx ∧ ∀ d H', Same H H' → H' d = some (.xd [("index", .int (idx : Nat)), ("part", .str part)]) → E (.ref (He.ga K "InvalidWay")) (some d) H'
/-- such a promise, the posts told one by one -/
abbrev spWyBadS (K : PySem.W.Frag) : Sp := fun vs H Q E => ∃ ws rest, vs = ws ++ rest ∧ ws.length = 2 ∧ rest.length ≤ sizeLine ∧ ∀ p, H p = Option.none → spWyBad K (ws ++ [V.ref p]) (upd H p (.tup rest)) Q E
section
variable {P : Program} {w : World} {K : PySem.W.Frag} {mg : Str → Option Value} {base : Heap}
theorem ok_is_postX (T : Txt K mg) : FnR P w K mg base (L2.CX P w) 3 (He.ga K "is_post") spPostX := by
  refine fnr T.d_is_post sc_is_post (fun _ _ _ _ _ _ us hl => match us, hl with | [_], _ => rfl) (fun vs H Q E h => ?_) fun cdv A outer s H vs Q E hr h => ?_
  · obtain ⟨v, b, rfl, _⟩ := h
    rfl
  · obtain ⟨v, b, rfl, pv, q⟩ := h
    have C := Cal.body (P := P) (w := w) (K := K) (mg := mg) (base := base) (N := ["value", "oil", "steps"]) (outer := outer) (H := H) (E := E) hr
    cases pv with
    | pr ha ta tb =>
      refine lv_one (sv_match2 1 2 C.calm sc_is_post.nd (ev_var 0 rfl ⟨_, .tup (SqT.of ha), ?_⟩))
      refine tv_val (ev_isi T.b_isinstance (ev_var 0 rfl (ev_gty T.b_tuple rfl ⟨_, _, .base (.tup ha), .ty _, _, kit_ty (by decide +kernel : kitB "tuple" "tuple" = some true), _, rfl, bT ?_⟩)))
      refine lv_one (sv_ret (ev_andV (ev_call C (ok_is_integer T) (by decide) T.gl_is_integer (fkp T.d_is_integer) (av_cons (ev_var 1 rfl (av_cons (ev_int (av_cons (ev_gint T.k_MAX_OIL (av_nil ⟨_, _, _, rfl, ta, _, rfl, br_b (fun h => ?_) fun h => ?_⟩))))))))))
      · rw [h, Bool.true_and] at q
        exact ev_one (ev_call C (ok_is_integer T) (by decide) T.gl_is_integer (fkp T.d_is_integer) (av_cons (ev_var 2 rfl (av_cons (ev_int (av_cons (ev_gint T.k_MAX_OIL (av_nil ⟨_, _, _, rfl, tb, q⟩))))))))
      · rw [h, Bool.false_and] at q
        exact q
    | ntup h n => exact lv_one (sv_match2 1 2 C.calm sc_is_post.nd (ev_var 0 rfl ⟨_, .ntup (SqT.of h) n, lv_one (sv_ret (ev_bl q))⟩))
    | lst h =>
      refine lv_one (sv_matchL 1 2 C.calm sc_is_post.nd (ev_var 0 rfl ⟨_, _, _, rfl, SqL.of h, ?_⟩))
      exact tv_val (ev_isi T.b_isinstance (ev_var 0 rfl (ev_gty T.b_tuple rfl ⟨_, _, .base (.lst h), .ty _, _, kit_ty (by decide +kernel : kitB "list" "tuple" = some false), _, rfl, bF (lv_one (sv_ret (ev_bl q)))⟩)))
    | non => exact lv_one (sv_match2 1 2 C.calm sc_is_post.nd (ev_var 0 rfl ⟨_, .non, lv_one (sv_ret (ev_bl q))⟩))
end
/-- Way(c, *items), invalid -/
theorem wy_bad {X : Cx} {Q : VK} {E : XK} {c : V} {items : List V} {part : Str} {idx : Nat} {H1 : Hp} (tc : Typd H1 c) (bad : BadWy H1 c items part idx) (hl : items.length ≤ 1000) (q : ∀ d H', Same H1 H' → H' d = some (.xd [("index", .int (idx : Nat)), ("part", .str part)]) → E (.ref (He.ga X.K "InvalidWay")) (some d) H') :
    ∀ x dx, H1 x = Option.none → H1 dx = Option.none → dx ≠ x → spWyBadS X.K (V.ref x :: c :: items) (upd (upd H1 dx (.own x)) x (.ins (He.ga X.K "Way") dx [])) (fun v H2 => v = .non ∧ Q (.ref x) H2) E := by
  intro x dx hx hdx ne
  have S0 : Same H1 (upd (upd H1 dx (.own x)) x (.ins (He.ga X.K "Way") dx [])) := Same.trans (same_upd hdx) (same_upd (by rw [upd_ne (Ne.symm ne)]; exact hx))
  refine ⟨[.ref x, c], items, rfl, rfl, by rw [sizeLine_eq]; omega, fun p hp => ?_⟩
  have S1 := S0.trans (same_upd (o := HO.tup items) hp)
  exact ⟨x, c, p, items, part, idx, rfl, typd_up tc S1, upd_same, badWy_up bad S1, fun d H' S h => q d H' (S1.trans S) h⟩
/-! ### defs that hand such arguments on -/
def spPostU (K : PySem.W.Frag) : Sp := fun vs H _ E => ∃ v w p o s, vs = [v, p, o, s] ∧ IsWy K H v w ∧ Typd H p ∧ inRg 0 (w.posts.length - 1) p = false ∧ E (.ref (He.ga K "UnknownPost")) none H
def spPostB (K : PySem.W.Frag) : Sp := fun vs H _ E => ∃ v w, ∃ (i : Nat) (o s : V), vs = [v, .int (i : Nat), o, s] ∧ IsWy K H v w ∧ i < w.posts.length ∧ Typd H o ∧ Typd H s ∧ (inRg 0 1000000000 o && inRg 1 1000000000 s) = false ∧
  ∀ d H', Same H H' → H' d = some (.xd [("index", .int (i : Nat)), ("part", .str "posts")]) → E (.ref (He.ga K "InvalidWay")) (some d) H'
def spHoldB (K : PySem.W.Frag) : Sp := fun vs H _ E => ∃ v w c, vs = [v, c] ∧ IsWy K H v w ∧ Typd H c ∧ inRg 1 1000000000 c = false ∧ ∀ d H', Same H H' → H' d = some (.xd [("index", .int ((0 : Nat) : Int)), ("part", .str "capacity")]) → E (.ref (He.ga K "InvalidWay")) (some d) H'
def spEvenN (K : PySem.W.Frag) : Sp := fun vs H _ E => ∃ c n o s, vs = [.ref (He.ga K "Way"), c, n, o, s] ∧ Typd H n ∧ inRg 1 12 n = false ∧ E (.ref (He.ga K "InvalidNumber")) none H
def spEvenB (K : PySem.W.Frag) : Sp := fun vs H _ E => ∃ (c n o s : Int), vs = [.ref (He.ga K "Way"), .int c, .int n, .int o, .int s] ∧ 1 ≤ n ∧ n ≤ 12 ∧ inRg 1 1000000000 (.int c) = true ∧ (inRg 0 1000000000 (.int o) && inRg 1 1000000000 (.int s)) = false ∧
  ∀ d H', Same H H' → H' d = some (.xd [("index", .int ((0 : Nat) : Int)), ("part", .str "posts")]) → E (.ref (He.ga K "InvalidWay")) (some d) H'
section
variable {P : Program} {w : World} {K : PySem.W.Frag} {mg : Str → Option Value} {base : Heap}
theorem ok_Way_with_postU (T : Txt K mg) : FnR P w K mg base (L2.CX P w) 6 (He.ma K (He.ga K "Way") "with_post") (spPostU K) := by
  refine fnr T.d_Way_with_post sc_Way_with_post (fun _ _ _ _ _ _ us hl => match us, hl with | [_, _, _, _], _ => rfl) (fun vs H Q E h => ?_) fun cdv A outer s H vs Q E hr h => ?_
  · obtain ⟨v, w, p, o, s, rfl, _⟩ := h
    rfl
  · obtain ⟨v, wy, p, o, st, rfl, hw, tp, hp, q⟩ := h
    have C := Cal.body (P := P) (w := w) (K := K) (mg := mg) (base := base) (N := ["self", "post", "oil", "steps", "rows"]) (outer := outer) (H := H) (E := E) hr
    obtain ⟨a, dx, t, rfl, ha⟩ := wy_at hw
    exact lv_cons (sv_expr (ev_meth C T.cls_Way T.me_Way_need_post (ok_Way_need_post T) (by decide) (ev_var 0 rfl ⟨_, _, _, rfl, ha, rfl, av_cons (ev_var 1 rfl (av_nil ⟨_, _, _, rfl, hw, tp, fun e => absurd e (by rw [hp]; exact Bool.false_ne_true), fun _ => q⟩))⟩)))
theorem ok_Way_evenN (T : Txt K mg) : FnR P w K mg base (L2.CX P w) 6 (cm K "Way" "even") (spEvenN K) := by
  refine fnr T.d_Way_even sc_Way_even (fun _ _ _ _ _ _ us hl => match us, hl with | [_, _, _, _, _], _ => rfl) (fun vs H Q E h => ?_) fun cdv A outer s H vs Q E hr h => ?_
  · obtain ⟨c, n, o, s, rfl, _⟩ := h
    rfl
  · obtain ⟨c, n, o, st, rfl, tn, hn, q⟩ := h
    have C := Cal.body (P := P) (w := w) (K := K) (mg := mg) (base := base) (N := ["cls", "capacity", "count", "oil", "steps", "rows"]) (outer := outer) (H := H) (E := E) hr
    refine lv_cons (sv_if (tv_not (tv_val (ev_call C (ok_is_integer T) (by decide) T.gl_is_integer (fkp T.d_is_integer) (av_cons (ev_var 2 rfl (av_cons (ev_int (av_cons (ev_gint T.k_MAX_POSTS (av_nil ⟨_, _, _, rfl, tn, _, rfl, br_kf hn ?_⟩)))))))))))
    exact lv_one (sv_raise C T.ex_InvalidNumber q)
end
end OilLaw
set_option Elab.async false
set_option linter.all false
set_option maxRecDepth 100000
set_option maxHeartbeats 2000000
set_option pp.maxSteps 4000
namespace OilLaw
open PySem PySem.Spec PyProof.Rows L2 Oil
local macro_rules | `(tactic| walk_at "kp") => `(tactic| first
  | exact Kp.refl
  | assumption
  | exact Same.kp (by assumption)
  | (refine Kp.tr (Same.kp ?_) ?_; assumption; walk_at "kp")
  | (refine Kp.tr ?_ ?_; assumption; walk_at "kp"))
local macro_rules | `(tactic| walk_at "same") => `(tactic| first
  | exact Same.refl _
  | assumption
  | (refine Same.tr ?_ ?_; assumption; walk_at "same"))
local macro_rules | `(tactic| walk_at "rp") => `(tactic| first
  | assumption
  | (refine IsSt.up ?_ ?_; assumption; walk_at "kp")
  | (refine IsWy.up ?_ ?_; assumption; walk_at "kp")
  | (refine IsPs.up ?_ ?_; assumption; walk_at "kp")
  | (refine IsPr.up ?_ ?_; assumption; walk_at "kp")
  | (refine Kp.tup ?_ ?_; rotate_left; assumption; walk_at "kp"))
/-! ### exceptions as words with fields -/
inductive Re where
  | op (i : Int)
  | dec (i : Int)
  | nota (i j : Int)
  | out (i j : Int)
  | way (z : Str) (i : Int)
  | num
  | post
  | contra
  | count
  deriving DecidableEq
def Re.inA : Re → Bool
  | .op _ => true
  | .out _ _ => true
  | .num => true
  | .post => true
  | .contra => true
  | _ => false
def Re.inB : Re → Bool := fun _ => true
/-- cls, d is the exception t -/
def exRe (K : PySem.W.Frag) : Re → Value → Option Addr → Hp → Prop
  | .op i, cls, d, H => cls = .ref (He.ga K "InvalidOperation") ∧ ∃ dd, d = some dd ∧ H dd = some (.xd [("index", .int i)])
  | .dec i, cls, d, H => cls = .ref (He.ga K "DecodeError") ∧ ∃ dd, d = some dd ∧ H dd = some (.xd [("offset", .int i)])
  | .nota i j, cls, d, H => cls = .ref (He.ga K "NotationError") ∧ ∃ dd, d = some dd ∧ H dd = some (.xd [("word", .int j), ("row", .int i)])
  | .out i j, cls, d, H => cls = .ref (He.ga K "GoesOut") ∧ ∃ dd, d = some dd ∧ H dd = some (.xd [("steps", .int j), ("legs", .int i)])
  | .way z i, cls, d, H => cls = .ref (He.ga K "InvalidWay") ∧ ∃ dd, d = some dd ∧ H dd = some (.xd [("index", .int i), ("part", .str z)])
  | .num, cls, d, _ => cls = .ref (He.ga K "InvalidNumber") ∧ d = none
  | .post, cls, d, _ => cls = .ref (He.ga K "UnknownPost") ∧ d = none
  | .contra, cls, d, _ => cls = .ref (He.ga K "Contradiction") ∧ d = none
  | .count, cls, d, _ => cls = .ref (He.ga K "InvalidCount") ∧ d = none
def Re.vs : Re → List V
  | .op i => [.str "operation", .int i]
  | .dec i => [.str "decode", .int i]
  | .nota i j => [.str "notation", .int i, .int j]
  | .out i j => [.str "out", .int i, .int j]
  | .way z i => [.str "way", .str z, .int i]
  | .num => [.str "number"]
  | .post => [.str "post"]
  | .contra => [.str "contradiction"]
  | .count => [.str "count"]
def IsRe (H : Hp) (v : V) (t : Re) : Prop := ∃ p, v = .ref p ∧ H p = some (.tup t.vs)
theorem IsRe.up {K : PySem.W.Frag} {H H' : Hp} {v : V} {t : Re} (h : IsRe H v t) (k : Kp K H H') : IsRe H' v t := by
  obtain ⟨p, e, h⟩ := h
  exact ⟨p, e, k.tup h⟩
def tellR (K : PySem.W.Frag) (t : Re) (Q : VK) : XK := fun cls d H => exRe K t cls d H ∧ ∀ H' v, Same H H' → IsRe H' v t → Q v H'
def spRaised (P : Program) (w : World) (K : PySem.W.Frag) (mg : Str → Option Value) (base : Heap) (kk : Nat) (ok : Re → Bool) : Sp := fun vs H Q _ => ∃ (f : Addr) (R : VK → XK → Prop), vs = [.ref f] ∧ IsFn f H ∧ Cb P w K mg base kk f H R ∧
  ∀ (Q' : VK) (E : XK), (∀ v H', Q .non H' → Q' v H') → (∀ t cls d H', ok t = true → tellR K t Q cls d H' → E cls d H') → R Q' E
def dV : V → PyData
  | .int i => .int i
  | .str z => .str z
  | .bl b => .bool b
  | _ => .none
theorem dp_flat {K : PySem.W.Frag} {H : Hp} : ∀ {vs : List V}, vs.all flatV = true → DpAll K H vs (vs.map dV)
  | [], _ => .nil
  | v :: vs, h => by
    rw [List.all_cons, Bool.and_eq_true] at h
    refine .cons ?_ (dp_flat h.2)
    cases v with
    | non => exact .non
    | bl b => exact .bl b
    | int i => exact .int i
    | str z => exact .str z
    | _ => exact absurd (show false = true from h.1) Bool.false_ne_true
def dRe (t : Re) : PyData := .tuple (t.vs.map dV)
theorem re_flat (t : Re) : t.vs.all flatV = true := by cases t <;> rfl
theorem dp_re {K : PySem.W.Frag} {H : Hp} {v : V} {t : Re} (h : IsRe H v t) : Dp K H v (dRe t) := by
  obtain ⟨p, rfl, h⟩ := h
  exact .tup (SqT.of h) (dp_flat (re_flat t))
end OilLaw
set_option Elab.async false
set_option linter.all false
set_option maxRecDepth 100000
set_option maxHeartbeats 2000000
set_option pp.maxSteps 4000
namespace OilLaw
open PySem PySem.Spec PyProof.Rows L2 Oil
local macro_rules | `(tactic| walk_at "kp") => `(tactic| first
  | exact Kp.refl
  | assumption
  | exact Same.kp (by assumption)
  | (refine Kp.tr (Same.kp ?_) ?_; assumption; walk_at "kp")
  | (refine Kp.tr ?_ ?_; assumption; walk_at "kp"))
local macro_rules | `(tactic| walk_at "same") => `(tactic| first
  | exact Same.refl _
  | assumption
  | (refine Same.tr ?_ ?_; assumption; walk_at "same"))
local macro_rules | `(tactic| walk_at "rp") => `(tactic| first
  | assumption
  | (refine IsSt.up ?_ ?_; assumption; walk_at "kp")
  | (refine IsWy.up ?_ ?_; assumption; walk_at "kp")
  | (refine IsPs.up ?_ ?_; assumption; walk_at "kp")
  | (refine IsPr.up ?_ ?_; assumption; walk_at "kp")
  | (refine Kp.tup ?_ ?_; rotate_left; assumption; walk_at "kp"))
/-! ### live walks -/
abbrev rGo : List V → Hp → List (Str × V) → Prop := fun ws _ fs => ∃ i j : Int, -1000000000 ≤ i ∧ i ≤ 1000000000 ∧ -1000000000 ≤ j ∧ j ≤ 1000000000 ∧ ws = [.int i, .int j] ∧ fs = [(("steps" : Str), V.int j), (("legs" : Str), V.int i)]
abbrev rOp : List V → Hp → List (Str × V) → Prop := fun ws _ fs => ∃ i : Int, -1000000000 ≤ i ∧ i ≤ 1000000000 ∧ ws = [.int i] ∧ fs = [(("index" : Str), V.int i)]
def spOneLeg (K : PySem.W.Frag) : Sp := fun vs H Q _ => ∃ v w, ∃ (i : Nat) (o : Int), vs = [v, .int (i : Nat), .int o] ∧ IsWy K H v w ∧ i < w.posts.length ∧ ∀ H' p, Same H H' → H' p = some (.tup [vN (w.step i o), .int (min w.cap (o + (w.at i).1))]) → Q (.ref p) H'
def spLwInit (K : PySem.W.Frag) : Sp := fun vs H Q E => ∃ x dx v w p o, vs = [.ref x, v, p, o] ∧ H x = some (.ins (He.ga K "LiveWalk") dx []) ∧ IsWy K H v w ∧ Typd H p ∧ Typd H o ∧
  (∀ (i : Nat) (ol : Int), p = .int i → o = .int ol → i < w.posts.length → 0 ≤ ol → ol ≤ w.cap → ∀ H' c, c.op = false → (∀ b o, b ≠ x → H b = some o → H' b = some o) → IsLw K H' x c (lw0 w i ol) → Q .non H') ∧
  (inRg 0 (w.posts.length - 1) p = false → E (.ref (He.ga K "UnknownPost")) none H) ∧ (inRg 0 (w.posts.length - 1) p = true → inRg 0 w.cap o = false → E (.ref (He.ga K "InvalidNumber")) none H)
def spEnter (K : PySem.W.Frag) : Sp := fun vs H Q _ => ∃ a c x d s dv sv, vs = [.ref a, dv, sv] ∧ IsLw K H a c x ∧ IsDd H dv d ∧ IsSc K H sv s ∧ s.ok ∧ x.done.length < 900 ∧ ∀ H', But a H H' → Kp K H H' → IsLw K H' a c (x.enter d s) → Q .non H'
def spWalk (K : PySem.W.Frag) : Sp := fun vs H Q E => ∃ a c x v, vs = [.ref a, v] ∧ IsLw K H a c x ∧ x.done.length < 900 ∧ Typd H v ∧ (inRg 0 1000 v = false → E (.ref (He.ga K "InvalidNumber")) none H) ∧
  ∀ n : Nat, v = .int n → n ≤ 1000 →
    (∀ j u d H', j < n → x.sc.way.walk x.sc.post x.sc.oil j = some u → x.sc.way.walk x.sc.post x.sc.oil (j + 1) = none → Same H H' → H' d = some (.xd [(("steps" : Str), V.int (min x.sc.way.cap (u + (x.sc.way.at (x.sc.post + j)).1))), (("legs" : Str), V.int (j : Nat))]) → E (.ref (He.ga K "GoesOut")) (some d) H') ∧
    (∀ (u : Int) (xs : List Int) (l : Addr) (H' : Hp), x.sc.way.walk x.sc.post x.sc.oil n = some u → xs.length = n → (∀ j, j < xs.length → x.sc.way.walk x.sc.post x.sc.oil (j + 1) = xs[j]?) → But a H H' → Kp K H H' → IsLw K H' a c (x.enter (.walk n) (x.sc.walked n u)) → H' l = some (.lst (xs.map V.int)) → H l = none → Q (.ref l) H')
def spSpill (K : PySem.W.Frag) : Sp := fun vs H Q E => ∃ a c x v, vs = [.ref a, v] ∧ IsLw K H a c x ∧ x.done.length < 900 ∧ Typd H v ∧ (inRg 0 x.sc.oil v = false → E (.ref (He.ga K "InvalidNumber")) none H) ∧
  ∀ o, v = .int o → 0 ≤ o → o ≤ x.sc.oil → ∀ H', But a H H' → Kp K H H' → IsLw K H' a c (x.enter (.spill o) (x.sc.spill o)) → Q (.int (x.sc.oil - o)) H'
def spRefill (K : PySem.W.Frag) : Sp := fun vs H Q E => ∃ a c x p v, vs = [.ref a, p, v] ∧ IsLw K H a c x ∧ x.done.length < 900 ∧ Typd H p ∧ Typd H v ∧ (inRg 0 (x.sc.way.posts.length - 1) p = false → E (.ref (He.ga K "UnknownPost")) none H) ∧ (inRg 0 (x.sc.way.posts.length - 1) p = true → inRg 0 1000000000 v = false → E (.ref (He.ga K "InvalidNumber")) none H) ∧
  ∀ (i : Nat) (o : Int), p = .int i → v = .int o → i < x.sc.way.posts.length → 0 ≤ o → o ≤ 1000000000 → ∀ H', But a H H' → Kp K H H' → IsLw K H' a c (x.enter (.refill i o) (x.sc.refill i o)) → Q (.int (x.sc.way.at i).1) H'
def spTrade (K : PySem.W.Frag) : Sp := fun vs H Q E => ∃ a c x v, vs = [.ref a, v] ∧ IsLw K H a c x ∧ x.done.length < 900 ∧ Typd H v ∧ (inRg 1 1000000000 v = false → E (.ref (He.ga K "InvalidNumber")) none H) ∧
  ∀ o, v = .int o → 1 ≤ o → o ≤ 1000000000 → ∀ H', But a H H' → Kp K H H' → IsLw K H' a c (x.enter (.trade o) (x.sc.trade o)) → Q (.int (max 0 (x.sc.oil - o))) H'
def spUndo (K : PySem.W.Frag) : Sp := fun vs H Q _ => ∃ a c x, vs = [.ref a] ∧ IsLw K H a c x ∧ x.undone.length < 900 ∧ (x.done = [] → ∀ H', Same H H' → Q (.bl false) H') ∧
  ∀ ds d s, x.done = ds ++ [(d, s)] → ∀ H', But a H H' → Kp K H H' → IsLw K H' a c ⟨s, ds, x.undone ++ [(d, x.sc)]⟩ → Q (.bl true) H'
def spRedo (K : PySem.W.Frag) : Sp := fun vs H Q _ => ∃ a c x, vs = [.ref a] ∧ IsLw K H a c x ∧ x.done.length < 900 ∧ (x.undone = [] → ∀ H', Same H H' → Q (.bl false) H') ∧
  ∀ us d s, x.undone = us ++ [(d, s)] → ∀ H', But a H H' → Kp K H H' → IsLw K H' a c ⟨s, x.done ++ [(d, x.sc)], us⟩ → Q (.bl true) H'
def spLwWay (K : PySem.W.Frag) : Sp := fun vs H Q _ => ∃ a c x, vs = [.ref a] ∧ IsLw K H a c x ∧ ∀ v, IsWy K H v x.sc.way → Q v H
def spLwInt (K : PySem.W.Frag) (g : Sc → Int) : Sp := fun vs H Q _ => ∃ a c x, vs = [.ref a] ∧ IsLw K H a c x ∧ Q (.int (g x.sc)) H
def spLwHist (K : PySem.W.Frag) : Sp := fun vs H Q _ => ∃ a c x, vs = [.ref a] ∧ IsLw K H a c x ∧ ∀ H' l us, Same H H' → H l = none → H' l = some (.lst us) → Paired (IsDd H') us (x.done.map (·.1)) → Q (.ref l) H'
section
variable {P : Program} {w : World} {K : PySem.W.Frag} {mg : Str → Option Value} {base : Heap}
theorem sc_one_leg : FnScope ["way", "post", "oil", "there", "steps", "full"] ["way", "post", "oil"] (defScope s_one_leg) := ⟨rfl, rfl, rfl, by decide +kernel, rfl, by decide +kernel, by decide +kernel⟩
theorem ok_one_leg (T : Txt K mg) : FnR P w K mg base (L2.CX P w) 5 (He.ga K "one_leg") (spOneLeg K) := by
  refine fnr T.d_one_leg sc_one_leg (fun _ _ _ _ _ _ us hl => match us, hl with | [_, _, _], _ => rfl) (fun vs H Q E h => ?_) fun cdv A outer s H vs Q E hr h => ?_
  · obtain ⟨v, wy, i, o, rfl, _⟩ := h
    rfl
  · obtain ⟨v, wy, i, o, rfl, hw, hi, q⟩ := h
    have C := Cal.body (P := P) (w := w) (K := K) (mg := mg) (base := base) (N := ["way", "post", "oil", "there", "steps", "full"]) (outer := outer) (H := H) (E := E) hr
    have hnd := sc_one_leg.nd
    refine lv_cons (sv_asg (ev_getW T C (by decide) (ev_var 0 rfl (ev_var 1 rfl ⟨wy, i, hw, rfl, hi, fun p hp => gv_tup C.calm (SqT.of hp) rfl (gsv_cons (gv_name 3 (gsv_cons (gv_name 4 (gsv_nil ?_) hnd)) hnd))⟩))))
    refine lv_cons (sv_set 5 (ev_callB C.calm (call_min2 C.calm) T.b_min (av_cons (ev_capW T C (by decide) (ev_var 0 rfl ⟨wy, hw, av_cons (ev_bin op_add (ev_var 2 rfl (ev_var 3 rfl (i2 (av_nil ⟨_, _, rfl, ?_⟩)))))⟩)))) hnd)
    have em : (if o + (wy.at i).1 < wy.cap then o + (wy.at i).1 else wy.cap) = min wy.cap (o + (wy.at i).1) := by split <;> omega
    rw [em]
    refine lv_one (sv_ret (ev_tup (av_cons (ev_if (tv_cmp op_ge (ev_var 5 rfl (ev_var 4 rfl (ti2 (fun h => ?_) fun h => ?_))))))))
    · refine ev_bin op_sub (ev_var 5 rfl (ev_var 4 rfl (i2 (av_cons (ev_var 5 rfl (av_nil ⟨by show 2 ≤ sizeLine; decide, fun H1 p1 S1 h1 z1 => q H1 p1 S1 ?_⟩))))))
      unfold Wy.step
      rw [if_neg (by omega)]
      exact h1
    · refine ev_non (av_cons (ev_var 5 rfl (av_nil ⟨by show 2 ≤ sizeLine; decide, fun H1 p1 S1 h1 z1 => q H1 p1 S1 ?_⟩)))
      unfold Wy.step
      rw [if_pos (by omega)]
      exact h1
/-- LiveWalk(w, i, o) -/
theorem lw_made {X : Cx} {Q : Addr → Hp → Prop} {E : XK} {vs : List V} {H1 : Hp} (h : ∃ v w p o, vs = [v, p, o] ∧ IsWy X.K H1 v w ∧ Typd H1 p ∧ Typd H1 o ∧ (∀ (i : Nat) (ol : Int), p = .int i → o = .int ol → i < w.posts.length → 0 ≤ ol → ol ≤ w.cap → ∀ H' a c, c.op = false → Same H1 H' → H1 a = none → IsLw X.K H' a c (lw0 w i ol) → Q a H') ∧
    (inRg 0 (w.posts.length - 1) p = false → ∀ H', Same H1 H' → E (.ref (He.ga X.K "UnknownPost")) none H') ∧ (inRg 0 (w.posts.length - 1) p = true → inRg 0 w.cap o = false → ∀ H', Same H1 H' → E (.ref (He.ga X.K "InvalidNumber")) none H')) :
    ∀ x dx, H1 x = Option.none → H1 dx = Option.none → dx ≠ x → spLwInit X.K (V.ref x :: vs) (upd (upd H1 dx (.own x)) x (.ins (He.ga X.K "LiveWalk") dx [])) (fun v H2 => v = .non ∧ Q x H2) E := by
  obtain ⟨v, w, p, o, rfl, hw, tp, to, q1, q2, q3⟩ := h
  intro x dx hx hdx ne
  have S0 : Same H1 (upd (upd H1 dx (.own x)) x (.ins (He.ga X.K "LiveWalk") dx [])) := Same.trans (same_upd hdx) (same_upd (by rw [upd_ne (Ne.symm ne)]; exact hx))
  refine ⟨x, dx, v, w, p, o, rfl, upd_same, hw.upS S0, typd_up tp S0, typd_up to S0, fun i ol e e' hi h0 h1 H' c hc B hl => ⟨rfl, ?_⟩, fun e => q2 e _ S0, fun e e' => q3 e e' _ S0⟩
  exact q1 i ol e e' hi h0 h1 H' x c hc (fun b o e => B b o (ne_of_none e hx) (S0 b o e)) hx hl
end
end OilLaw
set_option Elab.async false
set_option linter.all false
set_option maxRecDepth 100000
set_option maxHeartbeats 2000000
set_option pp.maxSteps 4000
namespace OilLaw
open PySem PySem.Spec PyProof.Rows L2 Oil
local macro_rules | `(tactic| walk_at "kp") => `(tactic| first
  | exact Kp.refl
  | assumption
  | exact Same.kp (by assumption)
  | (refine Kp.tr (Same.kp ?_) ?_; assumption; walk_at "kp")
  | (refine Kp.tr ?_ ?_; assumption; walk_at "kp"))
local macro_rules | `(tactic| walk_at "same") => `(tactic| first
  | exact Same.refl _
  | assumption
  | (refine Same.tr ?_ ?_; assumption; walk_at "same"))
local macro_rules | `(tactic| walk_at "rp") => `(tactic| first
  | assumption
  | (refine IsSt.up ?_ ?_; assumption; walk_at "kp")
  | (refine IsWy.up ?_ ?_; assumption; walk_at "kp")
  | (refine IsPs.up ?_ ?_; assumption; walk_at "kp")
  | (refine IsPr.up ?_ ?_; assumption; walk_at "kp")
  | (refine Kp.tup ?_ ?_; rotate_left; assumption; walk_at "kp"))
/-! ### ways as text -/
section
open TL
def spFormatWay (K : PySem.W.Frag) : Sp := fun vs H Q _ => ∃ v w, vs = [v] ∧ IsWy K H v w ∧ ∀ H' z, Same H H' → tl z = wyL w → Q (.str z) H'
def spNumeral : Sp := fun vs H Q _ => ∃ i : Int, vs = [.str (tNum i)] ∧ 0 ≤ i ∧ i < 10000000000 ∧ ∀ H', Same H H' → Q (.bl true) H'
def spNumbers : Sp := fun vs H Q _ => ∃ (r c : Int) (hd : Str) (ns : List Int), vs = [.int r, .str (Txt.join txSp (hd :: ns.map tNum)), .str hd, .int c] ∧ (32 ∉ tl hd) ∧ hd.length ≤ 10 ∧ c = ns.length ∧ ns.length ≤ 3 ∧ (∀ n ∈ ns, 0 ≤ n ∧ n < 10000000000) ∧ ∀ H' p, Same H H' → H' p = some (.tup (ns.map V.int)) → Q (.ref p) H'
def spParseWay (K : PySem.W.Frag) : Sp := fun vs H Q _ => ∃ z w, vs = [.str z] ∧ w.ok ∧ tl z = wyL w ∧ ∀ H' v, Same H H' → IsWy K H' v w → Q v H'
theorem rowLan_text {w : Wy} (h : w.ok) {z : Str} (e : tl z = rowLan w) : z = Txt.join txSp (lantS :: [w.cap].map tNum) := by
  have := h.c1
  refine ext_tl ?_
  rw [tl_joinT, tl_spS, e]
  show rowLan w = tl lantS ++ ([32] ++ tl (tNum w.cap))
  rw [tl_tNum (by omega)]
  rfl
theorem rowPost_text {p : Int × Int} (h : okP p) {z : Str} (e : tl z = rowPost p) : z = Txt.join txSp (postS :: [p.1, p.2].map tNum) := by
  obtain ⟨a, b, c, d⟩ := h
  refine ext_tl ?_
  rw [tl_joinT, tl_spS, e]
  show rowPost p = tl postS ++ ([32] ++ (tl (tNum p.1) ++ ([32] ++ tl (tNum p.2))))
  rw [tl_tNum (by omega), tl_tNum (by omega)]
  unfold rowPost
  simp
theorem num_no32 (n : Nat) : 32 ∉ numL n := numL_free (.inl (by decide))
theorem num_no10 (n : Nat) : 10 ∉ numL n := numL_free (.inl (by decide))
section
variable {P : Program} {w : World} {K : PySem.W.Frag} {mg : Str → Option Value} {base : Heap}
theorem sc_is_numeral : FnScope ["word", "digit"] ["word"] (defScope s_is_numeral) := ⟨rfl, rfl, rfl, by decide +kernel, rfl, by decide +kernel, by decide +kernel⟩
theorem ok_is_numeral (T : Txt K mg) : FnR P w K mg base (L2.CX P w) 1 (He.ga K "is_numeral") spNumeral := by
  refine fnr T.d_is_numeral sc_is_numeral (fun _ _ _ _ _ _ us hl => match us, hl with | [_], _ => rfl) (fun vs H Q E h => ?_) fun cdv A outer s H vs Q E hr h => ?_
  · obtain ⟨i, rfl, _⟩ := h
    rfl
  · obtain ⟨i, rfl, h0, h1, q⟩ := h
    have C := Cal.body (P := P) (w := w) (K := K) (mg := mg) (base := base) (N := ["word", "digit"]) (outer := outer) (H := H) (E := E) hr
    have hnd := sc_is_numeral.nd
    obtain ⟨l1, l2⟩ := tNum_len h0 h1
    have hz : (tNum i).length ≤ sizeLine := by rw [sizeLine_eq]; omega
    have etl := tl_tNum h0
    refine lv_cut (fun σ2 H2 => Same H H2 ∧ ∃ x1, σ2 = [some (.str (tNum i)), x1]) ?_ ?_
    · refine sv_if (tv_w (wv_or (tv_not (tv_chain op_le op_le (ev_int (ev_callB C.calm call_len_str T.b_len (av_cons (ev_var 0 rfl (av_nil ⟨_, rfl, hz, ic2 (fun _ => ev_gint T.k_MAX_DIGITS (ti2 (fun _ => ?_) fun h => absurd (by omega) h)) fun h => absurd (by omega) h⟩)))))))))
      refine wv_or1 (tv_not (tv_val (ev_callB C.calm (cr_all C.calm) T.b_all (av_cons (ev_lcS [("digit", 1)] C.calm hnd (ev_var 0 rfl ⟨_, rfl, fun D zD => ⟨fun j H' => Same H H' ∧ H' D = some (.lst ((List.replicate j true).map V.bl)), ⟨same_upd zD, upd_same⟩, fun j c H' hc hp => ?_, fun H' hp => ?_⟩⟩))))))
      · obtain ⟨S, hD⟩ := hp
        rw [etl] at hc
        have hlen := numL_len10 (n := i.toNat) (by omega)
        have hj := (List.getElem?_eq_some_iff.mp hc).1
        have hmem : c ∈ numL i.toNat := List.mem_of_getElem? hc
        have hd : 48 ≤ c ∧ c ≤ 57 := by
          have := numL_digits i.toNat
          by_cases hh : c < 48 ∨ 57 < c
          · exact absurd hmem (numL_free hh)
          · omega
        intro Y hY
        obtain ⟨s0, H0, C0, cl, fp, rfl⟩ := hY
        refine gv_name 1 ⟨rfl, fun Y2 hY2 => ?_⟩ hnd
        obtain ⟨s0, H0, C0, cl, fp, rfl⟩ := hY2
        refine ev_cmp op_in_sign (ev_var 1 rfl (ev_gstr T.k_DIGITS ⟨c, _, rfl, rfl, _, hD, by rw [sizeLine_eq]; simp; omega, same_upd' S zD, ?_⟩))
        rw [upd_same, List.replicate_succ', List.map_append]
        have e : decide (c ∈ (("0123456789" : Str)).cps.toList) = true := decide_eq_true (digit_in hd.1 hd.2)
        rw [e]
        rfl
      · obtain ⟨S, hD⟩ := hp
        exact av_nil ⟨D, _, rfl, SqL.of hD, _, rfl, br_kt (by simp) (lv_nil ⟨S, _, rfl⟩)⟩
    · rintro σ2 H2 ⟨S2, x1, rfl⟩
      by_cases hi : i = 0
      · subst hi
        have e0 : tNum 0 = "0" := by decide +kernel
        refine lv_one (sv_ret (ev_orV (ev_cmp op_eq (ev_var 0 rfl (ev_str ⟨by rfl, _, rfl, ?_⟩)))))
        rw [decide_eq_true (by rw [e0])]
        exact q H2 S2
      · obtain ⟨c, r, e, hc⟩ := numL_head i.toNat (by omega)
        have hne : ¬ V.str (tNum i) = V.str "0" := vstr_ne fun z => by
          have h2 := congrArg tl z
          rw [etl, e, show tl "0" = [48] from by decide +kernel] at h2
          cases h2
          exact hc rfl
        have hne2 : ¬ V.str ⟨#[c]⟩ = V.str "0" := vstr_ne fun z => by
          have h2 := congrArg tl z
          rw [show tl "0" = [48] from by decide +kernel] at h2
          cases h2
          exact hc rfl
        refine lv_one (sv_ret (ev_orV (ev_cmp op_eq (ev_var 0 rfl (ev_str ⟨by rfl, _, rfl, ?_⟩)))))
        rw [decide_eq_false hne]
        refine ev_one (ev_cmp op_ne (ev_ixS (ev_var 0 rfl (ev_int ⟨_, _, c, rfl, rfl, hz, ?_, ev_str ⟨by rfl, ?_⟩⟩))))
        · show atI (tl (tNum i)) 0 = some c
          rw [etl, e]
          exact atI_zero _ _
        · rw [decide_eq_false hne2]
          exact q H2 S2
theorem sc_format_way : FnScope ["way", "rows", "oil", "steps"] ["way"] (defScope s_format_way) := ⟨rfl, rfl, rfl, by decide +kernel, rfl, by decide +kernel, by decide +kernel⟩
theorem ok_format_way (T : Txt K mg) : FnR P w K mg base (L2.CX P w) 3 (He.ga K "format_way") (spFormatWay K) := by
  refine fnr T.d_format_way sc_format_way (fun _ _ _ _ _ _ us hl => match us, hl with | [_], _ => rfl) (fun vs H Q E h => ?_) fun cdv A outer s H vs Q E hr h => ?_
  · obtain ⟨v, w, rfl, _⟩ := h
    rfl
  · obtain ⟨v, wy, rfl, hw, q⟩ := h
    have C := Cal.body (P := P) (w := w) (K := K) (mg := mg) (base := base) (N := ["way", "rows", "oil", "steps"]) (outer := outer) (H := H) (E := E) hr
    have hnd := sc_format_way.nd
    have ok := hw.1
    have c1 := ok.c1
    have c2 := ok.c2
    have n2 := ok.n2
    have le1 : lantS.length = 7 := by decide +kernel
    have le2 : txSp.length = 1 := by decide +kernel
    have le3 : postS.length = 4 := by decide +kernel
    have le4 : nlS.length = 1 := by decide +kernel
    have le0 : (Str.empty).length = 0 := by decide +kernel
    have hcap := (tNum_len (i := wy.cap) (by omega) (by omega)).1
    refine lv_cons (sv_set 1 (ev_bin op_cat (ev_lst (av_cons ?_))) hnd)
    refine ev_fstr (ev_fmtS (ev_gstr T.k_LANTERN ⟨lantS, rfl, by rw [sizeLine_eq]; omega, lantS, rfl, by rw [len_app, sizeLine_eq]; omega, ?_⟩))
    refine ev_str ⟨txSp, rfl, by rw [len_app, len_app, sizeLine_eq]; omega, ?_⟩
    refine ev_fmtI (ev_capW T C (by decide) (ev_var 0 rfl ⟨wy, hw, wy.cap, rfl, log_small (by omega) (by omega), tNum wy.cap, rfl, by rw [len_app, len_app, len_app, sizeLine_eq]; omega, ?_⟩))
    refine av_nil ⟨by show 1 ≤ sizeLine; decide, fun H1 l1 S1 h1 z1 => ?_⟩
    refine ev_lcT [("oil", 2), ("steps", 3)] C.calm hnd (ev_postsW T C (by decide) (ev_var 0 rfl ⟨wy, hw.upS S1, fun t ⟨us, hu, ru⟩ => ⟨t, us, rfl, SqT.of hu, ?_⟩⟩))
    refine lc_prsG 2 3 (fun p v => ∃ z : Str, v = .str z ∧ tl z = rowPost p) ru (by omega) (fun H' S => SqT.of (S _ _ hu)) (fun Y hY p a σ H' R hp r => ?_) (fun Y hY p H' R hp S r => ?_) (fun H2 D ws S2 zD hD pw => ?_)
    · obtain ⟨s0, H0, C0, cl, fp, rfl⟩ := hY
      exact gv_tup C.calm (SqT.of hp) rfl (gsv_cons (gv_name 2 (gsv_cons (gv_name 3 (gsv_nil r) hnd)) hnd))
    · obtain ⟨s0, H0, C0, cl, fp, rfl⟩ := hY
      obtain ⟨a1, a2, a3, a4⟩ := ok.ps p hp
      have hp1 := (tNum_len (i := p.1) (by omega) (by omega)).1
      have hp2 := (tNum_len (i := p.2) (by omega) (by omega)).1
      refine ev_fstr (ev_fmtS (ev_gstr T.k_POST ⟨postS, rfl, by rw [sizeLine_eq]; omega, postS, rfl, by rw [len_app, sizeLine_eq]; omega, ?_⟩))
      refine ev_str ⟨txSp, rfl, by rw [len_app, len_app, sizeLine_eq]; omega, ?_⟩
      refine ev_fmtI (ev_var 2 rfl ⟨p.1, rfl, log_small (by omega) (by omega), tNum p.1, rfl, by rw [len_app, len_app, len_app, sizeLine_eq]; omega, ?_⟩)
      refine ev_str ⟨txSp, rfl, by rw [len_app, len_app, len_app, len_app, sizeLine_eq]; omega, ?_⟩
      refine ev_fmtI (ev_var 3 rfl ⟨p.2, rfl, log_small (by omega) (by omega), tNum p.2, rfl, by rw [len_app, len_app, len_app, len_app, len_app, sizeLine_eq]; omega, ?_⟩)
      refine r _ H' (Same.refl _) ⟨_, rfl, ?_⟩
      rw [tl_append, tl_append, tl_append, tl_append, tl_append, tl_tNum (by omega), tl_tNum (by omega), tl_spS]
      unfold rowPost
      simp [tl, Str.empty]
    · obtain ⟨ys, rfl, hys⟩ := paired_strs pw
      have hyl : ys.length = wy.posts.length := by
        have := congrArg List.length hys
        simpa using this
      refine ⟨l1, D, _, _, rfl, rfl, S2 _ _ h1, hD, ?_, fun p3 z3 => ?_⟩
      · rw [sizeLine_eq, List.length_map]
        simp only [List.length_singleton]
        omega
      have S3 := same_upd (o := HO.lst ([V.str (Str.empty ++ lantS ++ txSp ++ tNum wy.cap)] ++ ys.map V.str)) z3
      have hall : ((Str.empty ++ lantS ++ txSp ++ tNum wy.cap) :: ys).map tl = rowLan wy :: wy.posts.map rowPost := by
        rw [List.map_cons, hys, tl_append, tl_append, tl_append, tl_tNum (by omega), tl_spS]
        unfold rowLan
        simp [tl, Str.empty]
      refine lv_one (sv_ret (ev_join (ev_str ⟨nlS, rfl, ev_var 1 rfl ⟨p3, (Str.empty ++ lantS ++ txSp ++ tNum wy.cap) :: ys, rfl, SqL.of upd_same, ?_, ?_⟩⟩)))
      · have := strs_len (k := 30) hall fun l hl => by
          rcases List.mem_cons.mp hl with rfl | hl
          · exact rowLan_len ok
          · obtain ⟨p, hp, rfl⟩ := List.mem_map.mp hl
            exact rowPost_len (ok.ps p hp)
        rw [le4]
        simp only [List.length_cons] at this ⊢
        omega
      · refine q _ _ (S1.trans (S2.trans S3)) ?_
        rw [tl_joinT, tl_nlS, hall]
        rfl
theorem sc_numbers_of : FnScope ["row", "line", "head", "count", "words", "number", "word"] ["row", "line", "head", "count"] (defScope s_numbers_of) := ⟨rfl, rfl, rfl, by decide +kernel, rfl, by decide +kernel, by decide +kernel⟩
theorem ok_numbers_of (T : Txt K mg) : FnR P w K mg base (L2.CX P w) 2 (He.ga K "numbers_of") spNumbers := by
  refine fnr T.d_numbers_of sc_numbers_of (fun _ _ _ _ _ _ us hl => match us, hl with | [_, _, _, _], _ => rfl) (fun vs H Q E h => ?_) fun cdv A outer s H vs Q E hr h => ?_
  · obtain ⟨r, c, hd, ns, rfl, _⟩ := h
    rfl
  · obtain ⟨r, c, hd, ns, rfl, h32, hdl, rfl, hn3, hns, q⟩ := h
    have C := Cal.body (P := P) (w := w) (K := K) (mg := mg) (base := base) (N := ["row", "line", "head", "count", "words", "number", "word"]) (outer := outer) (H := H) (E := E) hr
    have hnd := sc_numbers_of.nd
    have hsp : Txt.split (Txt.join txSp (hd :: ns.map tNum)) txSp = hd :: ns.map tNum := split_join tl_spS (by decide +kernel) (by simp) fun p hp => by
      rcases List.mem_cons.mp hp with rfl | hp
      · exact h32
      · obtain ⟨n, hn, rfl⟩ := List.mem_map.mp hp
        rw [tl_tNum (hns n hn).1]
        exact num_no32 _
    have hline : (Txt.join txSp (hd :: ns.map tNum)).length ≤ 100 := by
      rw [len_tl, tl_joinT, tl_spS]
      have l1 : ∀ n ∈ ns, (tl (tNum n)).length ≤ 10 := fun n hn => by
        rw [← len_tl]
        exact (tNum_len (hns n hn).1 (hns n hn).2).1
      have hd1 : (tl hd).length ≤ 10 := by rw [← len_tl]; exact hdl
      match ns, hn3, l1 with
      | [], _, _ => show (tl hd).length ≤ 100; omega
      | [a], _, l1 =>
        have := l1 a (by simp)
        show (tl hd ++ ([32] ++ tl (tNum a))).length ≤ 100
        simp only [List.length_append, List.length_singleton]
        omega
      | [a, b], _, l1 =>
        have := l1 a (by simp)
        have := l1 b (by simp)
        show (tl hd ++ ([32] ++ (tl (tNum a) ++ ([32] ++ tl (tNum b))))).length ≤ 100
        simp only [List.length_append, List.length_singleton]
        omega
      | [a, b, c], _, l1 =>
        have := l1 a (by simp)
        have := l1 b (by simp)
        have := l1 c (by simp)
        show (tl hd ++ ([32] ++ (tl (tNum a) ++ ([32] ++ (tl (tNum b) ++ ([32] ++ tl (tNum c))))))).length ≤ 100
        simp only [List.length_append, List.length_singleton]
        omega
      | _ :: _ :: _ :: _ :: _, h, _ => simp at h
    refine lv_cons (sv_set 4 (ev_split (ev_var 1 rfl ⟨_, rfl, ev_str ⟨txSp, rfl, by decide +kernel, by rw [sizeLine_eq]; omega, fun H1 D S1 zD hD => ?_⟩⟩)) hnd)
    rw [hsp] at hD
    have hlw : ((hd :: ns.map tNum).map V.str).length = ns.length + 1 := by simp
    refine lv_cons (sv_if (tv_cmp op_ne (ev_ixL (ev_var 4 rfl (ev_int ⟨D, _, _, _, rfl, rfl, SqL.of hD, atI_zero _ _, ev_var 2 rfl (tne (by rfl) (fun h => absurd rfl h) fun _ => lv_nil ?_)⟩)))))
    refine lv_cut (fun σ2 H2 => Same H1 H2 ∧ ∃ x5, σ2 = [some (.int r), some (.str (Txt.join txSp (hd :: ns.map tNum))), some (.str hd), some (.int ns.length), some (.ref D), x5, none]) ?_ ?_
    · refine sv_forR2 C.calm C.po T.b_range (ev_int (ev_bin op_add (ev_var 3 rfl (ev_int (i2 ⟨1, (ns.length : Int) + 1, rfl, rfl, ⟨by omega, by omega, by omega, by omega⟩, fun j σ' H' => Same H1 H' ∧ ∃ x5, σ' = [some (.int r), some (.str (Txt.join txSp (hd :: ns.map tNum))), some (.str hd), some (.int ns.length), some (.ref D), x5, none], ⟨Same.refl _, none, rfl⟩, fun j σ' H' hj hp => ?_, fun σ' H' hp => hp⟩)))))
      obtain ⟨S, x5, rfl⟩ := hp
      have hj' : j < ns.length := by omega
      have hat : ((hd :: ns.map tNum).map V.str)[j + 1]? = some (V.str (tNum ns[j])) := by
        rw [List.getElem?_map, List.getElem?_cons_succ, List.getElem?_map, List.getElem?_eq_getElem hj']
        rfl
      have hnj := hns ns[j] (List.getElem_mem hj')
      refine gv_name 5 ?_ hnd
      refine lv_one (sv_if (tv_w (wv_or (tv_cmp op_ge (ev_var 5 rfl (ev_lenL C T.b_len (ev_var 4 rfl ⟨D, _, rfl, SqL.of (S _ _ hD), ti2 (fun h => absurd h (by rw [hlw]; omega)) fun _ => ?_⟩)))))))
      refine wv_or1 (tv_not (tv_val (ev_call C (ok_is_numeral T) (by decide) T.gl_is_numeral (fkp T.d_is_numeral) (av_cons (ev_ixL (ev_var 4 rfl (ev_var 5 rfl ⟨D, _, _, _, rfl, rfl, SqL.of (S _ _ hD), ?_, av_nil ⟨ns[j], rfl, hnj.1, hnj.2, fun H2 S2 => ⟨true, rfl, lv_nil ⟨S.trans S2, _, rfl⟩⟩⟩⟩)))))))
      rw [show (1 : Int) + (j : Int) = ((j + 1 : Nat) : Int) by omega, atI_eq]
      exact hat
    rintro σ2 H2 ⟨S2, x5, rfl⟩
    refine lv_cons (sv_if (tv_cmp op_gt (ev_lenL C T.b_len (ev_var 4 rfl ⟨D, _, rfl, SqL.of (S2 _ _ hD), ev_bin op_add (ev_var 3 rfl (ev_int (i2 (ti2 (fun h => absurd h (by rw [hlw]; omega)) fun _ => lv_nil ?_))))⟩))))
    refine lv_one (sv_ret (ev_callT call_tuple_of T.b_tuple (av_cons (ev_lcL [("word", 6)] C.calm hnd (ev_fromL (ev_var 4 rfl (ev_int ⟨D, _, 1, rfl, rfl, SqL.of (S2 _ _ hD), fun H3 D3 S3 z3 h3 => ?_⟩)))))))
    rw [show (1 : Int) = ((1 : Nat) : Int) from rfl, cut_from] at h3
    have h3' : H3 D3 = some (.lst ((ns.map tNum).map V.str)) := h3
    refine ⟨D3, _, rfl, SqL.of h3', ?_⟩
    refine lc_lstP 6 (fun j H' v => ∃ n, ns[j]? = some n ∧ v = .int n) (by simp; omega) (fun H' S => SqL.of (S _ _ h3')) (fun i H H' v h _ => h) (by rintro Y ⟨s0, H0, C0, cl, fp, rfl⟩ v σ H R r; exact gv_name 6 r hnd) (fun Y hY i x H' R hx S r => ?_) (fun H4 D4 vs S4 z4 h4 hl4 hv4 => ?_)
    · obtain ⟨s0, H0, C0, cl, fp, rfl⟩ := hY
      obtain ⟨n, hn, rfl⟩ : ∃ n, ns[i]? = some n ∧ x = .str (tNum n) := by
        rw [List.getElem?_map, List.getElem?_map] at hx
        cases e : ns[i]? with
        | none => rw [e] at hx; cases hx
        | some n => rw [e] at hx; exact ⟨n, rfl, (Option.some.inj hx).symm⟩
      have hnn := hns n (List.mem_of_getElem? hn)
      have hl := (tNum_len hnn.1 hnn.2).1
      obtain ⟨k, rfl⟩ : ∃ k : Nat, n = k := ⟨n.toNat, by omega⟩
      have hk := numL_len10 (n := k) (by omega)
      exact ev_callT call_int_str T.b_int (av_cons (ev_var 6 rfl (av_nil ⟨_, _, rfl, int_num (n := k) (by omega), by show (tNum _).length ≤ 640; omega, r H' _ (Same.refl _) ⟨_, hn, rfl⟩⟩)))
    · have evs : vs = ns.map V.int := by
        refine List.ext_getElem? fun j => ?_
        by_cases hj : j < vs.length
        · obtain ⟨n, e1, e2⟩ := hv4 j vs[j] (List.getElem?_eq_getElem hj)
          rw [List.getElem?_eq_getElem hj, List.getElem?_map, e1, e2]
          rfl
        · rw [List.getElem?_eq_none (by omega), List.getElem?_eq_none (by rw [hl4] at hj; simp at hj ⊢; omega)]
      subst evs
      exact av_nil ⟨D4, _, rfl, .inl ⟨SqL.of h4, fun l hl => q _ l (S1.trans (S2.trans (S3.trans (S4.trans (same_upd hl))))) upd_same⟩⟩
end
end
end OilLaw
set_option Elab.async false
set_option linter.all false
set_option maxRecDepth 100000
set_option maxHeartbeats 2000000
set_option pp.maxSteps 4000
namespace OilLaw
open PySem PySem.Spec PyProof.Rows L2 Oil
local macro_rules | `(tactic| walk_at "kp") => `(tactic| first
  | exact Kp.refl
  | assumption
  | exact Same.kp (by assumption)
  | (refine Kp.tr (Same.kp ?_) ?_; assumption; walk_at "kp")
  | (refine Kp.tr ?_ ?_; assumption; walk_at "kp"))
local macro_rules | `(tactic| walk_at "same") => `(tactic| first
  | exact Same.refl _
  | assumption
  | (refine Same.tr ?_ ?_; assumption; walk_at "same"))
local macro_rules | `(tactic| walk_at "rp") => `(tactic| first
  | assumption
  | (refine IsSt.up ?_ ?_; assumption; walk_at "kp")
  | (refine IsWy.up ?_ ?_; assumption; walk_at "kp")
  | (refine IsPs.up ?_ ?_; assumption; walk_at "kp")
  | (refine IsPr.up ?_ ?_; assumption; walk_at "kp")
  | (refine Kp.tup ?_ ?_; rotate_left; assumption; walk_at "kp"))
/-! ### a way's text read; logs -/
section
open TL
def lanRow (w : Wy) : Str := Txt.join txSp (lantS :: [w.cap].map tNum)
def postRow (p : Int × Int) : Str := Txt.join txSp (postS :: [p.1, p.2].map tNum)
theorem tl_lanRow {w : Wy} (h : w.ok) : tl (lanRow w) = rowLan w := by
  have := h.c1
  unfold lanRow
  rw [tl_joinT, tl_spS]
  show tl lantS ++ ([32] ++ tl (tNum w.cap)) = rowLan w
  rw [tl_tNum (by omega)]
  rfl
theorem tl_postRow {p : Int × Int} (h : okP p) : tl (postRow p) = rowPost p := by
  obtain ⟨a, b, c, d⟩ := h
  unfold postRow
  rw [tl_joinT, tl_spS]
  show tl postS ++ ([32] ++ (tl (tNum p.1) ++ ([32] ++ tl (tNum p.2)))) = rowPost p
  rw [tl_tNum (by omega), tl_tNum (by omega)]
  unfold rowPost
  simp
theorem row_no10 {w : Wy} : 10 ∉ rowLan w := by
  unfold rowLan
  simp only [List.mem_append, List.mem_cons, not_or]
  exact ⟨by decide +kernel, by decide, num_no10 _⟩
theorem row_no10' {p : Int × Int} : 10 ∉ rowPost p := by
  unfold rowPost
  simp only [List.mem_append, List.mem_cons, not_or]
  exact ⟨by decide +kernel, by decide, num_no10 _, by decide, num_no10 _⟩
theorem way_split {w : Wy} (h : w.ok) {z : Str} (e : tl z = wyL w) : Txt.split z nlS = lanRow w :: w.posts.map postRow := by
  have hall : (lanRow w :: w.posts.map postRow).map tl = rowLan w :: w.posts.map rowPost := by
    rw [List.map_cons, tl_lanRow h, List.map_map]
    congr 1
    exact List.map_congr_left fun p hp => tl_postRow (h.ps p hp)
  have ez : z = Txt.join nlS (lanRow w :: w.posts.map postRow) := by
    refine ext_tl ?_
    rw [tl_joinT, tl_nlS, hall, e]
    rfl
  rw [ez]
  refine split_join tl_nlS (by decide +kernel) (by simp) fun p hp => ?_
  have hm : tl p ∈ rowLan w :: w.posts.map rowPost := by rw [← hall]; exact List.mem_map.mpr ⟨p, hp, rfl⟩
  rcases List.mem_cons.mp hm with e1 | e1
  · rw [e1]
    exact row_no10
  · obtain ⟨q, hq, e2⟩ := List.mem_map.mp e1
    rw [← e2]
    exact row_no10'
theorem wyL_len {w : Wy} (h : w.ok) : (wyL w).length ≤ 1000 := by
  have key : ∀ (ls : List (List Nat)), (∀ l ∈ ls, l.length ≤ 30) → (joinL [10] ls).length ≤ ls.length * 31 := by
    intro ls
    induction ls with
    | nil => intro _; simp [joinL]
    | cons a ls ih =>
      intro hl
      have ha := hl a List.mem_cons_self
      cases ls with
      | nil => show a.length ≤ 1 * 31; omega
      | cons b r =>
        have := ih fun l hm => hl l (List.mem_cons_of_mem _ hm)
        show (a ++ ([10] ++ joinL [10] (b :: r))).length ≤ _
        simp only [List.length_append, List.length_cons, List.length_nil] at this ⊢
        omega
  have := key (rowLan w :: w.posts.map rowPost) fun l hl => by
    rcases List.mem_cons.mp hl with rfl | hl
    · exact rowLan_len h
    · obtain ⟨p, hp, rfl⟩ := List.mem_map.mp hl
      exact rowPost_len (h.ps p hp)
  have n2 := h.n2
  simp only [List.length_cons, List.length_map] at this
  show (joinL [10] (rowLan w :: w.posts.map rowPost)).length ≤ 1000
  omega
def spLog (K : PySem.W.Frag) : Sp := fun vs H Q _ => ∃ v w, ∃ (i n : Nat) (o : Int), vs = [v, .int (i : Nat), .int o, .int (n : Nat)] ∧ IsWy K H v w ∧ i < w.posts.length ∧ 0 ≤ o ∧ o ≤ w.cap ∧ 1 ≤ n ∧ n ≤ 100 ∧ ∀ H' z rs, Same H H' → LogR w i o n rs → tl z = joinL [10] rs → Q (.str z) H'
section
variable {P : Program} {w : World} {K : PySem.W.Frag} {mg : Str → Option Value} {base : Heap}
theorem sc_parse_way : FnScope ["text", "lines", "capacity", "posts", "number", "line"] ["text"] (defScope s_parse_way) := ⟨rfl, rfl, rfl, by decide +kernel, rfl, by decide +kernel, by decide +kernel⟩
theorem ok_parse_way (T : Txt K mg) : FnR P w K mg base (L2.CX P w) 6 (He.ga K "parse_way") (spParseWay K) := by
  refine fnr T.d_parse_way sc_parse_way (fun _ _ _ _ _ _ us hl => match us, hl with | [_], _ => rfl) (fun vs H Q E h => ?_) fun cdv A outer s H vs Q E hr h => ?_
  · obtain ⟨z, w, rfl, _⟩ := h
    rfl
  · obtain ⟨z, wy, rfl, ok, hz, q⟩ := h
    have C := Cal.body (P := P) (w := w) (K := K) (mg := mg) (base := base) (N := ["text", "lines", "capacity", "posts", "number", "line"]) (outer := outer) (H := H) (E := E) hr
    have hnd := sc_parse_way.nd
    have c1 := ok.c1
    have c2 := ok.c2
    have n2 := ok.n2
    have zl : z.length ≤ 1000 := by
      rw [len_tl, hz]
      exact wyL_len ok
    refine lv_cons (sv_set 1 (ev_split (ev_var 0 rfl ⟨z, rfl, ev_str ⟨nlS, rfl, by decide +kernel, by rw [sizeLine_eq]; omega, fun H1 D S1 zD hD => ?_⟩⟩)) hnd)
    rw [way_split ok hz] at hD
    refine lv_cons (sv_set 2 (ev_ixT (ev_call C (ok_numbers_of T) (by decide) T.gl_numbers_of (fkp T.d_numbers_of) (av_cons (ev_int (av_cons (ev_ixL (ev_var 1 rfl (ev_int ⟨D, _, _, _, rfl, rfl, SqL.of hD, atI_zero _ _, av_cons (ev_gstr T.k_LANTERN (av_cons (ev_int (av_nil ⟨0, 1, lantS, [wy.cap], rfl, by decide +kernel, by decide +kernel, rfl, by show 1 ≤ 3; decide, ?_, fun H2 p2 S2 h2 => ev_int ⟨p2, _, _, _, rfl, rfl, h2, atI_zero _ _, ?_⟩⟩))))⟩)))))))) hnd)
    · intro n hn
      rw [List.mem_singleton.mp hn]
      omega
    refine lv_cons (sv_lcE 3 [("number", 4), ("line", 5)] C.calm hnd T.b_enumerate (ev_fromL (ev_var 1 rfl (ev_int ⟨D, _, 1, rfl, rfl, SqL.of (S2 _ _ hD), fun H3 D3 S3 z3 h3 => ?_⟩))))
    rw [show (1 : Int) = ((1 : Nat) : Int) from rfl, cut_from] at h3
    have h3' : H3 D3 = some (.lst ((wy.posts.map postRow).map V.str)) := h3
    refine ⟨D3, _, rfl, SqL.of h3', fun D4 z4 => ⟨fun i H' => Same H3 H' ∧ ∃ ws, H' D4 = some (.lst ws) ∧ ws.length = i ∧ AreP H' ws (wy.posts.take i), ⟨same_upd' (Same.refl _) z4, [], upd_same, rfl, by rw [List.take_zero]; exact .nil⟩, fun i H' _ hp => SqL.of (hp.1 _ _ h3'), fun i x H' T5 hx hp z5 => ?_, fun H' hp => ?_⟩⟩
    · obtain ⟨S, ws, hws, hwl, pw⟩ := hp
      obtain ⟨p, hp5, rfl⟩ : ∃ p, wy.posts[i]? = some p ∧ x = .str (postRow p) := by
        rw [List.getElem?_map, List.getElem?_map] at hx
        cases e : wy.posts[i]? with
        | none => rw [e] at hx; cases hx
        | some p => rw [e] at hx; exact ⟨p, rfl, (Option.some.inj hx).symm⟩
      have hmem := List.mem_of_getElem? hp5
      obtain ⟨a1, a2, a3, a4⟩ := ok.ps p hmem
      have S5 : Same H' (upd H' T5 (.tup [.int (i : Nat), .str (postRow p)])) := same_upd z5
      have h5 : upd H' T5 (.tup [.int (i : Nat), .str (postRow p)]) T5 = some (.tup [.int (i : Nat), .str (postRow p)]) := upd_same
      generalize upd H' T5 (.tup [.int (i : Nat), .str (postRow p)]) = H5 at S5 h5
      have hi := (List.getElem?_eq_some_iff.mp hp5).1
      intro Y hY
      obtain ⟨s0, H0, C0, cl, fp, rfl⟩ := hY
      refine gv_tup C.calm (SqT.of h5) rfl (gsv_cons (gv_name 4 (gsv_cons (gv_name 5 (gsv_nil ⟨rfl, fun Y2 hY2 => ?_⟩) hnd)) hnd))
      obtain ⟨s0, H0, C0, cl, fp, rfl⟩ := hY2
      refine ev_call (Cal.blk C) (ok_numbers_of T) (by decide) T.gl_numbers_of (fkp T.d_numbers_of) (av_cons (ev_bin op_add (ev_var 4 rfl (ev_int (i2 (av_cons (ev_var 5 rfl (av_cons (ev_gstr T.k_POST (av_cons (ev_int (av_nil ⟨_, 2, postS, [p.1, p.2], rfl, by decide +kernel, by decide +kernel, rfl, by show 2 ≤ 3; decide, ?_, fun H6 p6 S6 h6 => ?_⟩))))))))))))
      · intro n hn
        simp only [List.mem_cons, List.not_mem_nil, or_false] at hn
        rcases hn with rfl | rfl <;> omega
      have S56 := S5.trans S6
      have S36 : Same H3 H6 := S.trans S56
      refine ⟨ws, S56 _ _ hws, by rw [sizeLine_eq]; omega, same_upd' S36 z4, ws ++ [.ref p6], upd_same, by rw [List.length_append, hwl]; rfl, ?_⟩
      have nD : ∀ {b : Addr} {xs : List V}, H6 b = some (.tup xs) → upd H6 D4 (.lst (ws ++ [.ref p6])) b = some (.tup xs) := fun {b xs} e => by
        rw [upd_ne fun z => ?_]
        · exact e
        · rw [z, S56 _ _ hws] at e
          cases e
      rw [List.take_succ, hp5]
      exact paired_app (Paired.mapP pw fun _ _ ⟨q, e, h⟩ => ⟨q, e, nD (S56 _ _ h)⟩) (.cons ⟨p6, rfl, nD h6⟩ .nil)
    · obtain ⟨S, ws, hws, hwl, pw⟩ := hp
      rw [show ((wy.posts.map postRow).map V.str).length = wy.posts.length by simp, List.take_length] at pw
      have hwl' : ws.length ≤ 12 := by
        rw [hwl]
        simpa using n2
      refine lv_one (sv_ret (ev_mkS C T.mk_Way (ok_Way_init T) (by decide) T.gl_Way (av_cons (ev_var 2 rfl (av_star (ev_var 3 rfl ⟨D4, ws, rfl, .inr (SqL.of hws), av_nil ?_⟩))))))
      rw [List.append_nil]
      exact wy_made (X := cxOf (L2.CX P w) P w K mg base ["text", "lines", "capacity", "posts", "number", "line"] "parse_way" (defScope s_parse_way) (He.ga K "parse_way") cdv A outer s H E) pw ok fun H7 v7 S7 hv => q H7 v7 (S1.trans (S2.trans (S3.trans (S.trans S7)))) hv
end
end
end OilLaw
set_option Elab.async false
set_option linter.all false
set_option maxRecDepth 100000
set_option maxHeartbeats 2000000
set_option pp.maxSteps 4000
namespace OilLaw
open PySem PySem.Spec PyProof.Rows L2 Oil
local macro_rules | `(tactic| walk_at "kp") => `(tactic| first
  | exact Kp.refl
  | assumption
  | exact Same.kp (by assumption)
  | (refine Kp.tr (Same.kp ?_) ?_; assumption; walk_at "kp")
  | (refine Kp.tr ?_ ?_; assumption; walk_at "kp"))
local macro_rules | `(tactic| walk_at "same") => `(tactic| first
  | exact Same.refl _
  | assumption
  | (refine Same.tr ?_ ?_; assumption; walk_at "same"))
local macro_rules | `(tactic| walk_at "rp") => `(tactic| first
  | assumption
  | (refine IsSt.up ?_ ?_; assumption; walk_at "kp")
  | (refine IsWy.up ?_ ?_; assumption; walk_at "kp")
  | (refine IsPs.up ?_ ?_; assumption; walk_at "kp")
  | (refine IsPr.up ?_ ?_; assumption; walk_at "kp")
  | (refine Kp.tup ?_ ?_; rotate_left; assumption; walk_at "kp"))
/-! ### the log of a walk -/
section
open TL
theorem row_text (k pl hh : Nat) : tl (((((Str.empty ++ intSpecText fm3 ((k : Nat) : Int)) ++ txSp) ++ intSpecText fm2 ((pl : Nat) : Int)) ++ txSp) ++ intSpecText fm13 ((hh : Nat) : Int)) = logRow k pl (hh : Nat) := by
  simp only [tl_append, fm3_tl, fm2_tl, fm13_text, tl_spS, show tl Str.empty = [] from rfl, List.nil_append]
  unfold logRow
  simp only [Int.toNat_natCast, List.append_assoc, List.cons_append, List.nil_append]
def dashS : Str := " -- "
theorem out_text (k hh : Nat) : tl (((Str.empty ++ intSpecText fm3 ((k : Nat) : Int)) ++ dashS) ++ intSpecText fm13 ((hh : Nat) : Int)) = logOut k (hh : Nat) := by
  simp only [tl_append, fm3_tl, fm13_text, show tl dashS = [32, 45, 45, 32] by decide +kernel, show tl Str.empty = [] from rfl, List.nil_append]
  unfold logOut
  simp only [Int.toNat_natCast, List.append_assoc, List.cons_append, List.nil_append]
section
variable {X : Cx} {a b c : Expr} {σ : L2.St} {H : Hp} {Q : VK}
theorem ev_row3 {k pl hh : Nat} {j1 j2 j3 j4 j5 : Nat} {p1 p2 p3 p4 p5 p6 p7 p8 p9 p10 p11 p12 : Pos} (hk : k < 10000000000) (hp : pl < 10000000000) (hh' : hh < 10000000000)
    (qa : ∀ Q : VK, Q (.int (k : Nat)) H → EV X a σ H Q) (qb : ∀ Q : VK, Q (.int (pl : Nat)) H → EV X b σ H Q) (qc : ∀ Q : VK, Q (.int (hh : Nat)) H → EV X c σ H Q)
    (q : ∀ z, tl z = logRow k pl (hh : Nat) → Q (.str z) H) :
    EV X (.JoinedStr [.FormattedValue a (-1) (some (.JoinedStr [.Constant (.str ">3") j1 p1] p2)) p3, .Constant (.str " ") j2 p4, .FormattedValue b (-1) (some (.JoinedStr [.Constant (.str ">2") j3 p5] p6)) p7, .Constant (.str " ") j4 p8, .FormattedValue c (-1) (some (.JoinedStr [.Constant (.str "_>13,") j5 p9] p10)) p11] p12) σ H Q := by
  have l3 := fm3_len hk
  have l2 := fm2_len hp
  have l13 := fm13_len hh'
  have ls : txSp.length = 1 := by decide +kernel
  have le : Str.empty.length = 0 := rfl
  refine ev_fstr (ev_fmtSp fm3_ok (qa _ (ev_fstr1 (ev_str ⟨_, rfl, rfl, log_small (by omega) (by omega), by rw [sizeLine_eq]; omega, _, rfl, by simp only [len_app, sizeLine_eq]; omega, ?_⟩))))
  refine ev_str ⟨txSp, rfl, by simp only [len_app, sizeLine_eq]; omega, ?_⟩
  refine ev_fmtSp fm2_ok (qb _ (ev_fstr1 (ev_str ⟨_, rfl, rfl, log_small (by omega) (by omega), by rw [sizeLine_eq]; omega, _, rfl, by simp only [len_app, sizeLine_eq]; omega, ?_⟩)))
  refine ev_str ⟨txSp, rfl, by simp only [len_app, sizeLine_eq]; omega, ?_⟩
  refine ev_fmtSp fm13_ok (qc _ (ev_fstr1 (ev_str ⟨_, rfl, rfl, log_small (by omega) (by omega), by rw [sizeLine_eq]; omega, _, rfl, by simp only [len_app, sizeLine_eq]; omega, ?_⟩)))
  exact q _ (row_text k pl hh)
theorem ev_rowOut {k hh : Nat} {j1 j2 j5 : Nat} {p1 p2 p3 p4 p9 p10 p11 p12 : Pos} (hk : k < 10000000000) (hh' : hh < 10000000000)
    (qa : ∀ Q : VK, Q (.int (k : Nat)) H → EV X a σ H Q) (qc : ∀ Q : VK, Q (.int (hh : Nat)) H → EV X c σ H Q)
    (q : ∀ z, tl z = logOut k (hh : Nat) → Q (.str z) H) :
    EV X (.JoinedStr [.FormattedValue a (-1) (some (.JoinedStr [.Constant (.str ">3") j1 p1] p2)) p3, .Constant (.str " -- ") j2 p4, .FormattedValue c (-1) (some (.JoinedStr [.Constant (.str "_>13,") j5 p9] p10)) p11] p12) σ H Q := by
  have l3 := fm3_len hk
  have l13 := fm13_len hh'
  have ls : dashS.length = 4 := by decide +kernel
  have le : Str.empty.length = 0 := rfl
  refine ev_fstr (ev_fmtSp fm3_ok (qa _ (ev_fstr1 (ev_str ⟨_, rfl, rfl, log_small (by omega) (by omega), by rw [sizeLine_eq]; omega, _, rfl, by simp only [len_app, sizeLine_eq]; omega, ?_⟩))))
  refine ev_str ⟨dashS, rfl, by simp only [len_app, sizeLine_eq]; omega, ?_⟩
  refine ev_fmtSp fm13_ok (qc _ (ev_fstr1 (ev_str ⟨_, rfl, rfl, log_small (by omega) (by omega), by rw [sizeLine_eq]; omega, _, rfl, by simp only [len_app, sizeLine_eq]; omega, ?_⟩)))
  exact q _ (out_text k hh)
end
theorem logBase_app {w : Wy} {i : Nat} {o r : Int} {xs : List Int} : logBase w i o (xs ++ [r]) = logBase w i o xs ++ [logRow (xs.length + 1) ((i + xs.length + 1) % w.posts.length) r] := by
  unfold logBase
  rw [List.length_append, List.length_singleton, List.range_succ, List.map_append, List.cons_append]
  congr 2
  · refine List.map_congr_left fun j hj => ?_
    have := List.mem_range.mp hj
    rw [List.getD_eq_getElem?_getD, List.getD_eq_getElem?_getD, List.getElem?_append_left this]
  · rw [List.map_singleton, List.getD_eq_getElem?_getD, List.getElem?_append_right (Nat.le_refl _), Nat.sub_self]
    rfl
theorem logBase_len {w : Wy} {i : Nat} {o : Int} {xs : List Int} (hi : i < 10000000000) (ho : o < 10000000000) (hw : w.posts.length < 10000000000) (h1 : 1 ≤ w.posts.length) (hl : xs.length < 1000) (hx : ∀ x ∈ xs, x < 10000000000) : ∀ l ∈ logBase w i o xs, l.length ≤ 100 := fun l h => by
  unfold logBase at h
  rcases List.mem_cons.mp h with rfl | h
  · exact logRow_len (by omega) hi ho
  · obtain ⟨j, hj, rfl⟩ := List.mem_map.mp h
    have hj := List.mem_range.mp hj
    have hm : (i + j + 1) % w.posts.length < w.posts.length := Nat.mod_lt _ h1
    refine logRow_len (by omega) (by omega) ?_
    rw [List.getD_eq_getElem?_getD, List.getElem?_eq_getElem hj]
    exact hx _ (List.getElem_mem hj)
theorem logBase_n {w : Wy} {i : Nat} {o : Int} {xs : List Int} : (logBase w i o xs).length = xs.length + 1 := by
  unfold logBase
  simp
section
variable {P : Program} {w : World} {K : PySem.W.Frag} {mg : Str → Option Value} {base : Heap}
theorem sc_log_text : FnScope ["way", "post", "oil", "legs", "lines", "place", "held", "leg", "left", "full"] ["way", "post", "oil", "legs"] (defScope s_log_text) := ⟨rfl, rfl, rfl, by decide +kernel, rfl, by decide +kernel, by decide +kernel⟩
theorem ok_log_text (T : Txt K mg) : FnR P w K mg base (L2.CX P w) 6 (He.ga K "log_text") (spLog K) := by
  refine fnr T.d_log_text sc_log_text (fun _ _ _ _ _ _ us hl => match us, hl with | [_, _, _, _], _ => rfl) (fun vs H Q E h => ?_) fun cdv A outer s H vs Q E hr h => ?_
  · obtain ⟨v, wy, i, n, o, rfl, _⟩ := h
    rfl
  · obtain ⟨v, wy, i, n, o, rfl, hw, hi, o0, o1, n1, n2, q⟩ := h
    have C := Cal.body (P := P) (w := w) (K := K) (mg := mg) (base := base) (N := ["way", "post", "oil", "legs", "lines", "place", "held", "leg", "left", "full"]) (outer := outer) (H := H) (E := E) hr
    have hnd := sc_log_text.nd
    have c1 := hw.1.c1
    have c2 := hw.1.c2
    have w1 := hw.1.n1
    have w2 := hw.1.n2
    obtain ⟨on, rfl⟩ : ∃ m : Nat, o = m := ⟨o.toNat, by omega⟩
    refine lv_cons (sv_expr (ev_call C (ok_check_start T) (by decide) T.gl_check_start (fkp T.d_check_start) (av_cons (ev_var 0 rfl (av_cons (ev_var 1 rfl (av_cons (ev_var 2 rfl (av_nil ⟨_, _, _, _, rfl, hw, .int _, .int _, fun _ _ => ?_, fun e => ?_, fun _ e => ?_⟩)))))))))
    rotate_left
    · exact Bool.noConfusion (e.symm.trans (inRg_ok (by omega) (by omega)))
    · exact Bool.noConfusion (e.symm.trans (inRg_ok o0 o1))
    refine lv_cons (sv_expr (ev_call C (ok_check_number T) (by decide) T.gl_check_number (fkp T.d_check_number) (av_cons (ev_var 3 rfl (av_cons (ev_int (av_cons (ev_gint T.k_MAX_LOGGED (av_nil ⟨_, _, _, rfl, .int _, fun _ => ?_, fun e => ?_⟩)))))))))
    rotate_left
    · exact Bool.noConfusion (e.symm.trans (inRg_ok (by omega) (by omega)))
    refine lv_cons (sv_par3 4 5 6 C.calm hnd (av_cons (ev_lst (av_cons (ev_row3 (k := 0) (pl := i) (hh := on) (by omega) (by omega) (by omega) (fun _ q => ev_int q) (fun _ q => ev_var 1 rfl q) (fun _ q => ev_var 2 rfl q) fun z0 hz0 => av_nil ⟨by show 1 ≤ sizeLine; decide, fun H1 f S1 h1 z1 => av_cons (ev_var 1 rfl (av_cons (ev_var 2 rfl (av_nil ⟨_, _, _, rfl, ?_⟩))))⟩)))))
    have xcap : ∀ {xs : List Int}, (∀ m, m < xs.length → wy.walk i on (m + 1) = xs[m]?) → ∀ x ∈ xs, x < 10000000000 := fun {xs} hxs x hx => by
      obtain ⟨m, hm, e⟩ := List.getElem_of_mem hx
      have e2 := (hxs m hm).trans ((List.getElem?_eq_getElem hm).trans (congrArg some e))
      have := walk_capped hw.1 i e2
      omega
    refine lv_cons (sv_forR2 C.calm C.po T.b_range (ev_int (ev_bin op_add (ev_var 3 rfl (ev_int (i2 ⟨1, (n : Int) + 1, rfl, rfl, by omega, fun j σ' H' => ∃ (xs : List Int) (u : Int) (ls : List Str) (x7 x8 x9 : Option V), Same H H' ∧ H' f = some (.lst (ls.map V.str)) ∧ ls.map tl = logBase wy i on xs ∧ xs.length = j ∧ (∀ m, m < xs.length → wy.walk i on (m + 1) = xs[m]?) ∧ wy.walk i on j = some u ∧ σ' = [some v, some (.int (i : Nat)), some (.int (on : Nat)), some (.int (n : Nat)), some (.ref f), some (.int ((i + j) % wy.posts.length : Nat)), some (.int u), x7, x8, x9], ⟨[], on, [z0], none, none, none, S1, h1, by rw [List.map_singleton, hz0]; rfl, rfl, fun m hm => absurd hm (by simp), rfl, ?_⟩, fun j σ' H' hj hp => ?_, fun σ' H' hp => ?_⟩))))))
    · rw [Nat.add_zero, Nat.mod_eq_of_lt hi]
      rfl
    · obtain ⟨xs, u, ls, x7, x8, x9, S2, h2, hls, hxl, hxs, hu2, rfl⟩ := hp
      have hlt : (i + j) % wy.posts.length < wy.posts.length := Nat.mod_lt _ w1
      have hst : wy.step ((i + j) % wy.posts.length) u = wy.step (i + j) u := by
        unfold Wy.step
        rw [at_mod]
      have hwk : wy.walk i on (j + 1) = wy.step (i + j) u := by
        show (wy.walk i on j).bind _ = _
        rw [hu2]
        rfl
      have hu0 := walk_nonneg o0 hu2
      have hat := (Wy.ok.at_ok hw.1 (i + j)).1
      have hll : ls.length = j + 1 := by
        have := congrArg List.length hls
        rw [List.length_map, logBase_n, hxl] at this
        exact this
      refine gv_name 7 ?_ hnd
      refine lv_cons (sv_asg (ev_call C (ok_one_leg T) (by decide) T.gl_one_leg (fkp T.d_one_leg) (av_cons (ev_var 0 rfl (av_cons (ev_var 5 rfl (av_cons (ev_var 6 rfl (av_nil ⟨v, wy, (i + j) % wy.posts.length, u, rfl, hw.upS S2, hlt, fun H3 p3 S3 h3 => gv_tup C.calm (SqT.of h3) rfl (gsv_cons (gv_name 8 (gsv_cons (gv_name 9 (gsv_nil ?_) hnd)) hnd))⟩)))))))))
      rw [hst, at_mod] at *
      have hf3 := S3 _ _ h2
      have ej : (1 : Int) + (j : Nat) = ((j + 1 : Nat) : Int) := by omega
      rw [ej]
      refine lv_cons (sv_if (tv_isN (ev_var 8 rfl (brO (fun e => ?_) fun r e => lv_nil ?_))))
      · obtain ⟨fn, ef⟩ : ∃ m : Nat, min wy.cap (u + (wy.at (i + j)).1) = m := ⟨(min wy.cap (u + (wy.at (i + j)).1)).toNat, by omega⟩
        rw [ef]
        refine lv_cons (sv_expr (ev_append (ev_var 4 rfl ⟨f, rfl, ⟨_, SqL.of hf3⟩, ev_rowOut (k := j + 1) (hh := fn) (by omega) (by omega) (fun _ q => ev_var 7 rfl q) (fun _ q => ev_var 9 rfl q) fun z hz => ⟨_, hf3, by rw [sizeLine_eq, List.length_map, hll]; omega, ?_⟩⟩)))
        have e4 : upd H3 f (.lst (ls.map V.str ++ [V.str z])) f = some (.lst ((ls ++ [z]).map V.str)) := by
          rw [upd_same, List.map_append]
          rfl
        have hrs : (ls ++ [z]).map tl = logBase wy i on xs ++ [logOut (j + 1) (fn : Nat)] := by
          rw [List.map_append, hls, List.map_singleton, hz]
        have hlen := strs_len hrs fun l hl => by
          rcases List.mem_append.mp hl with hl | hl
          · exact logBase_len (by omega) (by omega) (by omega) w1 (by omega) (xcap hxs) l hl
          · rw [List.mem_singleton.mp hl]
            exact logOut_len (by omega) (by omega)
        have hl2 : (ls ++ [z]).length = j + 2 := by rw [List.length_append, hll]; rfl
        refine lv_one (sv_ret (ev_join (ev_str ⟨nlS, rfl, ev_var 4 rfl ⟨f, ls ++ [z], rfl, SqL.of e4, ?_, ?_⟩⟩)))
        · rw [hl2] at hlen ⊢
          have : nlS.length = 1 := by decide +kernel
          rw [this]
          omega
        · refine q _ _ (logBase wy i on xs ++ [logOut (j + 1) (fn : Nat)]) (same_fresh (S2.trans S3) z1) ⟨xs, hxs, .inr ⟨by omega, u, by rw [hxl]; exact hu2, by rw [hxl, hwk]; exact e, ?_⟩⟩ ?_
          · rw [hxl, ef]
          · rw [tl_joinT, tl_nlS, hrs]
      · have hr0 := step_nonneg e
        have hrc := walk_capped hw.1 i (hwk.trans e)
        have e8 : vN (wy.step (i + j) u) = .int r := by rw [e]; rfl
        obtain ⟨rn, rfl⟩ : ∃ m : Nat, r = m := ⟨r.toNat, by omega⟩
        refine lv_eq (σ' := [some v, some (.int (i : Nat)), some (.int (on : Nat)), some (.int (n : Nat)), some (.ref f), some (.int ((i + j) % wy.posts.length : Nat)), some (.int u), some (.int (j + 1 : Nat)), some (.int (rn : Nat)), some (.int (min wy.cap (u + (wy.at (i + j)).1)))]) (by rw [← e8]; rfl) ?_
        refine lv_cons (sv_par2 5 6 C.calm hnd (av_cons (ev_bin op_mod (ev_callT call_int1 T.b_int (av_cons (ev_bin op_add (ev_var 5 rfl (ev_int (i2 (av_nil (Or.inl ⟨_, rfl, ev_lenW T C (by decide) (ev_var 0 rfl ⟨wy, (hw.upS S2).upS S3, i2c (by omega) (av_cons (ev_var 8 rfl (av_nil ⟨_, _, rfl, ?_⟩)))⟩)⟩)))))))))))
        have emod : (((i + j) % wy.posts.length : Nat) : Int) + 1 = (((i + j) % wy.posts.length + 1 : Nat) : Int) := by omega
        rw [emod, ← Int.natCast_emod, Nat.mod_add_mod]
        have hlt2 : (i + j + 1) % wy.posts.length < wy.posts.length := Nat.mod_lt _ w1
        refine lv_one (sv_expr (ev_append (ev_var 4 rfl ⟨f, rfl, ⟨_, SqL.of hf3⟩, ev_row3 (k := j + 1) (pl := (i + j + 1) % wy.posts.length) (hh := rn) (by omega) (by omega) (by omega) (fun _ q => ev_var 7 rfl q) (fun _ q => ev_var 5 rfl q) (fun _ q => ev_var 6 rfl q) fun z hz => ⟨_, hf3, by rw [sizeLine_eq, List.length_map, hll]; omega, ?_⟩⟩)))
        refine ⟨xs ++ [(rn : Int)], (rn : Int), ls ++ [z], _, _, _, same_fresh (S2.trans S3) z1, by rw [upd_same, List.map_append]; rfl, ?_, by rw [List.length_append, hxl]; rfl, fun m hm => ?_, hwk.trans e, rfl⟩
        · rw [List.map_append, hls, logBase_app, hxl, List.map_singleton, hz]
        rw [List.length_append, List.length_singleton] at hm
        by_cases em : m = xs.length
        · subst em
          rw [List.getElem?_append_right (Nat.le_refl _), Nat.sub_self, hxl, hwk, e]
          rfl
        · rw [List.getElem?_append_left (by omega)]
          exact hxs m (by omega)
    · obtain ⟨xs, u, ls, x7, x8, x9, S2, h2, hls, hxl, hxs, hu2, rfl⟩ := hp
      have hxn : xs.length = n := by omega
      have hlen := strs_len hls (logBase_len (by omega) (by omega) (by omega) w1 (by omega) (xcap hxs))
      have hll : ls.length = n + 1 := by
        have := congrArg List.length hls
        rw [List.length_map, logBase_n, hxn] at this
        exact this
      refine lv_one (sv_ret (ev_join (ev_str ⟨nlS, rfl, ev_var 4 rfl ⟨f, ls, rfl, SqL.of h2, ?_, ?_⟩⟩)))
      · rw [hll] at hlen ⊢
        have : nlS.length = 1 := by decide +kernel
        rw [this]
        omega
      · refine q _ _ _ S2 ⟨xs, hxs, .inl ⟨hxn, rfl⟩⟩ ?_
        rw [tl_joinT, tl_nlS, hls]
end
end
end OilLaw
set_option Elab.async false
set_option linter.all false
set_option maxRecDepth 100000
set_option maxHeartbeats 2000000
set_option pp.maxSteps 4000
namespace OilLaw
open PySem PySem.Spec PyProof.Rows L2 Oil
local macro_rules | `(tactic| walk_at "kp") => `(tactic| first
  | exact Kp.refl
  | assumption
  | exact Same.kp (by assumption)
  | (refine Kp.tr (Same.kp ?_) ?_; assumption; walk_at "kp")
  | (refine Kp.tr ?_ ?_; assumption; walk_at "kp"))
local macro_rules | `(tactic| walk_at "same") => `(tactic| first
  | exact Same.refl _
  | assumption
  | (refine Same.tr ?_ ?_; assumption; walk_at "same"))
local macro_rules | `(tactic| walk_at "rp") => `(tactic| first
  | assumption
  | (refine IsSt.up ?_ ?_; assumption; walk_at "kp")
  | (refine IsWy.up ?_ ?_; assumption; walk_at "kp")
  | (refine IsPs.up ?_ ?_; assumption; walk_at "kp")
  | (refine IsPr.up ?_ ?_; assumption; walk_at "kp")
  | (refine Kp.tup ?_ ?_; rotate_left; assumption; walk_at "kp"))
/-! ### ways as bytes -/
/-- the checksum -/
def ckL (ns : List Int) : Int := ns.foldl (fun r v => (r * 4 + v) % 251) 9
theorem ckL_app {ns : List Int} {n : Int} : ckL (ns ++ [n]) = (ckL ns * 4 + n) % 251 := by
  unfold ckL
  rw [List.foldl_append]
  rfl
theorem ck_fold : ∀ (ns : List Int) (r : Int), 0 ≤ r → r < 251 → 0 ≤ ns.foldl (fun r v => (r * 4 + v) % 251) r ∧ ns.foldl (fun r v => (r * 4 + v) % 251) r < 251
  | [], r, h0, h1 => ⟨h0, h1⟩
  | n :: ns, r, h0, h1 => by
    rw [List.foldl_cons]
    exact ck_fold ns _ (Int.emod_nonneg _ (by decide)) (Int.emod_lt_of_pos _ (by decide))
theorem ckL_in (ns : List Int) : 0 ≤ ckL ns ∧ ckL ns < 251 := ck_fold ns 9 (by decide) (by decide)
def pairB (p : Int × Int) : List Int := be4 p.1 ++ be4 p.2
def bodyB (w : Wy) : List Int := 79 :: (w.posts.length : Int) :: (be4 w.cap ++ w.posts.flatMap pairB)
def wyB (w : Wy) : List Int := bodyB w ++ [ckL (bodyB w)]
theorem pairs_len : ∀ ps : List (Int × Int), (ps.flatMap pairB).length = 8 * ps.length
  | [] => rfl
  | p :: ps => by
    rw [List.flatMap_cons, List.length_append, pairs_len ps]
    show 8 + _ = 8 * (ps.length + 1)
    omega
theorem bodyB_len (w : Wy) : (bodyB w).length = 6 + 8 * w.posts.length := by
  unfold bodyB
  simp only [List.length_cons, List.length_append, pairs_len, be4_len]
  omega
theorem pairs_B8 (ps : List (Int × Int)) : B8 (ps.flatMap pairB) := fun n h => by
  obtain ⟨p, _, hp⟩ := List.mem_flatMap.mp h
  exact ((be4_B8 p.1).app (be4_B8 p.2)) n hp
theorem bodyB_B8 {w : Wy} (h : w.posts.length ≤ 12) : B8 (bodyB w) := fun n hn => by
  unfold bodyB at hn
  rcases List.mem_cons.mp hn with rfl | hn
  · exact ⟨by decide, by decide⟩
  rcases List.mem_cons.mp hn with rfl | hn
  · exact ⟨by omega, by omega⟩
  exact ((be4_B8 w.cap).app (pairs_B8 w.posts)) n hn
theorem wyB_B8 {w : Wy} (h : w.posts.length ≤ 12) : B8 (wyB w) := (bodyB_B8 h).app fun n hn => by
  rw [List.mem_singleton.mp hn]
  have := ckL_in (bodyB w)
  exact ⟨by omega, by omega⟩
def decF (ns : List Int) (k : Nat) : List (Str × V) := [(("line" : Str), V.byt (byteArr ns)), (("place" : Str), V.int (k : Nat))]
def spCk (K : PySem.W.Frag) : Sp := fun vs H Q _ => ∃ l ns, vs = [.ref l] ∧ SqL K H l (ns.map V.int) ∧ Q (.int (ckL ns)) H
def spEncode (K : PySem.W.Frag) : Sp := fun vs H Q _ => ∃ v w, vs = [v] ∧ IsWy K H v w ∧ ∀ H', Same H H' → Q (.byt (byteArr (wyB w))) H'
def spDecInit (K : PySem.W.Frag) : Sp := fun vs H Q _ => ∃ x dx ns, vs = [.ref x, .byt (byteArr ns)] ∧ H x = some (.ins (He.ga K "Decoder") dx []) ∧ Q .non (upd H x (.ins (He.ga K "Decoder") dx (decF ns 0)))
def spTakeB (K : PySem.W.Frag) : Sp := fun vs H Q _ => ∃ a dx ns, ∃ (k : Nat) (lo hi n : Int), vs = [.ref a, .int lo, .int hi] ∧ H a = some (.ins (He.ga K "Decoder") dx (decF ns k)) ∧ B8 ns ∧ ns.length ≤ 1000000 ∧ ns[k]? = some n ∧ lo ≤ n ∧ n ≤ hi ∧ Q (.int n) (upd H a (.ins (He.ga K "Decoder") dx (decF ns (k + 1))))
def spTakeN (K : PySem.W.Frag) : Sp := fun vs H Q _ => ∃ a dx ns, ∃ (k : Nat) (lo n : Int), vs = [.ref a, .int lo] ∧ H a = some (.ins (He.ga K "Decoder") dx (decF ns k)) ∧ B8 ns ∧ ns.length ≤ 1000000 ∧ (∀ j, j < 4 → ns[k + j]? = (be4 n)[j]?) ∧ lo ≤ n ∧ 0 ≤ n ∧ n ≤ 1000000000 ∧ Q (.int n) (upd H a (.ins (He.ga K "Decoder") dx (decF ns (k + 4))))
section
variable {P : Program} {w : World} {K : PySem.W.Frag} {mg : Str → Option Value} {base : Heap}
theorem sc_checksum_of : FnScope ["values", "result", "value"] ["values"] (defScope s_checksum_of) := ⟨rfl, rfl, rfl, by decide +kernel, rfl, by decide +kernel, by decide +kernel⟩
theorem ok_checksum_of (T : Txt K mg) : FnR P w K mg base (L2.CX P w) 1 (He.ga K "checksum_of") (spCk K) := by
  refine fnr T.d_checksum_of sc_checksum_of (fun _ _ _ _ _ _ us hl => match us, hl with | [_], _ => rfl) (fun vs H Q E h => ?_) fun cdv A outer s H vs Q E hr h => ?_
  · obtain ⟨l, ns, rfl, _⟩ := h
    rfl
  · obtain ⟨l, ns, rfl, hl, q⟩ := h
    have C := Cal.body (P := P) (w := w) (K := K) (mg := mg) (base := base) (N := ["values", "result", "value"]) (outer := outer) (H := H) (E := E) hr
    have hnd := sc_checksum_of.nd
    refine lv_cons (sv_set 1 (ev_int ?_) hnd)
    refine lv_cons (sv_forL C.calm C.po (ev_var 0 rfl ⟨l, _, rfl, hl, fun i σ' H' => H' = H ∧ ∃ x2, σ' = [some (.ref l), some (.int (ckL (ns.take i))), x2], ⟨rfl, none, rfl⟩, fun i σ' H' _ hp => hp.1 ▸ hl, fun i x σ' H' hx hp => ?_, fun σ' H' hp => ?_⟩))
    · obtain ⟨rfl, x2, rfl⟩ := hp
      obtain ⟨n, hn, rfl⟩ : ∃ n, ns[i]? = some n ∧ x = .int n := by
        rw [List.getElem?_map] at hx
        cases e : ns[i]? with
        | none => rw [e] at hx; cases hx
        | some n => rw [e] at hx; exact ⟨n, rfl, (Option.some.inj hx).symm⟩
      refine gv_name 2 ?_ hnd
      refine lv_one (sv_set 1 (ev_bin op_mod (ev_callT call_int1 T.b_int (av_cons (ev_bin op_add (ev_bin op_mul (ev_var 1 rfl (ev_gint T.k_CHECKSUM_FACTOR (i2c (Or.inr ⟨by decide, by decide⟩) (ev_var 2 rfl (i2 (av_nil (Or.inl ⟨_, rfl, ev_gint T.k_CHECKSUM_MODULUS (i2c (by decide) ?_)⟩)))))))))))) hnd)
      refine ⟨rfl, some (.int n), ?_⟩
      rw [List.take_succ, hn]
      show _ = [some (V.ref l), some (V.int (ckL (ns.take i ++ [n]))), some (V.int n)]
      rw [ckL_app]
      rfl
    · obtain ⟨rfl, x2, rfl⟩ := hp
      rw [List.length_map, List.take_length]
      exact lv_one (sv_ret (ev_var 1 rfl q))
theorem sc_encode_way : FnScope ["way", "values", "oil", "steps"] ["way"] (defScope s_encode_way) := ⟨rfl, rfl, rfl, by decide +kernel, rfl, by decide +kernel, by decide +kernel⟩
theorem ok_encode_way (T : Txt K mg) : FnR P w K mg base (L2.CX P w) 4 (He.ga K "encode_way") (spEncode K) := by
  refine fnr T.d_encode_way sc_encode_way (fun _ _ _ _ _ _ us hl => match us, hl with | [_], _ => rfl) (fun vs H Q E h => ?_) fun cdv A outer s H vs Q E hr h => ?_
  · obtain ⟨v, wy, rfl, _⟩ := h
    rfl
  · obtain ⟨v, wy, rfl, hw, q⟩ := h
    have C := Cal.body (P := P) (w := w) (K := K) (mg := mg) (base := base) (N := ["way", "values", "oil", "steps"]) (outer := outer) (H := H) (E := E) hr
    have hnd := sc_encode_way.nd
    have c1 := hw.1.c1
    have c2 := hw.1.c2
    have w2 := hw.1.n2
    refine lv_cons (sv_set 1 (ev_lst (av_cons (ev_gint T.k_FIRST_BYTE (av_cons (ev_lenW T C (by decide) (ev_var 0 rfl ⟨wy, hw, av_star (ev_listB C.calm T.b_list (ev_toBig4 (ev_capW T C (by decide) (ev_var 0 rfl ⟨wy, hw, wy.cap, rfl, by omega, by omega, ev_int (ev_str ⟨rfl, rfl, be4 wy.cap, rfl, be4_B8 _, by rw [be4_len]; decide, fun D H1 S1 z1 h1 => ⟨D, _, rfl, .inr (SqL.of h1), av_nil ?_⟩⟩)⟩))))⟩)))))) hnd)
    refine ⟨by rw [List.append_nil]; show 6 ≤ sizeLine; decide, fun H2 f S2 h2 z2 => ?_⟩
    have S12 := S1.trans S2
    refine lv_cons (sv_forT C.calm C.po (ev_postsW T C (by decide) (ev_var 0 rfl ⟨wy, hw.upS S12, fun t ht => ?_⟩)))
    obtain ⟨vs, htv, hps⟩ := ht
    refine ⟨t, vs, rfl, SqT.of htv, fun i σ' H' => ∃ x2 x3, Same H H' ∧ Kp K H2 H' ∧ H' f = some (.lst (((79 : Int) :: (wy.posts.length : Int) :: (be4 wy.cap ++ (wy.posts.take i).flatMap pairB)).map V.int)) ∧ σ' = [some v, some (.ref f), x2, x3], ⟨none, none, S12, Kp.refl, ?_, rfl⟩, fun i σ' H' _ hp => ?_, fun i x σ' H' hx hp => ?_, fun σ' H' hp => ?_⟩
    · rw [h2]
      rfl
    · obtain ⟨_, _, _, h, _⟩ := hp
      exact SqT.of (h.tup htv)
    · obtain ⟨x2, x3, S3, k3, f3, rfl⟩ := hp
      obtain ⟨p, ep, px, rfl, hpx⟩ := paired_at hps hx
      have hp3 := k3.tup hpx
      obtain ⟨a1, a2, a3, a4⟩ := hw.1.ps p (List.mem_of_getElem? ep)
      refine gv_tup C.calm (SqT.of hp3) rfl (gsv_cons (gv_name 2 (gsv_cons (gv_name 3 (gsv_nil ?_) hnd)) hnd))
      have hil : i < wy.posts.length := (List.getElem?_eq_some_iff.mp ep).1
      refine lv_one (sv_expr (ev_extend (ev_var 1 rfl ⟨f, rfl, ⟨_, SqL.of f3⟩, ev_lst ?_⟩)))
      refine av_star (ev_listB C.calm T.b_list (ev_toBig4 (ev_var 2 rfl ⟨p.1, rfl, by omega, by omega, ev_int (ev_str ⟨rfl, rfl, be4 p.1, rfl, be4_B8 _, by rw [be4_len]; decide, fun D4 H4 S4 z4 h4 => ⟨D4, _, rfl, .inr (SqL.of h4), ?_⟩⟩)⟩)))
      refine av_star (ev_listB C.calm T.b_list (ev_toBig4 (ev_var 3 rfl ⟨p.2, rfl, by omega, by omega, ev_int (ev_str ⟨rfl, rfl, be4 p.2, rfl, be4_B8 _, by rw [be4_len]; decide, fun D5 H5 S5 z5 h5 => ⟨D5, _, rfl, .inr (SqL.of h5), av_nil ?_⟩⟩)⟩)))
      refine ⟨by rw [List.append_nil]; show 8 ≤ sizeLine; decide, fun H6 D6 S6 h6 z6 => ?_⟩
      have S36 := S4.trans (S5.trans S6)
      have f6 := S36 _ _ f3
      refine ⟨D6, _, _, rfl, f6, h6, ?_, some (.int p.1), some (.int p.2), same_fresh (S3.trans S36) (non_of S1 z2), ?_, ?_, rfl⟩
      · rw [sizeLine_eq]
        simp only [List.length_map, List.length_cons, List.length_append, pairs_len, be4_len, List.length_take, List.length_nil]
        omega
      · refine Kp.tr (fun b o im e => ?_) (k3.tr (Kp.refl) |> fun _ => (Same.kp S36).tr k3)
        rw [upd_ne fun z => ?_]
        · exact e
        · rw [z, f6] at e
          cases e
          exact False.elim im
      · rw [upd_same, List.take_succ, ep, List.flatMap_append]
        simp only [List.map_cons, List.map_append, List.cons_append, List.append_assoc, List.append_nil, Option.toList_some, List.flatMap_cons, List.flatMap_nil, pairB]
    · obtain ⟨x2, x3, S3, k3, f3, rfl⟩ := hp
      rw [show vs.length = wy.posts.length from AreP.len hps, List.take_length] at f3
      have f3' : H' f = some (.lst ((bodyB wy).map V.int)) := f3
      refine lv_one (sv_ret (ev_bytesL C.calm T.b_bytes (ev_lst (av_star (ev_var 1 rfl ⟨f, _, rfl, .inr (SqL.of f3'), av_cons (ev_call C (ok_checksum_of T) (by decide) T.gl_checksum_of (fkp T.d_checksum_of) (av_cons (ev_var 1 rfl (av_nil ⟨f, bodyB wy, rfl, SqL.of f3', av_nil ⟨?_, fun H6 D6 S6 h6 z6 => ⟨D6, wyB wy, rfl, SqL.of ?_, wyB_B8 w2, q _ (S3.trans S6)⟩⟩⟩))))⟩)))))
      · rw [sizeLine_eq, List.length_append, List.length_map, bodyB_len]
        show _ + 1 ≤ _
        omega
      · rw [h6]
        unfold wyB
        rw [List.map_append]
        rfl
theorem sc_Decoder_init : FnScope ["self", "data"] ["self", "data"] (defScope s_Decoder_init) := ⟨rfl, rfl, rfl, by decide +kernel, rfl, by decide +kernel, by decide +kernel⟩
theorem ok_Dec_init (T : Txt K mg) : FnR P w K mg base (L2.CX P w) 1 (He.ma K (He.ga K "Decoder") "__init__") (spDecInit K) := by
  refine fnr T.d_Decoder_init sc_Decoder_init (fun _ _ _ _ _ _ us hl => match us, hl with | [_, _], _ => rfl) (fun vs H Q E h => ?_) fun cdv A outer s H vs Q E hr h => ?_
  · obtain ⟨x, dx, ns, rfl, _⟩ := h
    rfl
  · obtain ⟨x, dx, ns, rfl, hx, q⟩ := h
    have C := Cal.body (P := P) (w := w) (K := K) (mg := mg) (base := base) (N := ["self", "data"]) (outer := outer) (H := H) (E := E) hr
    refine lv_cons (sv_fld (ev_var 1 rfl (ev_var 0 rfl ⟨x, _, dx, [], rfl, hx, T.cls_Decoder, T.no_Decoder_line, put0, ?_⟩)))
    refine lv_one (sv_fld (ev_int (ev_var 0 rfl ⟨x, _, dx, _, rfl, upd_same, T.cls_Decoder, T.no_Decoder_place, by show 1 < 1000; decide, ?_⟩)))
    rw [upd_upd]
    exact q
theorem sc_Decoder_take_byte : FnScope ["self", "low", "high"] ["self", "low", "high"] (defScope s_Decoder_take_byte) := ⟨rfl, rfl, rfl, by decide +kernel, rfl, by decide +kernel, by decide +kernel⟩
theorem ok_Dec_take_byte (T : Txt K mg) : FnR P w K mg base (L2.CX P w) 1 (He.ma K (He.ga K "Decoder") "take_byte") (spTakeB K) := by
  refine fnr T.d_Decoder_take_byte sc_Decoder_take_byte (fun _ _ _ _ _ _ us hl => match us, hl with | [_, _, _], _ => rfl) (fun vs H Q E h => ?_) fun cdv A outer s H vs Q E hr h => ?_
  · obtain ⟨a, dx, ns, k, lo, hi, n, rfl, _⟩ := h
    rfl
  · obtain ⟨a, dx, ns, k, lo, hi, n, rfl, ha, h8, hz, hn, h0, h1, q⟩ := h
    have C := Cal.body (P := P) (w := w) (K := K) (mg := mg) (base := base) (N := ["self", "low", "high"]) (outer := outer) (H := H) (E := E) hr
    have hk := (List.getElem?_eq_some_iff.mp hn).1
    refine lv_cons (sv_if (tv_w (wv_or (tv_cmp op_ge (ev_fld (ev_var 0 rfl ⟨a, _, dx, _, _, rfl, ha, T.cls_Decoder, T.no_Decoder_place, rfl, ev_lenBy C.calm T.b_len (ev_fld (ev_var 0 rfl ⟨a, _, dx, _, _, rfl, ha, T.cls_Decoder, T.no_Decoder_line, rfl, ns, rfl, hz, ti2 (fun h => absurd h (by omega)) fun _ => ?_⟩))⟩))))))
    refine wv_or1 (tv_not (tv_chain op_le op_le (ev_var 1 rfl (ev_ixB (ev_fld (ev_var 0 rfl ⟨a, _, dx, _, _, rfl, ha, T.cls_Decoder, T.no_Decoder_line, rfl, ev_fld (ev_var 0 rfl ⟨a, _, dx, _, _, rfl, ha, T.cls_Decoder, T.no_Decoder_place, rfl, ns, k, n, rfl, rfl, h8, hz, hn, ic2 (fun _ => ev_var 2 rfl (ti2 (fun _ => lv_nil ?_) fun h => absurd h1 h)) fun h => absurd h0 h⟩)⟩))))))
    refine lv_cons (sv_fldadd (ev_var 0 rfl ⟨a, _, dx, _, _, rfl, ha, T.cls_Decoder, T.no_Decoder_place, rfl, ev_int ⟨_, dx, _, rfl, ha, by show 2 < 1000; decide, ?_⟩⟩))
    refine lv_one (sv_ret (ev_ixB (ev_fld (ev_var 0 rfl ⟨a, _, dx, _, _, rfl, upd_same, T.cls_Decoder, T.no_Decoder_line, rfl, ev_bin op_sub (ev_fld (ev_var 0 rfl ⟨a, _, dx, _, _, rfl, upd_same, T.cls_Decoder, T.no_Decoder_place, rfl, ev_int (i2 ⟨ns, k, n, rfl, ?_, h8, hz, hn, ?_⟩)⟩))⟩))))
    · rw [show (((k : Nat) : Int) + 1 - 1) = ((k : Nat) : Int) by omega]
    · exact q
theorem sc_Decoder_take_number : FnScope ["self", "low", "begin", "number", "turn"] ["self", "low"] (defScope s_Decoder_take_number) := ⟨rfl, rfl, rfl, by decide +kernel, rfl, by decide +kernel, by decide +kernel⟩
theorem ok_Dec_take_number (T : Txt K mg) : FnR P w K mg base (L2.CX P w) 2 (He.ma K (He.ga K "Decoder") "take_number") (spTakeN K) := by
  refine fnr T.d_Decoder_take_number sc_Decoder_take_number (fun _ _ _ _ _ _ us hl => match us, hl with | [_, _], _ => rfl) (fun vs H Q E h => ?_) fun cdv A outer s H vs Q E hr h => ?_
  · obtain ⟨a, dx, ns, k, lo, n, rfl, _⟩ := h
    rfl
  · obtain ⟨a, dx, ns, k, lo, n, rfl, ha, h8, hz, hn, h0, h1, h2, q⟩ := h
    have C := Cal.body (P := P) (w := w) (K := K) (mg := mg) (base := base) (N := ["self", "low", "begin", "number", "turn"]) (outer := outer) (H := H) (E := E) hr
    have hnd := sc_Decoder_take_number.nd
    refine lv_cons (sv_par2 2 3 C.calm hnd (av_cons (ev_fld (ev_var 0 rfl ⟨a, _, dx, _, _, rfl, ha, T.cls_Decoder, T.no_Decoder_place, rfl, av_cons (ev_int (av_nil ⟨_, _, rfl, ?_⟩))⟩))))
    let vals : Nat → Int := fun j => match j with
      | 0 => 0
      | 1 => 0 * 256 + n / 256 / 256 / 256 % 256
      | 2 => (0 * 256 + n / 256 / 256 / 256 % 256) * 256 + n / 256 / 256 % 256
      | 3 => ((0 * 256 + n / 256 / 256 / 256 % 256) * 256 + n / 256 / 256 % 256) * 256 + n / 256 % 256
      | _ => n
    have vs1 : ∀ (j : Nat) (m : Int), (be4 n)[j]? = some m → vals j * 256 + m = vals (j + 1) := fun j m hm => by
      match j, hm with
      | 0, hm => cases hm; rfl
      | 1, hm => cases hm; rfl
      | 2, hm => cases hm; rfl
      | 3, hm =>
        cases hm
        exact be4_back h1 (by omega)
      | j + 4, hm => cases hm
    refine lv_cons (sv_forR1 C.calm C.po T.b_range (ev_gint T.k_WIDTH ⟨4, rfl, by decide, by decide, fun j σ' H' => H' = upd H a (.ins (He.ga K "Decoder") dx (decF ns (k + j))) ∧ ∃ x4, σ' = [some (.ref a), some (.int lo), some (.int (k : Nat)), some (.int (vals j)), x4], ⟨?_, none, rfl⟩, fun j σ' H' hj hp => ?_, fun σ' H' hp => ?_⟩))
    · funext b
      by_cases e : b = a
      · rw [e, upd_same, ha, Nat.add_zero]
      · rw [upd_ne e]
    · obtain ⟨rfl, x4, rfl⟩ := hp
      have hj4 : j < 4 := by omega
      have hbj : (be4 n)[j]? = some (be4 n)[j] := List.getElem?_eq_getElem (by rw [be4_len]; exact hj4)
      have hb8 := be4_B8 n _ (List.mem_of_getElem? hbj)
      refine gv_name 4 ?_ hnd
      refine lv_one (sv_set 3 (ev_bin op_add (ev_bin op_mul (ev_var 3 rfl (ev_gint T.k_BYTE (i2c (Or.inr ⟨by decide, by decide⟩) (ev_meth C T.cls_Decoder T.me_Decoder_take_byte (ok_Dec_take_byte T) (by decide) (ev_var 0 rfl ⟨a, dx, _, rfl, upd_same, rfl, av_cons (ev_int (av_cons (ev_bin op_sub (ev_gint T.k_BYTE (ev_int (i2 (av_nil ⟨a, dx, ns, k + j, 0, 255, (be4 n)[j], rfl, upd_same, h8, hz, (hn j hj4).trans hbj, hb8.1, ?_, i2 ?_⟩)))))))⟩))))))) hnd)
      · have := hb8.2
        omega
      refine ⟨by rw [upd_upd]; rfl, some (.int (j : Nat)), ?_⟩
      rw [vs1 j _ hbj]
      rfl
    · obtain ⟨rfl, x4, rfl⟩ := hp
      refine lv_cons (sv_if (tv_not (tv_chain op_le op_le (ev_var 1 rfl (ev_var 3 rfl (ic2 (fun _ => ev_gint T.k_MAX_OIL (ti2 (fun _ => lv_nil ?_) fun h => absurd h2 h)) fun h => absurd h0 h))))))
      exact lv_one (sv_ret (ev_var 3 rfl q))
theorem pairs_at : ∀ (ps : List (Int × Int)) (j i : Nat) (p : Int × Int), ps[j]? = some p → i < 8 → ∀ r : List Int, (ps.flatMap pairB ++ r)[8 * j + i]? = (pairB p)[i]?
  | [], j, i, p, h, _, _ => by simp at h
  | p0 :: ps, 0, i, p, h, hi, r => by
    cases h
    rw [List.flatMap_cons, List.append_assoc, List.getElem?_append_left (by show 8 * 0 + i < 8; omega), Nat.mul_zero, Nat.zero_add]
  | p0 :: ps, j + 1, i, p, h, hi, r => by
    rw [List.flatMap_cons, List.append_assoc, List.getElem?_append_right (by show 8 ≤ _; omega)]
    rw [show 8 * (j + 1) + i - (pairB p0).length = 8 * j + i by show 8 * (j + 1) + i - 8 = _; omega]
    exact pairs_at ps j i p h hi r
theorem wyB_tail (w : Wy) (m : Nat) : (wyB w)[6 + m]? = (w.posts.flatMap pairB ++ [ckL (bodyB w)])[m]? := by
  unfold wyB
  rw [show bodyB w = [79, (w.posts.length : Int)] ++ be4 w.cap ++ w.posts.flatMap pairB from rfl, List.append_assoc, List.getElem?_append_right (by show 6 ≤ 6 + m; omega)]
  congr 1
  show 6 + m - 6 = m
  omega
theorem wyB_at {w : Wy} {j : Nat} {p : Int × Int} (h : w.posts[j]? = some p) : (∀ i, i < 4 → (wyB w)[6 + 8 * j + i]? = (be4 p.1)[i]?) ∧ ∀ i, i < 4 → (wyB w)[6 + 8 * j + 4 + i]? = (be4 p.2)[i]? := by
  refine ⟨fun i hi => ?_, fun i hi => ?_⟩
  · rw [show 6 + 8 * j + i = 6 + (8 * j + i) by omega, wyB_tail, pairs_at _ j i p h (by omega)]
    exact List.getElem?_append_left (by rw [be4_len]; exact hi)
  · rw [show 6 + 8 * j + 4 + i = 6 + (8 * j + (4 + i)) by omega, wyB_tail, pairs_at _ j (4 + i) p h (by omega)]
    show (be4 p.1 ++ be4 p.2)[4 + i]? = _
    rw [List.getElem?_append_right (by rw [be4_len]; omega), be4_len]
    congr 1
    omega
theorem wyB_cap (w : Wy) : ∀ i, i < 4 → (wyB w)[2 + i]? = (be4 w.cap)[i]? := fun i hi => by
  match i, hi with
  | 0, _ => rfl
  | 1, _ => rfl
  | 2, _ => rfl
  | 3, _ => rfl
theorem wyB_len (w : Wy) : (wyB w).length = 7 + 8 * w.posts.length := by
  unfold wyB
  rw [List.length_append, bodyB_len]
  show _ + 1 = _
  omega
theorem wyB_ck (w : Wy) : (wyB w)[6 + 8 * w.posts.length]? = some (ckL (bodyB w)) := by
  unfold wyB
  rw [List.getElem?_append_right (by rw [bodyB_len]; exact Nat.le_refl _), bodyB_len, Nat.sub_self]
  rfl
theorem wyB_take (w : Wy) : (wyB w).take (6 + 8 * w.posts.length) = bodyB w := by
  unfold wyB
  rw [← bodyB_len w, List.take_left']
  rfl
def spDecode (K : PySem.W.Frag) : Sp := fun vs H Q _ => ∃ w : Wy, vs = [.byt (byteArr (wyB w))] ∧ w.ok ∧ ∀ H' v, Same H H' → IsWy K H' v w → Q v H'
theorem sc_decode_way : FnScope ["data", "decoder", "posts", "count", "capacity", "turn", "oil", "checksum"] ["data"] (defScope s_decode_way) := ⟨rfl, rfl, rfl, by decide +kernel, rfl, by decide +kernel, by decide +kernel⟩
theorem ok_decode_way (T : Txt K mg) : FnR P w K mg base (L2.CX P w) 6 (He.ga K "decode_way") (spDecode K) := by
  refine fnr T.d_decode_way sc_decode_way (fun _ _ _ _ _ _ us hl => match us, hl with | [_], _ => rfl) (fun vs H Q E h => ?_) fun cdv A outer s H vs Q E hr h => ?_
  · obtain ⟨wy, rfl, _⟩ := h
    rfl
  · obtain ⟨wy, rfl, ok, q⟩ := h
    have C := Cal.body (P := P) (w := w) (K := K) (mg := mg) (base := base) (N := ["data", "decoder", "posts", "count", "capacity", "turn", "oil", "checksum"]) (outer := outer) (H := H) (E := E) hr
    have hnd := sc_decode_way.nd
    have c1 := ok.c1
    have c2 := ok.c2
    have w1 := ok.n1
    have w2 := ok.n2
    have h8 := wyB_B8 w2
    have hz : (wyB wy).length ≤ 1000000 := by rw [wyB_len]; omega
    have e0 : (wyB wy)[0]? = some 79 := rfl
    have e1 : (wyB wy)[1]? = some (wy.posts.length : Int) := rfl
    refine lv_cons (sv_par2 1 2 C.calm hnd (av_cons ?_))
    refine ev_mk C T.mk_Decoder (ok_Dec_init T) (by decide) T.gl_Decoder (av_cons (ev_var 0 rfl (av_nil ?_)))
    intro a dx za zd ne
    refine ⟨a, dx, wyB wy, rfl, upd_same, rfl, ?_⟩
    rw [upd_upd]
    have Sa : Same H (upd (upd H dx (.own a)) a (.ins (He.ga K "Decoder") dx (decF (wyB wy) 0))) := same_fresh (same_upd zd) za
    have ha0 : upd (upd H dx (.own a)) a (.ins (He.ga K "Decoder") dx (decF (wyB wy) 0)) a = some (.ins (He.ga K "Decoder") dx (decF (wyB wy) 0)) := upd_same
    refine av_cons (ev_lst (av_nil ⟨by show 0 ≤ sizeLine; decide, fun H2 f S2 h2 z2 => av_nil ⟨_, _, rfl, ?_⟩⟩))
    have ha2 := S2 _ _ ha0
    have S02 := Sa.trans S2
    have fa : f ≠ a := fun e => by
      rw [e] at z2
      exact absurd (ha0.symm.trans z2) (fun h => by cases h)
    refine lv_cons (sv_expr (ev_meth C T.cls_Decoder T.me_Decoder_take_byte (ok_Dec_take_byte T) (by decide) (ev_var 1 rfl ⟨a, dx, _, rfl, ha2, rfl, av_cons (ev_gint T.k_FIRST_BYTE (av_cons (ev_gint T.k_FIRST_BYTE (av_nil ⟨a, dx, wyB wy, 0, 79, 79, 79, rfl, ha2, h8, hz, e0, by decide, by decide, ?_⟩))))⟩)))
    refine lv_cons (sv_set 3 (ev_meth C T.cls_Decoder T.me_Decoder_take_byte (ok_Dec_take_byte T) (by decide) (ev_var 1 rfl ⟨a, dx, _, rfl, upd_same, rfl, av_cons (ev_int (av_cons (ev_gint T.k_MAX_POSTS (av_nil ⟨a, dx, wyB wy, 1, 1, 12, (wy.posts.length : Int), rfl, upd_same, h8, hz, e1, by omega, by omega, ?_⟩))))⟩)) hnd)
    rw [upd_upd]
    refine lv_cons (sv_set 4 (ev_meth C T.cls_Decoder T.me_Decoder_take_number (ok_Dec_take_number T) (by decide) (ev_var 1 rfl ⟨a, dx, _, rfl, upd_same, rfl, av_cons (ev_int (av_nil ⟨a, dx, wyB wy, 2, 1, wy.cap, rfl, upd_same, h8, hz, wyB_cap wy, by omega, by omega, by omega, ?_⟩))⟩)) hnd)
    rw [upd_upd]
    refine lv_cons (sv_forR1 C.calm C.po T.b_range (ev_var 3 rfl ⟨(wy.posts.length : Int), rfl, by omega, by omega, fun j σ' H' => ∃ (us : List V) (x5 x6 : Option V), Same H H' ∧ H' a = some (.ins (He.ga K "Decoder") dx (decF (wyB wy) (6 + 8 * j))) ∧ H' f = some (.lst us) ∧ us.length = j ∧ AreP H' us (wy.posts.take j) ∧ σ' = [some (.byt (byteArr (wyB wy))), some (.ref a), some (.ref f), some (.int (wy.posts.length : Nat)), some (.int wy.cap), x5, x6, none], ⟨[], none, none, same_fresh S02 za, upd_same, by rw [upd_ne fa]; exact h2, rfl, by rw [List.take_zero]; exact .nil, rfl⟩, fun j σ' H' hj hp => ?_, fun σ' H' hp => ?_⟩))
    · obtain ⟨us, x5, x6, S3, a3, f3, ul, p3, rfl⟩ := hp
      rw [Int.toNat_natCast] at hj
      obtain ⟨p, hp⟩ : ∃ p, wy.posts[j]? = some p := ⟨_, List.getElem?_eq_getElem hj⟩
      obtain ⟨b1, b2, b3, b4⟩ := ok.ps p (List.mem_of_getElem? hp)
      obtain ⟨w3, w4⟩ := wyB_at hp
      refine gv_name 5 ?_ hnd
      refine lv_cons (sv_set 6 (ev_meth C T.cls_Decoder T.me_Decoder_take_number (ok_Dec_take_number T) (by decide) (ev_var 1 rfl ⟨a, dx, _, rfl, a3, rfl, av_cons (ev_int (av_nil ⟨a, dx, wyB wy, 6 + 8 * j, 0, p.1, rfl, a3, h8, hz, w3, by omega, by omega, by omega, ?_⟩))⟩)) hnd)
      have f4 : upd H' a (.ins (He.ga K "Decoder") dx (decF (wyB wy) (6 + 8 * j + 4))) f = some (.lst us) := by rw [upd_ne fa]; exact f3
      refine lv_one (sv_expr (ev_append (ev_var 2 rfl ⟨f, rfl, ⟨_, SqL.of f4⟩, ev_tup (av_cons (ev_var 6 rfl (av_cons (ev_meth C T.cls_Decoder T.me_Decoder_take_number (ok_Dec_take_number T) (by decide) (ev_var 1 rfl ⟨a, dx, _, rfl, upd_same, rfl, av_cons (ev_int (av_nil ⟨a, dx, wyB wy, 6 + 8 * j + 4, 1, p.2, rfl, upd_same, h8, hz, w4, by omega, by omega, by omega, ?_⟩))⟩)))))⟩)))
      rw [upd_upd]
      refine av_nil ⟨by show 2 ≤ sizeLine; decide, fun H5 p5 S5 h5 z5 => ?_⟩
      have f5 := S5 f (.lst us) (by rw [upd_ne fa]; exact f3)
      have a5 := S5 _ _ upd_same
      refine ⟨us, f5, by rw [sizeLine_eq]; omega, us ++ [.ref p5], some (.int (j : Nat)), some (.int p.1), same_fresh ((same_fresh S3 za).trans S5) (non_of Sa z2), ?_, upd_same, by rw [List.length_append, ul]; rfl, ?_, rfl⟩
      · rw [upd_ne (Ne.symm fa), a5]
        rfl
      · have nD : ∀ {b : Addr} {xs : List V}, H5 b = some (.tup xs) → upd H5 f (.lst (us ++ [.ref p5])) b = some (.tup xs) := fun {b xs} e => by
          rw [upd_ne fun z => ?_]
          · exact e
          · rw [z, f5] at e
            cases e
        rw [List.take_succ, hp]
        refine paired_app (Paired.mapP p3 fun _ _ ⟨q, e, h⟩ => ⟨q, e, nD (S5 _ _ ?_)⟩) (.cons ⟨p5, rfl, nD h5⟩ .nil)
        rw [upd_ne fun z => ?_]
        · exact h
        · rw [z, a3] at h
          cases h
    · obtain ⟨us, x5, x6, S3, a3, f3, ul, p3, rfl⟩ := hp
      rw [Int.toNat_natCast] at a3 ul p3
      rw [List.take_length] at p3
      refine lv_cons (sv_set 7 (ev_call C (ok_checksum_of T) (by decide) T.gl_checksum_of (fkp T.d_checksum_of) (av_cons (ev_listB C.calm T.b_list (ev_uptoB (ev_var 0 rfl (ev_fld (ev_var 1 rfl ⟨a, _, dx, _, _, rfl, a3, T.cls_Decoder, T.no_Decoder_place, rfl, wyB wy, 6 + 8 * wy.posts.length, rfl, rfl, hz, by rw [wyB_len]; omega, ?_⟩))))))) hnd)
      rw [wyB_take]
      refine ⟨bodyB wy, rfl, bodyB_B8 w2, by rw [bodyB_len]; omega, fun D4 H4 S4 z4 h4 => av_nil ⟨D4, bodyB wy, rfl, SqL.of h4, ?_⟩⟩
      have a4 := S4 _ _ a3
      refine lv_cons (sv_expr (ev_meth C T.cls_Decoder T.me_Decoder_take_byte (ok_Dec_take_byte T) (by decide) (ev_var 1 rfl ⟨a, dx, _, rfl, a4, rfl, av_cons (ev_var 7 rfl (av_cons (ev_var 7 rfl (av_nil ⟨a, dx, wyB wy, 6 + 8 * wy.posts.length, _, _, _, rfl, a4, h8, hz, wyB_ck wy, Int.le_refl _, Int.le_refl _, ?_⟩))))⟩)))
      refine lv_cons (sv_if (tv_cmp op_lt (ev_fld (ev_var 1 rfl ⟨a, _, dx, _, _, rfl, upd_same, T.cls_Decoder, T.no_Decoder_place, rfl, ev_lenBy C.calm T.b_len (ev_var 0 rfl ⟨wyB wy, rfl, hz, ti2 (fun h => absurd h ?_) fun _ => lv_nil ?_⟩)⟩))))
      · rw [wyB_len]
        omega
      have f4 : upd H4 a (.ins (He.ga K "Decoder") dx (decF (wyB wy) (6 + 8 * wy.posts.length + 1))) f = some (.lst us) := by rw [upd_ne fa]; exact S4 _ _ f3
      have p4 : AreP (upd H4 a (.ins (He.ga K "Decoder") dx (decF (wyB wy) (6 + 8 * wy.posts.length + 1)))) us wy.posts := Paired.mapP p3 fun _ _ ⟨q, e, h⟩ => ⟨q, e, by
        rw [upd_ne fun z => ?_]
        · exact S4 _ _ h
        · rw [z, a3] at h
          cases h⟩
      have S5 := same_fresh (o := .ins (He.ga K "Decoder") dx (decF (wyB wy) (6 + 8 * wy.posts.length + 1))) (S3.trans S4) za
      refine lv_one (sv_ret (ev_mkS C T.mk_Way (ok_Way_init T) (by decide) T.gl_Way (av_cons (ev_var 4 rfl (av_star (ev_var 2 rfl ⟨f, us, rfl, .inr (SqL.of f4), av_nil ?_⟩))))))
      rw [List.append_nil]
      exact wy_made (X := cxOf (L2.CX P w) P w K mg base ["data", "decoder", "posts", "count", "capacity", "turn", "oil", "checksum"] "decode_way" (defScope s_decode_way) (He.ga K "decode_way") cdv A outer s H E) p4 ok fun H7 v7 S7 hv => q H7 v7 (S5.trans S7) hv
end
end OilLaw
set_option Elab.async false
set_option linter.all false
set_option maxRecDepth 100000
set_option maxHeartbeats 2000000
set_option pp.maxSteps 4000
namespace OilLaw
open PySem PySem.Spec PyProof.Rows L2 Oil
local macro_rules | `(tactic| walk_at "kp") => `(tactic| first
  | exact Kp.refl
  | assumption
  | exact Same.kp (by assumption)
  | (refine Kp.tr (Same.kp ?_) ?_; assumption; walk_at "kp")
  | (refine Kp.tr ?_ ?_; assumption; walk_at "kp"))
local macro_rules | `(tactic| walk_at "same") => `(tactic| first
  | exact Same.refl _
  | assumption
  | (refine Same.tr ?_ ?_; assumption; walk_at "same"))
local macro_rules | `(tactic| walk_at "rp") => `(tactic| first
  | assumption
  | (refine IsSt.up ?_ ?_; assumption; walk_at "kp")
  | (refine IsWy.up ?_ ?_; assumption; walk_at "kp")
  | (refine IsPs.up ?_ ?_; assumption; walk_at "kp")
  | (refine IsPr.up ?_ ?_; assumption; walk_at "kp")
  | (refine Kp.tup ?_ ?_; rotate_left; assumption; walk_at "kp"))
/-! ### a number with commas -/
section
open TL
theorem sIx_neg3 {n d : Nat} (h : 3 < n) : HT.sIx n d (some (-3)) = n - 3 := by
  unfold HT.sIx
  simp
  omega
theorem tl_cut0 {z : Str} (h : 3 < z.length) : tl (cutS z none (some (-3))) = (tl z).take ((tl z).length - 3) := by
  unfold cutS
  rw [sIx_neg3 h]
  show ((tl z).drop 0).take (z.length - 3 - 0) = _
  rw [List.drop_zero, Nat.sub_zero, len_tl]
theorem tl_cut3 {z : Str} (h : 3 < z.length) : tl (cutS z (some (-3)) none) = (tl z).drop ((tl z).length - 3) := by
  unfold cutS
  rw [sIx_neg3 h]
  show ((tl z).drop (z.length - 3)).take (z.length - (z.length - 3)) = _
  rw [len_tl]
  refine List.take_of_length_le ?_
  rw [List.length_drop]
  omega
def commaS : Str := ","
def lineS : Str := "_"
def spNum : Sp := fun vs H Q _ => ∃ n : Nat, vs = [.int (n : Nat)] ∧ n < 10000000000 ∧ ∀ z, tl z = padL 95 13 (grp (numL n)) → Q (.str z) H
section
variable {P : Program} {w : World} {K : PySem.W.Frag} {mg : Str → Option Value} {base : Heap}
theorem sc__law_number : FnScope ["_law_number_here", "_law_text", "_law_found"] ["_law_number_here"] (defScope s__law_number) := ⟨rfl, rfl, rfl, by decide +kernel, rfl, by decide +kernel, by decide +kernel⟩
theorem ok__law_number (T : Txt K mg) : FnR P w K mg base (L2.CX P w) 1 (He.ga K "_law_number") spNum := by
  refine fnr T.d__law_number sc__law_number (fun _ _ _ _ _ _ us hl => match us, hl with | [_], _ => rfl) (fun vs H Q E h => ?_) fun cdv A outer s H vs Q E hr h => ?_
  · obtain ⟨n, rfl, _⟩ := h
    rfl
  · obtain ⟨n, rfl, hn, q⟩ := h
    have C := Cal.body (P := P) (w := w) (K := K) (mg := mg) (base := base) (N := ["_law_number_here", "_law_text", "_law_found"]) (outer := outer) (H := H) (E := E) hr
    have hnd := sc__law_number.nd
    have l10 := numL_len10 hn
    have ls : sizeLine = 16777216 := sizeLine_eq
    have tt : tl (tNum (n : Nat)) = numL n := by
      rw [tl_tNum (by omega), Int.toNat_natCast]
    refine lv_cons (sv_par2 1 2 C.calm hnd (av_cons (ev_callT call_str_int T.b_str (av_cons (ev_var 0 rfl (av_nil ⟨_, rfl, log_small (by omega) (by omega), av_cons (ev_str (av_nil ⟨_, _, rfl, ?_⟩))⟩))))))
    refine lv_cons (sv_while (fun σ' H' => H' = H ∧ ∃ t f : Str, σ' = [some (.int (n : Nat)), some (.str t), some (.str f)] ∧ t.length ≤ 10 ∧ f.length ≤ 4 * (10 - t.length) ∧ grp (tl t) ++ tl f = grp (numL n)) (fun σ' _ => match σ' with
      | [_, some (.str t), _] => t.length
      | _ => 0) ⟨rfl, tNum (n : Nat), Str.empty, rfl, by rw [len_tl, tt]; exact l10, Nat.zero_le _, ?_⟩ C.po fun σ' H' hp => ?_)
    · rw [tt]
      exact List.append_nil _
    · obtain ⟨rfl, t, f, rfl, h1, h2, h3⟩ := hp
      refine tv_cmp op_gt (ev_callB C.calm call_len_str T.b_len (av_cons (ev_var 1 rfl (av_nil ⟨t, rfl, by omega, ev_int (ti2 (fun h => ?_) fun h => ?_)⟩))))
      · have h4 : 3 < t.length := by omega
        have lt := cutS_length t (some (-3)) none
        have e1 := tl_cut0 h4
        have e2 := tl_cut3 h4
        have el : (cutS t none (some (-3))).length = t.length - 3 := by
          rw [len_tl, e1, List.length_take, len_tl]
          omega
        have el3 : (cutS t (some (-3)) none).length = 3 := by
          rw [len_tl, e2, List.length_drop]
          rw [len_tl] at h4
          omega
        have lc : commaS.length = 1 := by decide +kernel
        refine lv_one (sv_par2 1 2 C.calm hnd (av_cons (ev_uptoS (ev_var 1 rfl (ev_un un_neg (ev_int (i1 ⟨t, -3, rfl, rfl, by omega, av_cons (ev_bin op_add_str (ev_bin op_add_str (ev_str (ev_fromS (ev_var 1 rfl (ev_un un_neg (ev_int (i1 ⟨t, -3, rfl, rfl, by omega, commaS, _, rfl, rfl, by omega, ev_var 2 rfl ⟨_, f, rfl, rfl, ?_, av_nil ⟨_, _, rfl, ?_⟩⟩⟩))))))))⟩)))))))
        · rw [len_app]
          omega
        · refine ⟨⟨rfl, _, _, rfl, by rw [el]; omega, ?_, ?_⟩, ?_⟩
          · rw [len_app, len_app, el, el3, lc]
            omega
          · rw [e1, tl_append, tl_append, e2, show tl commaS = [44] by decide +kernel, ← h3, grp_step (ds := tl t) (by rw [← len_tl]; omega)]
            simp only [List.append_assoc, List.cons_append, List.nil_append]
          · show (cutS t none (some (-3))).length < t.length
            omega
      · have h5 : (tl t).length ≤ 3 := by
          rw [← len_tl]
          omega
        rw [grp_small h5] at h3
        have l13 := grp_len10 hn
        have lsum : t.length + f.length = (grp (numL n)).length := by
          rw [← h3, List.length_append, ← len_tl, ← len_tl]
        have hm : (Txt.mul lineS (13 - ((t ++ f).length : Nat))).length ≤ 13 := len_mul_one (y := lineS) (c := 95) (N := 13) rfl (by omega)
        refine lv_one (sv_ret (ev_bin op_add_str (ev_bin op_add_str (ev_bin op_mulS (ev_str (ev_bin op_sub (ev_int (ev_callB C.calm call_len_str T.b_len (av_cons (ev_bin op_add_str (ev_var 1 rfl (ev_var 2 rfl ⟨t, f, rfl, rfl, by omega, av_nil ⟨t ++ f, rfl, by rw [len_app]; omega, i2 ⟨lineS, _, rfl, rfl, by decide +kernel, ?_, ?_, ev_var 1 rfl ⟨_, t, rfl, rfl, ?_, ev_var 2 rfl ⟨_, f, rfl, rfl, ?_, q _ ?_⟩⟩⟩⟩⟩))))))))))))
        · omega
        · rw [len_app]
          omega
        · omega
        · rw [len_app]
          omega
        · rw [tl_append, tl_append, show tl (Txt.mul lineS (13 - ((t ++ f).length : Nat))) = List.replicate (13 - ((t ++ f).length : Nat) : Int).toNat 95 from mul_one_list 95 _, List.append_assoc, h3]
          unfold padL
          rw [len_app, lsum]
          congr 2
          omega
end
end
end OilLaw
set_option Elab.async false
set_option linter.all false
set_option maxRecDepth 100000
set_option maxHeartbeats 2000000
set_option pp.maxSteps 4000
namespace OilLaw
open PySem PySem.Spec PyProof.Rows L2 Oil
local macro_rules | `(tactic| walk_at "kp") => `(tactic| first
  | exact Kp.refl
  | assumption
  | exact Same.kp (by assumption)
  | (refine Kp.tr (Same.kp ?_) ?_; assumption; walk_at "kp")
  | (refine Kp.tr ?_ ?_; assumption; walk_at "kp"))
local macro_rules | `(tactic| walk_at "same") => `(tactic| first
  | exact Same.refl _
  | assumption
  | (refine Same.tr ?_ ?_; assumption; walk_at "same"))
local macro_rules | `(tactic| walk_at "rp") => `(tactic| first
  | assumption
  | (refine IsSt.up ?_ ?_; assumption; walk_at "kp")
  | (refine IsWy.up ?_ ?_; assumption; walk_at "kp")
  | (refine IsPs.up ?_ ?_; assumption; walk_at "kp")
  | (refine IsPr.up ?_ ?_; assumption; walk_at "kp")
  | (refine Kp.tup ?_ ?_; rotate_left; assumption; walk_at "kp"))
-- needs DN5
/-! ### the law -/
/-- [elt for a, b in posts], a pair for each -/
theorem lc_prsP {X : Cx} {tg elt : Expr} {scope : Scope} {own : List (Str × Nat)} {σ : L2.St} {Q : VK} {vs : List V} {ps : List (Int × Int)} {H1 : Hp} {K0 : Hp → Prop} (m1 m2 : Nat) (g : Int × Int → Int × Int) (hps : AreP H1 vs ps) (hn : ps.length ≤ 1000) (hK : ∀ H', Same H1 H' → K0 H')
    (hg : ∀ Y, IsBlk X scope Y → ∀ (p : Int × Int) (a : Addr) (σ : L2.St) (H : Hp) (R : L2.St → Hp → Prop), H a = some (.tup [.int p.1, .int p.2]) → R ((σ.set m1 (some (.int p.1))).set m2 (some (.int p.2))) H → GV Y tg (.ref a) σ H R)
    (he : ∀ Y, IsBlk X scope Y → ∀ (p : Int × Int) (H' : Hp) (R : VK), p ∈ ps → Same H1 H' → (∀ v H2, Same H' H2 → IsPr H2 v (g p) → R v H2) → EV Y elt (((wipe σ (own.map (·.2))).set m1 (some (.int p.1))).set m2 (some (.int p.2))) H' R)
    (q : ∀ H' D, Same H1 H' → H1 D = none → IsPl H' D (ps.map g) → Q (.ref D) H')
    (hw : ∀ v u : V, wipe (((wipe σ (own.map (·.2))).set m1 (some v)).set m2 (some u)) (own.map (·.2)) = wipe σ (own.map (·.2)) := by intro _ _; rfl) : LcL X scope own tg elt σ Q vs K0 H1 := by
  intro D zD
  have hl := AreP.len hps
  refine ⟨fun i H' => Same H1 H' ∧ ∃ ws, H' D = some (.lst ws) ∧ ws.length = i ∧ AreP H' ws ((ps.take i).map g), ⟨same_upd' (Same.refl _) zD, [], upd_same, rfl, by rw [List.take_zero]; exact .nil⟩, fun i H' _ hp => hK _ hp.1, fun i x H' hx hp => ?_, fun H' hp => ?_⟩
  · obtain ⟨S, ws, hD, hwl, pw⟩ := hp
    have hi : i < ps.length := by rw [← hl]; exact (List.getElem?_eq_some_iff.mp hx).1
    obtain ⟨u, e1, hpr⟩ := AreP.get hps (p := ps[i]) (List.getElem?_eq_getElem hi)
    rw [hx] at e1
    cases e1
    obtain ⟨pa, rfl, hpa⟩ := hpr
    intro Y hY
    refine hg Y hY ps[i] pa _ _ _ (S _ _ hpa) ⟨hw _ _, fun Y2 hY2 => he Y2 hY2 ps[i] _ _ (List.getElem_mem hi) S fun v H2 S2 hv => ⟨ws, S2 _ _ hD, by rw [sizeLine_eq]; omega, same_upd' (Same.trans S S2) zD, ws ++ [v], upd_same, by rw [List.length_append, hwl]; rfl, ?_⟩⟩
    have nD : ∀ {b : Addr} {xs : List V}, H2 b = some (.tup xs) → upd H2 D (.lst (ws ++ [v])) b = some (.tup xs) := fun {b xs} e => by
      rw [upd_ne fun z => ?_]
      · exact e
      · rw [z, S2 _ _ hD] at e
        cases e
    rw [List.take_succ, List.getElem?_eq_getElem hi, List.map_append]
    refine paired_app (Paired.mapP pw fun _ _ ⟨q, e, h⟩ => ⟨q, e, nD (S2 _ _ h)⟩) (.cons ?_ .nil)
    obtain ⟨q, e, h⟩ := hv
    exact ⟨q, e, nD h⟩
  · obtain ⟨S, ws, hD, hwl, pw⟩ := hp
    rw [hl, List.take_length] at pw
    exact q H' D S zD ⟨ws, hD, pw⟩
section
open TL
section
variable {X : Cx} {e : Expr} {σ : L2.St} {H : Hp} {Q : VK} {p pos : Pos}
theorem ev_strI (hm : X.mg "str" = none) (q : EV X e σ H fun x H1 => ∃ n : Nat, x = .int (n : Nat) ∧ n < 10000000000 ∧ Q (.str (tNum (n : Nat))) H1) (hg : Gl X "str" := by rfl)
    (he : starEach [e] X.env = (false, eval e X.env) :: starEach [] X.env := by rfl) (hpl : (backTo pos (starEach [] X.env)).any (·.1) = false := by rfl) : EV X (.Call (.Name "str" p) [e] [] pos) σ H Q :=
  ev_callT call_str_int hm (av_cons (EV.mono q fun x H1 ⟨n, ex, hn, h⟩ => av_nil ⟨_, by rw [ex], log_small (by omega) (by omega), h⟩) he) (hg := hg) (he := he) (hpl := hpl)
theorem ev_strZ (hm : X.mg "str" = none) (q : EV X e σ H fun x H1 => ∃ i : Int, x = .int i ∧ 0 ≤ i ∧ i < 10000000000 ∧ Q (.str (tNum i)) H1) (hg : Gl X "str" := by rfl)
    (he : starEach [e] X.env = (false, eval e X.env) :: starEach [] X.env := by rfl) (hpl : (backTo pos (starEach [] X.env)).any (·.1) = false := by rfl) : EV X (.Call (.Name "str" p) [e] [] pos) σ H Q :=
  ev_callT call_str_int hm (av_cons (EV.mono q fun x H1 ⟨i, ex, h0, h1, h⟩ => av_nil ⟨_, by rw [ex], log_small (by omega) (by omega), h⟩) he) (hg := hg) (he := he) (hpl := hpl)
theorem ev_lenS (hc : X.calm = true) (hm : X.mg "len" = none) (q : EV X e σ H fun x H1 => ∃ z : Str, x = .str z ∧ z.length ≤ 1000 ∧ Q (.int (z.length : Nat)) H1) (hg : Gl X "len" := by rfl)
    (he : starEach [e] X.env = (false, eval e X.env) :: starEach [] X.env := by rfl) (hpl : (backTo pos (starEach [] X.env)).any (·.1) = false := by rfl) : EV X (.Call (.Name "len" p) [e] [] pos) σ H Q :=
  ev_callB hc call_len_str hm (av_cons (EV.mono q fun x H1 ⟨z, ex, hz, h⟩ => av_nil ⟨z, by rw [ex], by rw [sizeLine_eq]; omega, h⟩) he) (hg := hg) (he := he) (hpl := hpl)
theorem cat_ok {a b : Str} (ha : a.length ≤ 5000) (hb : b.length ≤ 5000) (q : Q (.str (a ++ b)) H) : ∃ i j, V.str a = .str i ∧ V.str b = .str j ∧ i.length + j.length ≤ sizeLine ∧ Q (.str (i ++ j)) H := ⟨a, b, rfl, rfl, by rw [sizeLine_eq]; omega, q⟩
theorem sp_ok {w : Int} {l : Nat} (hw : w ≤ 1000) (h0 : 0 ≤ w) (hl : l ≤ 1000) (q : Q (.str (Txt.mul txSp (w - (l : Nat)))) H) : ∃ (z : Str) (n : Int), V.str txSp = .str z ∧ V.int (w - (l : Nat)) = .int n ∧ z.length ≤ 1 ∧ n ≤ 1000000 ∧ -1000000 ≤ n ∧ Q (.str (Txt.mul z n)) H := ⟨txSp, _, rfl, rfl, by decide +kernel, by omega, by omega, q⟩
end
def headS : Str := "  0 "
theorem headS_len : headS.length = 4 := by decide +kernel
theorem headS_tl : tl headS = [32, 32, 48, 32] := by decide +kernel
theorem tl_sp (w l : Nat) : tl (Txt.mul txSp ((w : Int) - (l : Nat))) = List.replicate (w - l) 32 := by
  rw [show tl (Txt.mul txSp ((w : Int) - (l : Nat))) = List.replicate ((w : Int) - (l : Nat)).toNat 32 from mul_one_list 32 _]
  congr 1
  omega
theorem sp_len (w l : Nat) (h : w ≤ 1000) : (Txt.mul txSp ((w : Int) - (l : Nat))).length ≤ 1000 := by
  rw [len_tl, tl_sp, List.length_replicate]
  omega
theorem tNumN (n : Nat) : tl (tNum (n : Nat)) = numL n := by
  rw [tl_tNum (by omega), Int.toNat_natCast]
theorem tNumN_len {n : Nat} (h : n < 10000000000) : (tNum (n : Nat)).length ≤ 10 := by
  rw [len_tl, tNumN]
  exact numL_len10 h
def postSp : Str := "post "
def lantSp : Str := "lantern "
theorem postSp_tl : tl postSp = tl postS ++ [32] := by decide +kernel
theorem lantSp_tl : tl lantSp = tl lantS ++ [32] := by decide +kernel
theorem tNum_row (p : Int × Int) (h : okP p) : tl (postSp ++ tNum p.1 ++ txSp ++ tNum p.2) = rowPost p := by
  obtain ⟨a, b, c, d⟩ := h
  rw [tl_append, tl_append, tl_append, postSp_tl, tl_spS, tl_tNum a, tl_tNum (by omega)]
  unfold rowPost
  simp only [List.append_assoc, List.cons_append, List.nil_append]
theorem tNum_lan {w : Wy} (h : w.ok) : tl (lantSp ++ tNum w.cap) = rowLan w := by
  have := h.c1
  rw [tl_append, lantSp_tl, tl_tNum (by omega)]
  unfold rowLan
  simp only [List.append_assoc, List.cons_append, List.nil_append]
theorem logR_len {w : Wy} (ok : w.ok) {i n : Nat} {o : Int} {rs : List (List Nat)} (h : LogR w i o n rs) (hi : i < w.posts.length) (h0 : 0 ≤ o) (ho : o ≤ w.cap) (hn : n ≤ 100) : (∀ l ∈ rs, l.length ≤ 100) ∧ rs.length ≤ 102 := by
  obtain ⟨xs, hxs, h⟩ := h
  have c2 := ok.c2
  have n1 := ok.n1
  have n2 := ok.n2
  have xc : ∀ x ∈ xs, x < 10000000000 := fun x hx => by
    obtain ⟨m, hm, e⟩ := List.getElem_of_mem hx
    have e2 := (hxs m hm).trans ((List.getElem?_eq_getElem hm).trans (congrArg some e))
    have := walk_capped ok i e2
    omega
  rcases h with ⟨h1, rfl⟩ | ⟨h1, u, h2, h3, rfl⟩
  · exact ⟨logBase_len (by omega) (by omega) (by omega) n1 (by omega) xc, by rw [logBase_n]; omega⟩
  · refine ⟨fun l hl => ?_, by rw [List.length_append, logBase_n, List.length_singleton]; omega⟩
    rcases List.mem_append.mp hl with hl | hl
    · exact logBase_len (by omega) (by omega) (by omega) n1 (by omega) xc l hl
    · rw [List.mem_singleton.mp hl]
      exact logOut_len (by omega) (by omega)
theorem texts_small {ls : List Str} {rs : List (List Nat)} {k m : Nat} (e : ls.map tl = rs) (h : ∀ l ∈ rs, l.length ≤ k) (hk : k ≤ 1000) (hm : rs.length ≤ m) (hm2 : m ≤ 1000) : (ls.map (·.length)).sum + ls.length * nlS.length ≤ 16777216 := by
  have h1 := strs_len e h
  have h2 : ls.length ≤ m := by rw [← e, List.length_map] at hm; exact hm
  have h3 : nlS.length = 1 := by decide +kernel
  have h4 : ls.length * k ≤ 1000 * 1000 := Nat.mul_le_mul (by omega) (by omega)
  rw [h3]
  omega
theorem row_is (k pl : Nat) (r : Nat) {zn : Str} (hz : tl zn = padL 95 13 (grp (numL r))) : tl (Txt.mul txSp ((3 : Int) - ((tNum (k : Nat)).length : Nat)) ++ tNum (k : Nat) ++ txSp ++ Txt.mul txSp ((2 : Int) - ((tNum (pl : Nat)).length : Nat)) ++ tNum (pl : Nat) ++ txSp ++ zn) = logRow k pl (r : Nat) := by
  simp only [tl_append]
  rw [hz, tl_spS, show tl (Txt.mul txSp ((3 : Int) - ((tNum (k : Nat)).length : Nat))) = List.replicate (3 - (tNum (k : Nat)).length) 32 from tl_sp 3 _, show tl (Txt.mul txSp ((2 : Int) - ((tNum (pl : Nat)).length : Nat))) = List.replicate (2 - (tNum (pl : Nat)).length) 32 from tl_sp 2 _, len_tl, len_tl, tNumN, tNumN]
  unfold logRow padL
  simp only [List.append_assoc, List.cons_append, List.nil_append, Int.toNat_natCast]
theorem out_is (k : Nat) (r : Nat) {zn : Str} (hz : tl zn = padL 95 13 (grp (numL r))) : tl (Txt.mul txSp ((3 : Int) - ((tNum (k : Nat)).length : Nat)) ++ tNum (k : Nat) ++ dashS ++ zn) = logOut k (r : Nat) := by
  simp only [tl_append]
  rw [hz, show tl dashS = [32, 45, 45, 32] by decide +kernel, show tl (Txt.mul txSp ((3 : Int) - ((tNum (k : Nat)).length : Nat))) = List.replicate (3 - (tNum (k : Nat)).length) 32 from tl_sp 3 _, len_tl, tNumN]
  unfold logOut padL
  simp only [List.append_assoc, List.cons_append, List.nil_append, Int.toNat_natCast]
section
variable {P : Program} {w : World} {K : PySem.W.Frag} {mg : Str → Option Value} {base : Heap}
theorem sc_law : FnScope ["_law_script", "_law_row", "_law_way_here", "_law_capacity_here", "_law_posts_here", "_law_post", "_law_oil", "_law_by", "_law_there", "_law_steps", "_law_legs", "_law_found", "_law_out", "_law_rows", "_law_k", "_law_head", "_law_leg", "_law_words", "_law_text", "_law_other", "_law_again", "_law_logs", "_law_one"] ["_law_script"] (defScope s_law) := ⟨rfl, rfl, rfl, by decide +kernel, rfl, by decide +kernel, by decide +kernel⟩
abbrev lawN : List Str := ["_law_script", "_law_row", "_law_way_here", "_law_capacity_here", "_law_posts_here", "_law_post", "_law_oil", "_law_by", "_law_there", "_law_steps", "_law_legs", "_law_found", "_law_out", "_law_rows", "_law_k", "_law_head", "_law_leg", "_law_words", "_law_text", "_law_other", "_law_again", "_law_logs", "_law_one"]
abbrev LX (P : Program) (w : World) (K : PySem.W.Frag) (mg : Str → Option Value) (base : Heap) (cdv : Value) (A : Around) (outer : List Env) (s : Shared) (H : Hp) (E : XK) : Cx := cxOf (L2.CX P w) P w K mg base lawN "law" (defScope s_law) (He.ga K "law") cdv A outer s H E
/-- what a log is -/
def LogS (wy : Wy) (i : Nat) (os : Int) (n : Nat) (z : Str) : Prop := ∃ rs, LogR wy i os n rs ∧ tl z = joinL [10] rs
theorem logS_one {wy : Wy} {i n : Nat} {os : Int} {z z' : Str} (h : LogS wy i os n z) (h' : LogS wy i os n z') : z = z' := by
  obtain ⟨rs, a, b⟩ := h
  obtain ⟨rs', a', b'⟩ := h'
  rw [logR_det a' a, ← b] at b'
  exact (ext_tl b').symm
theorem tail12 (T : Txt K mg) {cdv : Value} {A : Around} {outer : List Env} {s : Shared} {H0 H : Hp} {E : XK} {Q : VK} {s0 s1 s4 s7 s8 s9 s11 s12 s13 s14 s15 s16 s17 : Option V} {v : V} {wy : Wy} {i n os : Nat} {zt : Str}
    (C : Cal (LX P w K mg base cdv A outer s H0 E) 9 E) (hw : IsWy K H v wy) (hi : i < wy.posts.length) (ho : (os : Int) ≤ wy.cap) (n1 : 1 ≤ n) (n2 : n ≤ 100) (hz : tl zt = wyL wy) (q : ∀ H', Q (.bl true) H') :
    LV (LX P w K mg base cdv A outer s H0 E) ((defBody s_law).drop 12) [s0, s1, some v, some (.int wy.cap), s4, some (.int (i : Nat)), some (.int (os : Nat)), s7, s8, s9, some (.int (n : Nat)), s11, s12, s13, s14, s15, s16, s17, some (.str zt), none, none, none, none] H { nx := fun _ H' => Q .non H', rt := Q } := by
  have hnd := sc_law.nd
  refine lv_cons (sv_if (tv_w (wv_or (tv_cmp op_ne (ev_call C (ok_format_way T) (by decide) T.gl_format_way (fkp T.d_format_way) (av_cons (ev_var 2 rfl (av_nil ⟨v, wy, rfl, hw, fun H1 z1 S1 e1 => ev_var 18 rfl (tne (by rfl) (fun h => absurd (congrArg V.str (ext_tl (e1.trans hz.symm))) h) fun _ => ?_)⟩))))))))
  refine wv_or1 (tv_not (tv_cmp (op_eqWy T C (by decide)) (ev_call C (ok_parse_way T) (by decide) T.gl_parse_way (fkp T.d_parse_way) (av_cons (ev_var 18 rfl (av_nil ⟨zt, wy, rfl, hw.1, hz, fun H2 v2 S2 h2 => ev_var 2 rfl ⟨wy, h2, .inl ⟨wy, (hw.upS S1).upS S2, _, rfl, br_kt (decide_eq_true rfl) (lv_nil ?_)⟩⟩⟩))))))
  refine lv_cons (sv_set 19 (ev_call C (ok_decode_way T) (by decide) T.gl_decode_way (fkp T.d_decode_way) (av_cons (ev_call C (ok_encode_way T) (by decide) T.gl_encode_way (fkp T.d_encode_way) (av_cons (ev_var 2 rfl (av_nil ⟨v, wy, rfl, (hw.upS S1).upS S2, fun H3 S3 => av_nil ⟨wy, rfl, hw.1, fun H4 v4 S4 h4 => ?_⟩⟩)))))) hnd)
  refine lv_cons (sv_set 20 (ev_call C (ok_parse_way T) (by decide) T.gl_parse_way (fkp T.d_parse_way) (av_cons (ev_var 18 rfl (av_nil ⟨zt, wy, rfl, hw.1, hz, fun H5 v5 S5 h5 => ?_⟩)))) hnd)
  have hw5 := hw.upS (S1.trans (S2.trans (S3.trans (S4.trans S5))))
  have h45 := h4.upS S5
  refine lv_cons (sv_lcT 21 [("_law_one", 22)] C.calm hnd (ev_tup (av_cons (ev_var 19 rfl (av_cons (ev_var 20 rfl (av_nil ⟨by show 2 ≤ sizeLine; decide, fun H6 p6 S6 h6 _ => ⟨p6, _, rfl, SqT.of h6, ?_⟩⟩)))))))
  refine lc_pair 22 (fun _ v => ∃ z, v = .str z ∧ LogS wy i os n z) (fun H H' v e k => e) (fun H' S => SqT.of (S _ _ h6)) (by rintro Y ⟨s0, H0, C0, cl, fp, rfl⟩ v σ H R r; exact gv_name 22 r hnd) (fun Y hY z HX R hz SX r9 => ?_) fun H7 l7 a7 b7 S7 z7 h7 ha7 hb7 => ?_
  · obtain ⟨s0, H0, C0, cl, fp, rfl⟩ := hY
    have hzw : IsWy K HX z wy := by
      rcases hz with rfl | rfl
      · exact h45.upS (S6.trans SX)
      · exact h5.upS (S6.trans SX)
    exact ev_call (Cal.blk C) (ok_log_text T) (by decide) T.gl_log_text (fkp T.d_log_text) (av_cons (ev_var 22 rfl (av_cons (ev_var 5 rfl (av_cons (ev_var 6 rfl (av_cons (ev_var 10 rfl (av_nil ⟨z, wy, i, n, os, rfl, hzw, hi, by omega, ho, n1, n2, fun H8 z8 rs S8 hr e8 => r9 _ _ S8 ⟨z8, rfl, rs, hr, e8⟩⟩)))))))))
  obtain ⟨za, rfl, ea⟩ := ha7
  obtain ⟨zb, rfl, eb⟩ := hb7
  cases logS_one ea eb
  refine lv_one (sv_ret (ev_andV (ev_cmp (op_eqWy T C (by decide)) (ev_var 19 rfl (ev_var 2 rfl ⟨wy, h45.upS (S6.trans S7), .inl ⟨wy, hw5.upS (S6.trans S7), _, rfl, br_kt (decide_eq_true rfl) (ev_one (ev_cmp op_eq (ev_ixL (ev_var 21 rfl (ev_int ⟨l7, _, 0, _, rfl, rfl, SqL.of h7, atI_zero _ _, ev_ixL (ev_var 21 rfl (ev_int ⟨l7, _, 1, _, rfl, rfl, SqL.of h7, by rfl, rfl, ?_⟩))⟩)))))⟩⟩)))))
  rw [decide_eq_true rfl]
  exact q _
theorem tail9 (T : Txt K mg) {cdv : Value} {A : Around} {outer : List Env} {s : Shared} {H0 H : Hp} {E : XK} {Q : VK} {s0 s1 s7 s8 s9 s11 s12 s14 s15 s16 : Option V} {v : V} {wy : Wy} {i n os : Nat} {l rl : Addr} {ls : List Str}
    (C : Cal (LX P w K mg base cdv A outer s H0 E) 9 E) (hw : IsWy K H v wy) (hi : i < wy.posts.length) (ho : (os : Int) ≤ wy.cap) (n1 : 1 ≤ n) (n2 : n ≤ 100) (hpl : IsPl H l wy.posts) (hrl : H rl = some (.lst (ls.map V.str))) (hlr : LogR wy i os n (ls.map tl)) (q : ∀ H', Q (.bl true) H') :
    LV (LX P w K mg base cdv A outer s H0 E) ((defBody s_law).drop 9) [s0, s1, some v, some (.int wy.cap), some (.ref l), some (.int (i : Nat)), some (.int (os : Nat)), s7, s8, s9, some (.int (n : Nat)), s11, s12, some (.ref rl), s14, s15, s16, none, none, none, none, none, none] H { nx := fun _ H' => Q .non H', rt := Q } := by
  have hnd := sc_law.nd
  have c1 := hw.1.c1
  have c2 := hw.1.c2
  have w2 := hw.1.n2
  have lsz : sizeLine = 16777216 := sizeLine_eq
  obtain ⟨lb1, lb2⟩ := logR_len hw.1 hlr hi (by omega) ho n2
  refine lv_cons (sv_if (tv_cmp op_ne (ev_call C (ok_log_text T) (by decide) T.gl_log_text (fkp T.d_log_text) (av_cons (ev_var 2 rfl (av_cons (ev_var 5 rfl (av_cons (ev_var 6 rfl (av_cons (ev_var 10 rfl (av_nil ⟨v, wy, i, n, os, rfl, hw, hi, by omega, ho, n1, n2, fun H1 z1 rs S1 hr e1 => ?_⟩))))))))))))
  refine ev_join (ev_str ⟨nlS, rfl, ev_var 13 rfl ⟨rl, ls, rfl, SqL.of (S1 _ _ hrl), texts_small rfl lb1 (by decide) lb2 (by decide), tne (by rfl) (fun h => absurd (congrArg V.str (ext_tl ?_)) h) fun _ => lv_nil ?_⟩⟩)
  · rw [e1, tl_joinT, tl_nlS, logR_det hr hlr]
  have hw1 := hw.upS S1
  obtain ⟨us, hus, hps⟩ := hpl.same S1
  have lpo : postSp.length = 5 := by decide +kernel
  have lla : lantSp.length = 8 := by decide +kernel
  have lsp : txSp.length = 1 := by decide +kernel
  refine lv_cons (sv_lcL 17 [("_law_there", 8), ("_law_steps", 9)] C.calm hnd (ev_var 4 rfl ⟨l, us, rfl, SqL.of hus, ?_⟩))
  refine lc_prsG 8 9 (fun p v => ∃ z : Str, v = .str z ∧ tl z = rowPost p) hps (by omega) (fun H' S => SqL.of (S _ _ hus)) (fun Y hY p a σ H' R hp r => ?_) (fun Y hY p H' R hp S r => ?_) (fun H2 l2 ws S2 z2 h2 pw => ?_)
  · obtain ⟨s0, H0, C0, cl, fp, rfl⟩ := hY
    exact gv_tup C.calm (SqT.of hp) rfl (gsv_cons (gv_name 8 (gsv_cons (gv_name 9 (gsv_nil r) hnd)) hnd))
  · obtain ⟨s0, H0, C0, cl, fp, rfl⟩ := hY
    have okp := hw.1.ps p hp
    obtain ⟨a1, a2, a3, a4⟩ := okp
    have l1 := (tNum_len (i := p.1) a1 (by omega)).1
    have l2 := (tNum_len (i := p.2) (by omega) (by omega)).1
    refine ev_bin op_add_str (ev_bin op_add_str (ev_bin op_add_str (ev_str (ev_strZ T.b_str (ev_var 8 rfl ⟨p.1, rfl, a1, by omega, postSp, _, rfl, rfl, by omega, ?_⟩)))))
    refine ev_str ⟨_, txSp, rfl, rfl, by rw [len_app]; omega, ?_⟩
    refine ev_strZ T.b_str (ev_var 9 rfl ⟨p.2, rfl, by omega, by omega, _, _, rfl, rfl, by rw [len_app, len_app]; omega, ?_⟩)
    exact r _ _ (Same.refl _) ⟨_, rfl, tNum_row p (hw.1.ps p hp)⟩
  obtain ⟨ys, rfl, hys⟩ := paired_strs pw
  have l1 := (tNum_len (i := wy.cap) (by omega) (by omega)).1
  have hyl : ys.length = wy.posts.length := by
    have := congrArg List.length hys
    rw [List.length_map, List.length_map] at this
    exact this
  refine lv_cons (sv_set 18 (ev_join (ev_str ⟨nlS, rfl, ev_bin op_cat (ev_lst (av_cons (ev_bin op_add_str (ev_str (ev_strZ T.b_str (ev_var 3 rfl ⟨wy.cap, rfl, by omega, by omega, lantSp, _, rfl, rfl, by omega, av_nil ⟨by show 1 ≤ sizeLine; decide, fun H3 l3 S3 h3 z3 => ev_var 17 rfl ?_⟩⟩))))))⟩)) hnd)
  refine ⟨l3, l2, _, _, rfl, rfl, h3, S3 _ _ h2, by rw [List.length_map, hyl, lsz]; show 1 + _ ≤ _; omega, fun p4 z4 => ?_⟩
  have hall : ((lantSp ++ tNum wy.cap) :: ys).map tl = rowLan wy :: wy.posts.map rowPost := by
    rw [List.map_cons, tNum_lan hw.1, hys]
  refine ⟨p4, (lantSp ++ tNum wy.cap) :: ys, rfl, SqL.of upd_same, texts_small hall (fun l hl => ?_) (by decide : 30 ≤ 1000) (m := 13) (by rw [List.length_cons, List.length_map]; omega) (by decide), ?_⟩
  · rcases List.mem_cons.mp hl with rfl | hl
    · exact rowLan_len hw.1
    · obtain ⟨p, hp, rfl⟩ := List.mem_map.mp hl
      exact rowPost_len (hw.1.ps p hp)
  exact tail12 T C (hw1.upS (S2.trans (S3.trans (same_upd z4)))) hi ho n1 n2 (by rw [tl_joinT, tl_nlS, hall]; rfl) q
theorem tail7 (T : Txt K mg) {cdv : Value} {A : Around} {outer : List Env} {s : Shared} {H0 H : Hp} {E : XK} {Q : VK} {s0 s1 s7 : Option V} {v z : V} {wy : Wy} {i n os : Nat} {l f rl : Addr} {xs : List Int} {z0 : Str}
    (C : Cal (LX P w K mg base cdv A outer s H0 E) 9 E) (hw : IsWy K H v wy) (hi : i < wy.posts.length) (ho : (os : Int) ≤ wy.cap) (n1 : 1 ≤ n) (n2 : n ≤ 100) (hpl : IsPl H l wy.posts) (nl : l ≠ rl) (nf : f ≠ rl) (hf : H f = some (.lst (xs.map V.int))) (W : Walked H wy i os n xs z) (hrl : H rl = some (.lst ([z0].map V.str))) (hz0 : tl z0 = logRow 0 i (os : Nat)) (q : ∀ H', Q (.bl true) H') :
    LV (LX P w K mg base cdv A outer s H0 E) ((defBody s_law).drop 7) [s0, s1, some v, some (.int wy.cap), some (.ref l), some (.int (i : Nat)), some (.int (os : Nat)), s7, none, none, some (.int (n : Nat)), some (.ref f), some z, some (.ref rl), none, none, none, none, none, none, none, none, none] H { nx := fun _ H' => Q .non H', rt := Q } := by
  have hnd := sc_law.nd
  have c1 := hw.1.c1
  have c2 := hw.1.c2
  have w1 := hw.1.n1
  have w2 := hw.1.n2
  have lsz : sizeLine = 16777216 := sizeLine_eq
  have lsp : txSp.length = 1 := by decide +kernel
  have lda : dashS.length = 4 := by decide +kernel
  have hs1 : txSp.length ≤ 1 := by decide +kernel
  obtain ⟨us, hus, hps⟩ := hpl
  have hul : us.length = wy.posts.length := AreP.len hps
  obtain ⟨hxs, hout⟩ := W
  have hxn : xs.length ≤ n := by
    rcases hout with h | h
    · omega
    · omega
  have xb : ∀ x ∈ xs, 0 ≤ x ∧ x < 10000000000 := fun x hx => by
    obtain ⟨m, hm, e⟩ := List.getElem_of_mem hx
    have e2 := (hxs m hm).trans ((List.getElem?_eq_getElem hm).trans (congrArg some e))
    have h1 := walk_capped hw.1 i e2
    have h2 := walk_nonneg (by omega) e2
    omega
  refine lv_cut (fun σ' H' => ∃ (ls : List Str) (x8 x14 x15 : Option V), But rl H H' ∧ H' rl = some (.lst (ls.map V.str)) ∧ ls.map tl = logBase wy i os xs ∧ σ' = [s0, s1, some v, some (.int wy.cap), some (.ref l), some (.int (i : Nat)), some (.int (os : Nat)), s7, x8, none, some (.int (n : Nat)), some (.ref f), some z, some (.ref rl), x14, x15, none, none, none, none, none, none, none]) ?_ ?_
  · refine sv_forR1 C.calm C.po T.b_range (ev_lenL C T.b_len (ev_var 11 rfl ⟨f, _, rfl, SqL.of hf, (xs.length : Nat), by rw [List.length_map], by omega, by omega, fun j σ' H' => ∃ (ls : List Str) (x8 x14 x15 : Option V), But rl H H' ∧ H' rl = some (.lst (ls.map V.str)) ∧ ls.map tl = logBase wy i os (xs.take j) ∧ σ' = [s0, s1, some v, some (.int wy.cap), some (.ref l), some (.int (i : Nat)), some (.int (os : Nat)), s7, x8, none, some (.int (n : Nat)), some (.ref f), some z, some (.ref rl), x14, x15, none, none, none, none, none, none, none], ⟨[z0], none, none, none, But.refl, hrl, by rw [List.map_singleton, hz0]; rfl, rfl⟩, fun j σ' H' hj hp => ?_, fun σ' H' hp => ?_⟩))
    · obtain ⟨ls, x8, x14, x15, B, h1, hls, rfl⟩ := hp
      have hj : j < xs.length := by omega
      have hll : ls.length = j + 1 := by
        have := congrArg List.length hls
        rw [List.length_map, logBase_n, List.length_take, Nat.min_eq_left (by omega)] at this
        exact this
      obtain ⟨r0, r1⟩ := xb xs[j] (List.getElem_mem hj)
      obtain ⟨rn, ern⟩ : ∃ m : Nat, xs[j] = (m : Int) := ⟨xs[j].toNat, by omega⟩
      have hlt : (i + j + 1) % wy.posts.length < wy.posts.length := Nat.mod_lt _ w1
      have lk := tNumN_len (n := j + 1) (by omega)
      have lp := tNumN_len (n := (i + j + 1) % wy.posts.length) (by omega)
      have sk : (Txt.mul txSp ((3 : Int) - ((tNum ((j + 1 : Nat) : Int)).length : Nat))).length ≤ 1000 := sp_len 3 _ (by decide)
      have sp : (Txt.mul txSp ((2 : Int) - ((tNum (((i + j + 1) % wy.posts.length : Nat) : Int)).length : Nat))).length ≤ 1000 := sp_len 2 _ (by decide)
      refine gv_name 14 ?_ hnd
      refine lv_cons (sv_set 8 (ev_strI T.b_str (ev_bin op_mod (ev_callT call_int1 T.b_int (av_cons (ev_bin op_add (ev_bin op_add (ev_var 5 rfl (ev_var 14 rfl (i2 (ev_int (i2 (av_nil (Or.inl ⟨_, rfl, ev_lenL C T.b_len (ev_var 4 rfl ⟨l, us, rfl, SqL.of (B.at hus nl), i2c (by omega) ⟨(i + j + 1) % wy.posts.length, ?_, by omega, ?_⟩⟩)⟩))))))))))))) hnd)
      · rw [hul, show ((i : Nat) : Int) + ((j : Nat) : Int) + 1 = ((i + j + 1 : Nat) : Int) by omega, ← Int.natCast_emod]
      have ej : ((j : Nat) : Int) + 1 = ((j + 1 : Nat) : Int) := by omega
      refine lv_cons (sv_set 15 (ev_bin op_add_str (ev_bin op_add_str ?_)) hnd)
      refine ev_bin op_add_str (ev_bin op_add_str ?_)
      refine ev_bin op_mulS (ev_str (ev_bin op_sub (ev_int (ev_lenS C.calm T.b_len (ev_strI T.b_str (ev_bin op_add (ev_var 14 rfl (ev_int (i2 ⟨j + 1, by rw [ej], by omega, tNum ((j + 1 : Nat) : Int), rfl, by omega, i2 ⟨txSp, _, rfl, rfl, hs1, by omega, by omega, ?_⟩⟩)))))))))
      refine ev_strI T.b_str (ev_bin op_add (ev_var 14 rfl (ev_int (i2 ⟨j + 1, by rw [ej], by omega, _, _, rfl, rfl, by omega, ?_⟩))))
      refine ev_str ⟨_, txSp, rfl, rfl, by rw [len_app]; omega, ?_⟩
      refine ev_bin op_mulS (ev_str (ev_bin op_sub (ev_int (ev_lenS C.calm T.b_len (ev_var 8 rfl ⟨tNum (((i + j + 1) % wy.posts.length : Nat) : Int), rfl, by omega, i2 ⟨txSp, _, rfl, rfl, hs1, by omega, by omega, ?_⟩⟩)))))
      refine ⟨_, _, rfl, rfl, by rw [len_app, len_app]; omega, ev_var 8 rfl ⟨_, _, rfl, rfl, by rw [len_app, len_app, len_app]; omega, ?_⟩⟩
      refine lv_one (sv_expr (ev_append (ev_var 13 rfl ⟨rl, rfl, ⟨_, SqL.of h1⟩, ev_bin op_add_str (ev_bin op_add_str (ev_var 15 rfl (ev_str ⟨_, txSp, rfl, rfl, ?_, ?_⟩)))⟩)))
      · simp only [len_app]
        omega
      refine ev_call C (ok__law_number T) (by decide) T.gl__law_number (fkp T.d__law_number) (av_cons (ev_ixL (ev_var 11 rfl (ev_var 14 rfl ⟨f, _, (j : Nat), .int rn, rfl, rfl, SqL.of (B.at hf nf), by rw [atI_eq, List.getElem?_map, List.getElem?_eq_getElem hj, ern]; rfl, av_nil ⟨rn, rfl, by omega, fun zn hzn => ?_⟩⟩))))
      have lzn : zn.length ≤ 40 := by
        rw [len_tl, hzn]
        have := padL_len 95 13 (grp (numL rn))
        have := grp_len10 (n := rn) (by omega)
        omega
      refine ⟨_, zn, rfl, rfl, by simp only [len_app]; omega, _, h1, by rw [List.length_map, hll, lsz]; omega, ?_⟩
      have hrow := row_is (j + 1) ((i + j + 1) % wy.posts.length) rn hzn
      generalize Txt.mul txSp ((3 : Int) - ((tNum ((j + 1 : Nat) : Int)).length : Nat)) ++ tNum ((j + 1 : Nat) : Int) ++ txSp ++ Txt.mul txSp ((2 : Int) - ((tNum (((i + j + 1) % wy.posts.length : Nat) : Int)).length : Nat)) ++ tNum (((i + j + 1) % wy.posts.length : Nat) : Int) ++ txSp ++ zn = zr at hrow
      refine ⟨ls ++ [zr], _, _, _, But.tr but_upd B, by rw [upd_same, List.map_append]; rfl, ?_, rfl⟩
      rw [List.map_append, hls, List.map_singleton, hrow, List.take_succ, List.getElem?_eq_getElem hj, ern]
      show _ = logBase wy i os (xs.take j ++ [(rn : Int)])
      rw [logBase_app, List.length_take, Nat.min_eq_left (by omega)]
    · obtain ⟨ls, x8, x14, x15, B, h1, hls, rfl⟩ := hp
      rw [Int.toNat_natCast, List.take_length] at hls
      exact ⟨ls, x8, x14, x15, B, h1, hls, rfl⟩
  rintro σ2 H2 ⟨ls, x8, x14, x15, B, h1, hls, rfl⟩
  have hll : ls.length = xs.length + 1 := by
    have := congrArg List.length hls
    rw [List.length_map, logBase_n] at this
    exact this
  have kp2 : Kp K H H2 := B.kp hrl
  have hw2 := hw.up kp2
  have hpl2 : IsPl H2 l wy.posts := ⟨us, B.at hus nl, Paired.mapP hps fun _ _ ⟨q, e, h⟩ => ⟨q, e, kp2.tup h⟩⟩
  rcases hout with ⟨e, rfl⟩ | ⟨hlt, hnone, qa, u, hu, rfl, hq⟩
  · refine lv_cons (sv_if (tv_notN (ev_var 12 rfl (bO0 (lv_nil ?_)))))
    exact tail9 T C hw2 hi ho n1 n2 hpl2 h1 ⟨xs, hxs, .inl ⟨e, hls⟩⟩ q
  · have u0 := walk_nonneg (show (0 : Int) ≤ os by omega) hu
    obtain ⟨a1, a2, a3, a4⟩ := hw.1.at_ok (i + xs.length)
    obtain ⟨rn, ern⟩ : ∃ m : Nat, min wy.cap (u + (wy.at (i + xs.length)).1) = (m : Int) := ⟨(min wy.cap (u + (wy.at (i + xs.length)).1)).toNat, by omega⟩
    rw [ern] at hq
    have hq2 := kp2.tup hq
    have lk := tNumN_len (n := xs.length + 1) (by omega)
    have sk : (Txt.mul txSp ((3 : Int) - ((tNum ((xs.length + 1 : Nat) : Int)).length : Nat))).length ≤ 1000 := sp_len 3 _ (by decide)
    refine lv_cons (sv_if (tv_notN (ev_var 12 rfl (bO2 ?_))))
    refine lv_cons (sv_set 16 (ev_strI T.b_str (ev_bin op_add (ev_ixT (ev_var 12 rfl (ev_int ⟨qa, _, 0, _, rfl, rfl, hq2, atI_zero _ _, ev_int (i2 ⟨xs.length + 1, by rw [show ((xs.length : Nat) : Int) + 1 = ((xs.length + 1 : Nat) : Int) by omega], by omega, ?_⟩)⟩))))) hnd)
    refine lv_one (sv_expr (ev_append (ev_var 13 rfl ⟨rl, rfl, ⟨_, SqL.of h1⟩, ev_bin op_add_str (ev_bin op_add_str (ev_bin op_add_str ?_))⟩)))
    refine ev_bin op_mulS (ev_str (ev_bin op_sub (ev_int (ev_lenS C.calm T.b_len (ev_var 16 rfl ⟨tNum ((xs.length + 1 : Nat) : Int), rfl, by omega, i2 ⟨txSp, _, rfl, rfl, hs1, by omega, by omega, ?_⟩⟩)))))
    refine ev_var 16 rfl ⟨_, _, rfl, rfl, by omega, ev_str ⟨_, dashS, rfl, rfl, by rw [len_app]; omega, ?_⟩⟩
    refine ev_call C (ok__law_number T) (by decide) T.gl__law_number (fkp T.d__law_number) (av_cons (ev_ixT (ev_var 12 rfl (ev_int ⟨qa, _, 1, .int rn, rfl, rfl, hq2, by rfl, av_nil ⟨rn, rfl, by omega, fun zn hzn => ?_⟩⟩))))
    have lzn : zn.length ≤ 40 := by
      rw [len_tl, hzn]
      have := padL_len 95 13 (grp (numL rn))
      have := grp_len10 (n := rn) (by omega)
      omega
    refine ⟨_, zn, rfl, rfl, by simp only [len_app]; omega, _, h1, by rw [List.length_map, hll, lsz]; omega, ?_⟩
    have hrow := out_is (xs.length + 1) rn hzn
    generalize Txt.mul txSp ((3 : Int) - ((tNum ((xs.length + 1 : Nat) : Int)).length : Nat)) ++ tNum ((xs.length + 1 : Nat) : Int) ++ dashS ++ zn = zr at hrow
    have B3 : But rl H2 (upd H2 rl (.lst (ls.map V.str ++ [V.str zr]))) := but_upd
    have kp3 : Kp K H2 (upd H2 rl (.lst (ls.map V.str ++ [V.str zr]))) := B3.kp h1
    refine tail9 (ls := ls ++ [zr]) T C (hw2.up kp3) hi ho n1 n2 ⟨us, B3.at (B.at hus nl) nl, Paired.mapP hps fun _ _ ⟨q, e, h⟩ => ⟨q, e, kp3.tup (kp2.tup h)⟩⟩ (by rw [upd_same, List.map_append]; rfl) ⟨xs, hxs, .inr ⟨hlt, u, hu, hnone, ?_⟩⟩ q
    rw [List.map_append, hls, List.map_singleton, hrow, ern]
theorem tail6 (T : Txt K mg) {cdv : Value} {A : Around} {outer : List Env} {s : Shared} {H0 H9 : Hp} {E : XK} {Q : VK} {s0 s1 s7 : Option V} {v7 z : V} {wy : Wy} {i n os : Nat} {l6 f : Addr} {xs : List Int}
    (C : Cal (LX P w K mg base cdv A outer s H0 E) 9 E) (hw9 : IsWy K H9 v7 wy) (hi : i < wy.posts.length) (oS1 : (os : Int) ≤ wy.cap) (ng1 : 1 ≤ n) (ng2 : n ≤ 100) (hpl9 : IsPl H9 l6 wy.posts) (hf : H9 f = some (.lst (xs.map V.int))) (W : Walked H9 wy i os n xs z) (q : ∀ H', Q (.bl true) H') :
    LV (LX P w K mg base cdv A outer s H0 E) ((defBody s_law).drop 6) [s0, s1, some v7, some (.int wy.cap), some (.ref l6), some (.int (i : Nat)), some (.int (os : Nat)), s7, none, none, some (.int (n : Nat)), some (.ref f), some z, none, none, none, none, none, none, none, none, none, none] H9 { nx := fun _ H' => Q .non H', rt := Q } := by
  have hnd := sc_law.nd
  have wc1 := hw9.1.c1
  have wc2 := hw9.1.c2
  have w1 := hw9.1.n1
  have w2 := hw9.1.n2
  have lsp : txSp.length = 1 := by decide +kernel
  have hs1 : txSp.length ≤ 1 := by decide +kernel
  have lsz : sizeLine = 16777216 := sizeLine_eq
  have lh := headS_len
  have li := tNumN_len (n := i) (by omega)
  have sl : (Txt.mul txSp ((2 : Int) - ((tNum (i : Nat)).length : Nat))).length ≤ 1000 := sp_len 2 _ (by decide)
  have hg13 := grp_len10 (n := os) (by omega)
  -- the first row
  refine lv_cons (sv_set 13 (ev_lst (av_cons ?_)) hnd)
  refine ev_bin op_add_str ?_
  refine ev_bin op_add_str ?_
  refine ev_bin op_add_str ?_
  refine ev_bin op_add_str ?_
  refine ev_str (ev_bin op_mulS (ev_str (ev_bin op_sub (ev_int (ev_lenS C.calm T.b_len (ev_strI T.b_str (ev_var 5 rfl ⟨i, rfl, by omega, tNum (i : Nat), rfl, by omega, i2 ⟨txSp, _, rfl, rfl, hs1, by omega, by omega, headS, _, rfl, rfl, by rw [lh, lsz]; omega, ?_⟩⟩)))))))
  refine ev_strI T.b_str (ev_var 5 rfl ⟨i, rfl, by omega, _, _, rfl, rfl, by rw [len_app, lh, lsz]; omega, ?_⟩)
  refine ev_str ⟨_, txSp, rfl, rfl, by rw [len_app, len_app, lh, lsz, lsp]; omega, ?_⟩
  refine ev_call C (ok__law_number T) (by decide) T.gl__law_number (fkp T.d__law_number) (av_cons (ev_var 6 rfl (av_nil ?_)))
  refine ⟨os, rfl, by omega, fun zn hzn => ?_⟩
  have lzn : zn.length ≤ 40 := by
    rw [len_tl, hzn]
    have := padL_len 95 13 (grp (numL os))
    omega
  refine ⟨_, zn, rfl, rfl, by rw [len_app, len_app, len_app, lh, lsz, lsp]; omega, av_nil ⟨by show 1 ≤ sizeLine; decide, fun HC rl SC hC zC => ?_⟩⟩
  have hrow0 : tl (headS ++ Txt.mul txSp ((2 : Int) - ((tNum (i : Nat)).length : Nat)) ++ tNum (i : Nat) ++ txSp ++ zn) = logRow 0 i (os : Nat) := by
    rw [tl_append, tl_append, tl_append, tl_append, hzn, headS_tl, tNumN, tl_spS, show tl (Txt.mul txSp ((2 : Int) - ((tNum (i : Nat)).length : Nat))) = List.replicate (2 - (tNum (i : Nat)).length) 32 from tl_sp 2 _, len_tl, tNumN]
    unfold logRow
    rw [Int.toNat_natCast, show padL 32 3 (numL 0) = [32, 32, 48] by decide +kernel]
    unfold padL
    simp only [List.append_assoc, List.cons_append, List.nil_append]
  generalize headS ++ Txt.mul txSp ((2 : Int) - ((tNum (i : Nat)).length : Nat)) ++ tNum (i : Nat) ++ txSp ++ zn = z0 at hC hrow0
  have hC' : HC rl = some (.lst ([z0].map V.str)) := hC
  clear hC lzn hzn sl li hg13 lh
  have nof : ∀ {b : Addr} {ys : List V}, H9 b = some (.lst ys) → b ≠ rl := fun {b ys} h e => by
    rw [e] at h
    exact absurd (h.symm.trans zC) (fun h => by cases h)
  have nl : l6 ≠ rl := by
    obtain ⟨us, hus, _⟩ := hpl9
    exact nof hus
  refine tail7 T C (hw9.upS SC) hi oS1 ng1 ng2 (hpl9.same SC) nl (nof hf) (SC _ _ hf) ?_ hC' hrow0 q
  obtain ⟨hxs, hout⟩ := W
  refine ⟨hxs, ?_⟩
  rcases hout with h | ⟨h1, h2, qa, u, h3, h4, h5⟩
  · exact .inl h
  · exact .inr ⟨h1, h2, qa, u, h3, h4, SC _ _ h5⟩
end
end
end OilLaw
set_option Elab.async false
set_option linter.all false
set_option maxRecDepth 100000
set_option maxHeartbeats 2000000
set_option pp.maxSteps 4000
namespace OilLaw
open PySem PySem.Spec PyProof.Rows L2 Oil
local macro_rules | `(tactic| walk_at "kp") => `(tactic| first
  | exact Kp.refl
  | assumption
  | exact Same.kp (by assumption)
  | (refine Kp.tr (Same.kp ?_) ?_; assumption; walk_at "kp")
  | (refine Kp.tr ?_ ?_; assumption; walk_at "kp"))
local macro_rules | `(tactic| walk_at "same") => `(tactic| first
  | exact Same.refl _
  | assumption
  | (refine Same.tr ?_ ?_; assumption; walk_at "same"))
local macro_rules | `(tactic| walk_at "rp") => `(tactic| first
  | assumption
  | (refine IsSt.up ?_ ?_; assumption; walk_at "kp")
  | (refine IsWy.up ?_ ?_; assumption; walk_at "kp")
  | (refine IsPs.up ?_ ?_; assumption; walk_at "kp")
  | (refine IsPr.up ?_ ?_; assumption; walk_at "kp")
  | (refine Kp.tup ?_ ?_; rotate_left; assumption; walk_at "kp"))
-- needs DZ0
section
open TL
section
variable {P : Program} {w : World} {K : PySem.W.Frag} {mg : Str → Option Value} {base : Heap}
theorem ok_law (T : Txt K mg) : ∃ fd : FuncData, (∀ (s : Shared) (v : Value), BindsTo s fd ⟨[v], []⟩ [("_law_script", v)]) ∧ ∀ base : Heap, FnOk P w K mg base CX0 10 (He.ga K "law") fd ["_law_script"] (fun vs H Q _ => spLaw K vs H Q E0) := by
  refine law_end T.d_law sc_law (fun _ _ _ _ _ _ us hl => match us, hl with | [_], _ => rfl) (fun vs H Q E h => ?_) fun base cdv A outer s H vs Q E hr h => ?_
  · obtain ⟨a, ns, rfl, _⟩ := h
    rfl
  · obtain ⟨a, ns, rfl, hsc, hns, q⟩ := h
    have C := Cal.body (P := P) (w := w) (K := K) (mg := mg) (base := base) (N := ["_law_script", "_law_row", "_law_way_here", "_law_capacity_here", "_law_posts_here", "_law_post", "_law_oil", "_law_by", "_law_there", "_law_steps", "_law_legs", "_law_found", "_law_out", "_law_rows", "_law_k", "_law_head", "_law_leg", "_law_words", "_law_text", "_law_other", "_law_again", "_law_logs", "_law_one"]) (outer := outer) (H := H) (E := E) hr
    have hnd := sc_law.nd
    refine lv_cons (sv_set 1 (ev_lst (av_cons (ev_var 0 rfl (av_cons (ev_int (av_cons (ev_int (av_cons (ev_int (av_nil ⟨by show 4 ≤ sizeLine; decide, fun H1 d S1 h1 z1 => ?_⟩)))))))))) hnd)
    have hrow : IsRow K ⟨d, a, ns⟩ H1 := ⟨(ScL.of hsc z1).but (fun b o _ e => S1 b o e), 0, 0, 0, h1, by decide⟩
    generalize hG : (⟨d, a, ns⟩ : Dice) = G at hrow
    have hd : d = G.d := by rw [← hG]
    subst hd
    refine lv_cons (sv_asg (ev_call C (ok__law_drawn T) (by decide) T.gl__law_drawn (fkp T.d__law_drawn) (av_cons (ev_var 1 rfl (av_cons (ev_int (av_nil ⟨G, 12, rfl, hrow, by decide, by decide, fun H2 p2 wv w0 l i o R2 h2 hw hc hm hall hi o0 o1 nl hpl => gv_tup C.calm (SqT.of h2) rfl (gsv_cons (gv_name 2 (gsv_cons (gv_name 3 (gsv_cons (gv_name 4 (gsv_cons (gv_name 5 (gsv_cons (gv_name 6 (gsv_nil ?_) hnd)) hnd)) hnd)) hnd)) hnd))⟩)))))))
    have n1 := hw.1.n1
    have c1 := hw.1.c1
    refine lv_cons (sv_set 7 (ev_ixL (ev_lst (av_cons (ev_int (av_cons (ev_bin op_add (ev_int (ev_taken T C (by decide) (av_cons (ev_var 1 rfl (av_cons (ev_bin op_pow (ev_int (ev_int (i2c ⟨by decide, by decide, by decide⟩ (av_nil ⟨G, _, rfl, R2.row, by decide, by decide, fun r3 H3 a3 b3 R3 => i2 (av_nil ⟨by show 2 ≤ sizeLine; decide, fun H4 p4 S4 h4 z4 => ?_⟩)⟩)))))))))))))))) hnd)
    have b3' : r3 < 1000000 := b3
    refine ev_taken T C (by decide) (av_cons (ev_var 1 rfl (av_cons (ev_int (av_nil ⟨G, 2, rfl, R3.row.same S4, by decide, by decide, fun r5 H5 a5 b5 R5 => ?_⟩)))))
    obtain ⟨by', hby, by1, by2⟩ : ∃ b : Int, atI [V.int 1, V.int (1 + r3)] r5 = some (.int b) ∧ 1 ≤ b ∧ b ≤ 1000000 := by
      rcases (show r5 = 0 ∨ r5 = 1 by omega) with e | e
      · exact ⟨1, by rw [e]; rfl, by decide, by decide⟩
      · exact ⟨1 + r3, by rw [e]; rfl, by omega, by omega⟩
    refine ⟨p4, _, _, _, rfl, rfl, SqL.of (R5.1 _ _ (R3.row.ne z4) h4), hby, ?_⟩
    have row5 := R5.row
    have hpl5 := ((hpl.rl nl R3).same S4).rl nl R5
    clear hpl R2 R3 R5 S4 h4 z4 h2 hby b3 hw hrow
    obtain ⟨vs, hl, hps⟩ := hpl5
    refine lv_cons (sv_asg (ev_tup (av_cons (ev_lcL [("_law_there", 8), ("_law_steps", 9)] C.calm hnd (ev_var 4 rfl ⟨l, vs, rfl, SqL.of hl, ?_⟩)))))
    refine lc_prsP 8 9 (fun p => (p.1 * by', p.2 * by')) hps (by omega) (fun H' S => SqL.of (S _ _ hl)) (fun Y hY p a σ H' R hp r => ?_) (fun Y hY p H' R hp S r => ?_) (fun H6 l6 S6 z6 hpl6 => ?_)
    · obtain ⟨s0, H0, C0, cl, fp, rfl⟩ := hY
      exact gv_tup C.calm (SqT.of hp) rfl (gsv_cons (gv_name 8 (gsv_cons (gv_name 9 (gsv_nil r) hnd)) hnd))
    · obtain ⟨s0, H0, C0, cl, fp, rfl⟩ := hY
      exact ev_tup (av_cons (ev_bin op_mul (ev_var 8 rfl (ev_var 7 rfl (i2c (Or.inr ⟨by omega, by omega⟩) (av_cons (ev_bin op_mul (ev_var 9 rfl (ev_var 7 rfl (i2c (Or.inr ⟨by omega, by omega⟩) (av_nil ⟨by show 2 ≤ sizeLine; decide, fun H7 a7 S7 h7 z7 => r _ _ S7 ⟨a7, rfl, h7⟩⟩)))))))))))
    refine av_cons (ev_bin op_mul (ev_var 3 rfl (ev_var 7 rfl (i2c (Or.inr ⟨by omega, by omega⟩) (av_cons (ev_bin op_mul (ev_var 6 rfl (ev_var 7 rfl (i2c (Or.inr ⟨by omega, by omega⟩) (av_nil ⟨by show 3 ≤ sizeLine; decide, fun HA pA SA hA zA => gv_tup C.calm (SqT.of hA) rfl (gsv_cons (gv_name 4 (gsv_cons (gv_name 3 (gsv_cons (gv_name 6 (gsv_nil ?_) hnd)) hnd)) hnd))⟩))))))))))
    have mul_le : ∀ {x m : Int}, 0 ≤ x → x ≤ m → 0 ≤ x * by' ∧ x * by' ≤ m * 1000000 := fun {x m} h0 h1 =>
      ⟨Int.mul_nonneg h0 (by omega), Int.mul_le_mul h1 by2 (by omega) (by omega)⟩
    have mul_ge : ∀ {x : Int}, 1 ≤ x → 1 ≤ x * by' := fun {x} h => by
      have := Int.mul_le_mul h by1 (by omega) (by omega)
      omega
    have okw : Wy.ok ⟨w0.cap * by', w0.posts.map fun p => (p.1 * by', p.2 * by')⟩ := by
      have hcm := mul_le (by omega) hc
      refine ⟨mul_ge c1, by show w0.cap * by' ≤ _; omega, by rw [List.length_map]; exact n1, by rw [List.length_map]; omega, fun p hp => ?_⟩
      obtain ⟨p0, hp0, rfl⟩ := List.mem_map.mp hp
      obtain ⟨d1, d2, d3, d4⟩ := hall p0 hp0
      have e1 := mul_le d1 d2
      have e2 := mul_le (by omega) d4
      have e3 := mul_ge d3
      exact ⟨by show 0 ≤ p0.1 * by'; omega, by show p0.1 * by' ≤ _; omega, e3, by show p0.2 * by' ≤ _; omega⟩
    have oS0 : 0 ≤ o * by' := (mul_le o0 o1).1
    have oS1 : o * by' ≤ w0.cap * by' := Int.mul_le_mul_of_nonneg_right o1 (by omega)
    have hlw : (w0.posts.map fun p => (p.1 * by', p.2 * by')).length = w0.posts.length := List.length_map ..
    generalize ewy : (⟨w0.cap * by', w0.posts.map fun p => (p.1 * by', p.2 * by')⟩ : Wy) = wy at okw
    have ecap : w0.cap * by' = wy.cap := by rw [← ewy]
    have eps : (w0.posts.map fun p => (p.1 * by', p.2 * by')) = wy.posts := by rw [← ewy]
    rw [eps] at hpl6 hlw
    rw [ecap] at oS1 ⊢
    rw [← hlw] at hi
    have row6 := (row5.same S6).same SA
    replace hpl6 := hpl6.same SA
    have nl6 : l6 ≠ G.d := row5.ne z6
    obtain ⟨os, eos⟩ : ∃ m : Nat, o * by' = m := ⟨(o * by').toNat, by omega⟩
    rw [eos] at oS0 oS1 ⊢
    have w1 := okw.n1
    have w2 := okw.n2
    have wc1 := okw.c1
    have wc2 := okw.c2
    clear ewy ecap eps hlw mul_le mul_ge hps hl hall hc hm o0 o1 eos S6 z6 row5 SA hA zA
    refine lv_cons (sv_asg (ev_tup (av_cons (ev_call C (ok__law_way T) (by decide) T.gl__law_way (fkp T.d__law_way) (av_cons (ev_var 3 rfl (av_cons (ev_var 4 rfl (av_nil ⟨wy.cap, l6, wy.posts, rfl, hpl6, okw, fun H7 v7 S7 hv7 => ?_⟩)))))))))
    refine av_cons (ev_bin op_add (ev_int (ev_taken T C (by decide) (av_cons (ev_var 1 rfl (av_cons (ev_int (av_nil ⟨G, 20, rfl, row6.same S7, by decide, by decide, fun r8 H8 a8 b8 R8 => i2 (av_nil ⟨by show 2 ≤ sizeLine; decide, fun HB pB SB hB zB => gv_tup C.calm (SqT.of hB) rfl (gsv_cons (gv_name 2 (gsv_cons (gv_name 10 (gsv_nil ?_) hnd)) hnd))⟩)⟩))))))))
    obtain ⟨n, en⟩ : ∃ m : Nat, 1 + r8 = m := ⟨(1 + r8).toNat, by omega⟩
    rw [en]
    have ng1 : 1 ≤ n := by omega
    have ng2 : n ≤ 20 := by omega
    have hw8 : IsWy K HB v7 wy := (hv7.up R8.kp).upS SB
    have hpl8 := ((hpl6.same S7).rl nl6 R8).same SB
    clear hB zB SB R8 S7 hv7 hpl6 en a8 b8 row6
    refine lv_cons (sv_asg (ev_call C (ok__law_walked T) (by decide) T.gl__law_walked (fkp T.d__law_walked) (av_cons (ev_var 3 rfl (av_cons (ev_var 4 rfl (av_cons (ev_var 5 rfl (av_cons (ev_var 6 rfl (av_cons (ev_var 10 rfl (av_nil ⟨wy, l6, i, os, n, rfl, hpl8, okw, hi, by omega, fun H9 p9 f xs z S9 h9 hf zf W => gv_tup C.calm (SqT.of h9) rfl (gsv_cons (gv_name 11 (gsv_cons (gv_name 12 (gsv_nil ?_) hnd)) hnd))⟩)))))))))))))
    obtain ⟨hxs, hout⟩ := W
    have hw9 := hw8.upS S9
    have hpl9 := hpl8.same S9
    have hxn : xs.length ≤ n := by
      rcases hout with h | h
      · omega
      · omega
    have xb : ∀ x ∈ xs, 0 ≤ x ∧ x < 10000000000 := fun x hx => by
      obtain ⟨m, hm, e⟩ := List.getElem_of_mem hx
      have e2 := (hxs m hm).trans ((List.getElem?_eq_getElem hm).trans (congrArg some e))
      have h1 := walk_capped okw i e2
      have h2 := walk_nonneg oS0 e2
      omega
    clear hw8 hpl8 S9 h9
    have lsp : txSp.length = 1 := by decide +kernel
    have hs1 : txSp.length ≤ 1 := by decide +kernel
    have lsz : sizeLine = 16777216 := sizeLine_eq
    have lh := headS_len
    have li := tNumN_len (n := i) (by omega)
    have sl : (Txt.mul txSp ((2 : Int) - ((tNum (i : Nat)).length : Nat))).length ≤ 1000 := sp_len 2 _ (by decide)
    have hg13 := grp_len10 (n := os) (by omega)
    refine lv_eq (σ' := [some (.ref a), some (.ref G.d), some v7, some (.int wy.cap), some (.ref l6), some (.int (i : Nat)), some (.int (os : Nat)), some (.int by'), none, none, some (.int (n : Nat)), some (.ref f), some z, none, none, none, none, none, none, none, none, none, none]) rfl ?_
    exact tail6 T C hw9 hi oS1 ng1 (by omega) hpl9 hf ⟨hxs, hout⟩ q
end
end
end OilLaw
open PySem PySem.W PySem.Calls PyProof.Rows
theorem PySem.Challenge.cw_oilwalk_k59_whole_logs_and_stored_ways_holds : PySem.Challenge.rw_oilwalk_k59_whole_logs_and_stored_ways.Holds := by
  w_on; o_law
  refine HandSHeadRun.head_any (r := OpenLaw.row PySem.Challenge.rw_oilwalk_k59_whole_logs_and_stored_ways) (q := view (OpenLaw.row PySem.Challenge.rw_oilwalk_k59_whole_logs_and_stored_ways).prog [57]) (H := OilLaw.hk) (ob := OilLaw.ob) (M := 20000) (loose := OilLaw.loose) (d := HandSHeadRun.topDef (OpenLaw.row PySem.Challenge.rw_oilwalk_k59_whole_logs_and_stored_ways).prog 57) (kwd := []) OilLaw.ob_eq
    (by kernel_rfl) (fun s => by kernel_rfl) OilLaw.run (by kernel_rfl) (by kernel_rfl) (by kernel_rfl) (by rfl) (by first | assumption | decide +kernel) (by decide +kernel) ⟨rfl, rfl, rfl, rfl, rfl, by decide +kernel⟩ ?hw ?hc
  case hw => w_witness2
  case hc =>
    refine L2.walk_ofE (l := PySem.Challenge.rw_oilwalk_k59_whole_logs_and_stored_ways) (n := 63) (k := 10) (x := "_law_script") (CX := L2.CX0) rfl (by decide) (by kernel_rfl) ⟨rfl, by decide, by decide⟩ ?F (fun _ _ _ _ z => z)
    intro w mg fa h Y G hmg0
    obtain ⟨K, KX, c⟩ := Y
    have hmg : mg ("law" : PySem.Str) = some (.ref fa) := by
      have e : (HandSHeadRun.topDef (OpenLaw.row PySem.Challenge.rw_oilwalk_k59_whole_logs_and_stored_ways).prog 57).name = ("law" : PySem.Str) := by kernel_rfl
      rw [← e]
      exact hmg0
    have T := OilLaw.txt_of KX G c
    have ef := hmg.symm.trans T.gl_law
    cases ef
    obtain ⟨fd, hb, hF⟩ := OilLaw.ok_law (P := (PySem.Challenge.rw_oilwalk_k59_whole_logs_and_stored_ways).prog) (w := w) T
    exact ⟨K, fd, Oil.spLaw K, KX, hb, fun H a ns hl _ hS => ⟨a, ns, rfl, hS, hl, fun _ => rfl⟩, fun base _ _ => hF base⟩
