import PyProof.Rows.All
import Wide.All
import OpenK.AllK
import Wide.FinOn
import PySem.Challenge.RW_sweeprota_k19_corridor_errors
import HandS.Words
import PyProof.EqAt
import PyProof.EqKinds
import PyProof.TupleCall
import PyProof.RulesMatch
import PyProof.RulesMatchSeq
import HandS.ForMost
import HandS.ForExc
import HandS.ExcInit
import HandS.ExcField
import HandS.ExcIs
import HandS.IsInst
import HandS.More
import HandS.Steps
import HandS.Walk
import HandS.Zip
import HandS.Defaults
import HandS.ClsMeth
import HandS.Property
import HandS.TupMul
import HandS.TupAny
import HandS.FStr
import HandS.Conv
import HandS.Flow
import HandS.Lambda
import HandS.CallLocal
import HandS.Head0
import HandS.Head1
import HandS.Head2
import HandS.HeadEnd
import HandS.HeadHook1
import HandS.HeadHook2
import HandS.HeadHook3
import HandS.HeadHook4
import HandS.HeadWalk
import HandS.Text
import HandS.HeadNt
import Lean
import KE.GoesMore
import HandS.SetFor
import PyProof.NeKinds
import HandS.CallRecv
import HandS.Strs
import HandS.SortRule
import KE.KDictSum
import KE.DataFind
import HandS.ExcCtx
import HandS.Comp
import HandS.Finally
import HandS.SuiteRaise
import HandS.Hot
import HandS.HotCalls
import HandS.Exc
import HandS.ExcOwn
import HandS.Nested
import KE.KDflt
import KE.KExcIs
import HandS.EndTab
import HandS.Deep
import HandS.Style
import HandS.NoneIn
set_option Elab.async false
set_option linter.all false
section
/-! the row's defs by place -/
namespace Sw
open PySem L2
def top (i : Nat) : Stmt := PySem.Challenge.pw_sweeprota_k19_corridor_errors.main.body.getD i (.Pass ⟨0, 0, 0, 0⟩)
abbrev s__wall : Stmt := top 0
abbrev s_SyntaxFault_init : Stmt := inClass (top 3) 0
abbrev s_CheckFault_init : Stmt := inClass (top 4) 0
abbrev s_InvalidCode_init : Stmt := inClass (top 11) 0
abbrev s_InvalidOperation_init : Stmt := inClass (top 14) 0
abbrev s_Token_init : Stmt := inClass (top 30) 0
abbrev s_run_end : Stmt := top 31
abbrev s_read_token : Stmt := top 32
abbrev s_tokenize : Stmt := top 33
abbrev s_Plan_init : Stmt := inClass (top 39) 0
abbrev s_Plan_with_floor : Stmt := inClass (top 39) 1
abbrev s_Plan_with_robots : Stmt := inClass (top 39) 2
abbrev s_Parser_init : Stmt := inClass (top 40) 0
abbrev s_Parser_peek : Stmt := inClass (top 40) 1
abbrev s_Parser_fail : Stmt := inClass (top 40) 2
abbrev s_Parser_found : Stmt := inClass (top 40) 3
abbrev s_Parser_take : Stmt := inClass (top 40) 4
abbrev s_Parser_take_word : Stmt := inClass (top 40) 5
abbrev s_Parser_take_keyword : Stmt := inClass (top 40) 6
abbrev s_Parser_parse_names : Stmt := inClass (top 40) 7
abbrev s_Parser_number_of : Stmt := inClass (top 40) 8
abbrev s_Parser_tile_of : Stmt := inClass (top 40) 9
abbrev s_Parser_parse_robot : Stmt := inClass (top 40) 10
abbrev s_Parser_parse_put : Stmt := inClass (top 40) 11
abbrev s_Parser_parse_rule : Stmt := inClass (top 40) 12
abbrev s_Parser_parse_plan : Stmt := inClass (top 40) 13
abbrev s_load : Stmt := top 41
abbrev s_is_int_in : Stmt := top 44
abbrev s_replaced : Stmt := top 45
abbrev s_State_init : Stmt := inClass (top 46) 0
abbrev s_State_key : Stmt := inClass (top 46) 1
abbrev s_first_state : Stmt := top 47
abbrev s_moved : Stmt := top 48
abbrev s_act : Stmt := top 49
abbrev s_Tick_init : Stmt := inClass (top 50) 0
abbrev s_next_tick : Stmt := top 51
abbrev s_is_operation : Stmt := top 61
abbrev s_Corridor_init : Stmt := inClass (top 62) 0
abbrev s_Corridor_replay : Stmt := inClass (top 62) 1
abbrev s_Corridor_record : Stmt := inClass (top 62) 2
abbrev s_Corridor_step : Stmt := inClass (top 62) 3
abbrev s_Corridor_put : Stmt := inClass (top 62) 4
abbrev s_Corridor_turn : Stmt := inClass (top 62) 5
abbrev s_Corridor_undo : Stmt := inClass (top 62) 6
abbrev s_Corridor_redo : Stmt := inClass (top 62) 7
abbrev s_Corridor_passed : Stmt := inClass (top 62) 8
abbrev s_Corridor_robots_now : Stmt := inClass (top 62) 9
abbrev s_Corridor_signs_now : Stmt := inClass (top 62) 10
abbrev s_Corridor_sweeps : Stmt := inClass (top 62) 11
abbrev s_Corridor_operations : Stmt := inClass (top 62) 12
abbrev s_Corridor_save : Stmt := inClass (top 62) 13
abbrev s_Corridor_restore : Stmt := inClass (top 62) 14
abbrev s_Corridor_execute : Stmt := inClass (top 62) 15
abbrev s_Corridor_batch : Stmt := inClass (top 62) 16
abbrev s__law_random : Stmt := top 64
abbrev s__law_below : Stmt := top 65
abbrev s__law_error_of : Stmt := top 66
abbrev s__law_all_raise : Stmt := top 67
abbrev s__law_equal : Stmt := top 68
abbrev s_law : Stmt := top 69
abbrev nMaxLetters : Str := "MAX_LETTERS_lexer"
abbrev nMaxLetC : Str := "MAX_LETTERS_corridor"
abbrev nWays : Str := "WAYS"
end Sw

end

section
set_option maxRecDepth 100000
set_option maxHeartbeats 4000000
namespace SwA
open PySem PySem.Spec PyProof.Rows L2

/-! ### D.__init__(self, ..) where D is an own class over ValueError that has no __init__ of its own -/
theorem pe_ownveinit {X : Cx} {e : Expr} {es : List Expr} {ta : TA} {p1 p2 pos : Pos} {x : Str} {D : Addr} {pl : Sem Bool} (hg : Gl X x) (hm : X.mg x = some (.ref D)) (r : ClX.CRead X.K D (.type "type"))
    (vV : PySem.W.findCls X.K (.ref D) (.type "type") "__init__" = some (.val (.builtin "ValueError.__init__"))) (ha : PA X (e :: es) ta)
    (hc : eval (.Call (.Attribute (.Name x p1) "__init__" p2) (e :: es) [] pos) X.env = (do
      let ov ← eval (.Name x p1) X.env
      standAt p2.atName
      let (f, first) ← holding [ov] (getMethod ov "__init__" pl)
      callWith pos f first (backTo pos (starEach (e :: es) X.env)) (backToKw pos (keywordEach [] X.env))) := by rfl)
    (he : starEach (e :: es) X.env = (false, eval e X.env) :: starEach es X.env := by rfl) (hpl : (backTo pos (starEach es X.env)).any (·.1) = false := by rfl)
    (hdb : (x == ("__debug__" : Str)) = false := by decide) :
    PE X (.Call (.Attribute (.Name x p1) "__init__" p2) (e :: es) [] pos) (tVeI X.K ta) := by
  refine ⟨fun pins s σ H Q I h => ?_⟩
  refine PySem.W.methodCall_KW (ld_glob I hg hm ?_ hdb) hc
  refine PySem.W.method_cls I.kIn r.ga (PySem.W.cls_value I.kIn r.rd vV (by decide +kernel) ?_)
  show wpAny _ _ (callWith pos (Value.builtin "ValueError.__init__") [] (backTo pos (starEach (e :: es) X.env)) []) _ _ _
  refine PyProof.Rows.callWith_method1 (thn (ha.run pos pins _ σ H _ (I.tok _) h) fun us s1 ⟨vs, H1, I1, r1, a, C, ws, ev, hl, T, ea, q⟩ => ?_) he hpl
  subst ev
  cases r1 with
  | @cons _ u0 _ ur ra rw' =>
    obtain rfl : u0 = Value.ref a := ra
    have hlen : ur.length ≤ sizeLine := by
      rw [← Paired.length rw', sizeLine_eq]
      omega
    exact oinit_ok T I1 ea hlen fun s' J => ⟨.non, H1, J, rfl, q⟩

/-! ### match upon a value: cases that are written texts, and the case of anything -/
/-- the cases cs asked of the value v: what is wanted -/
structure PMs (X : Cx) (cs : List MatchCase) (t : V → TS) : Prop where
  run : ∀ (pins : List (Addr × Obj)) (s : Shared) (σ : L2.St) (H : Hp) (D : Ends) (v : V) (u : Value) (first : Bool), Inv X pins σ H s → RelV v u → t v D σ H → wpAny (model X.prog X.w) X.A (matchCases cs X.env u first) (SP X pins D) X.xe s
theorem pms_nil {X : Cx} : PMs X [] (fun _ D σ H => D.nx σ H) := ⟨fun pins s σ H D v u first I r h => wpAny_matchCases_nil ⟨σ, H, I, h⟩⟩
theorem pms_any {X : Cx} {body : List Stmt} {rest : List MatchCase} {tb : TS} {pos : Pos} (hb : PSs X body tb) : PMs X (⟨.MatchAs none none pos, none, body⟩ :: rest) (fun _ => tb) :=
  ⟨fun pins s σ H D v u first I r h => wpAny_matchCases_cons (wpAny_matchPattern_Capture (wpAny_assignInOrder_none (hb.run pins s σ H D I h)))⟩
def tCaseS (z : Str) (tb : TS) (tr : V → TS) : V → TS := fun v D σ H => ∃ y, v = .str y ∧ ((y = z → tb D σ H) ∧ (y ≠ z → tr v D σ H))
theorem pms_str {X : Cx} {z : Str} {k : Nat} {body : List Stmt} {rest : List MatchCase} {tb : TS} {tr : V → TS} {p1 p2 : Pos} (hb : PSs X body tb) (hr : PMs X rest tr) :
    PMs X (⟨.MatchValue (.Constant (.str z) k p1) p2, none, body⟩ :: rest) (tCaseS z tb tr) := by
  refine ⟨fun pins s σ H D v u first I r h => ?_⟩
  obtain ⟨y, ev, h1, h2⟩ := h
  subst ev
  refine wpAny_matchCases_cons (wpAny_matchPattern_Value ?_)
  refine thn ((pe_str (X := X) (x := z) (j := k) (pos := p1)).run pins s σ H (fun x H' => x = .str z ∧ H' = H) I ⟨rfl, rfl⟩) fun zv s1 ⟨x, H1, I1, rz, ex, eh⟩ => ?_
  subst ex
  subst eh
  refine thn (op_eq pins s1 σ H1 (.str y) (.str z) u zv (fun x H' => x = .bl (decide (V.str y = V.str z)) ∧ H' = H1) I1 r rz ⟨rfl, rfl, rfl⟩) fun c s2 ⟨x, H2, I2, rc, ex, eh⟩ => ?_
  subst ex
  subst eh
  obtain rfl : c = Value.bool (decide (V.str y = V.str z)) := rc
  refine wpAny_truthy_bool ?_
  by_cases e : y = z
  · have d : decide (V.str y = V.str z) = true := decide_eq_true (by rw [e])
    rw [d]
    exact wpAny_assignInOrder_none (hb.run pins s2 σ H2 D I2 (h1 e))
  · have d : decide (V.str y = V.str z) = false := decide_eq_false (fun q => e (V.str.inj q))
    rw [d]
    exact hr.run pins s2 σ H2 D (.str y) u false I2 r (h2 e)
def tMatch (te : TE) (t : V → TS) : TS := fun D σ H => te σ H fun v H1 => t v D σ H1
theorem ps_match {X : Cx} {e : Expr} {te : TE} {cs : List MatchCase} {t : V → TS} {pos : Pos} (he : PE X e te) (hc : PMs X cs t) : PS X (.Match e cs pos) (tMatch te t) := by
  refine ⟨fun pins s σ H D I h => ?_⟩
  refine wpAny_Match (thn (he.run pins s σ H _ I h) fun u s1 ⟨v, H1, I1, r, q⟩ => ?_)
  exact hc.run pins s1 σ H1 D v u true I1 r q
/-! ### an own exception's class, as a Bool upon the written part -/
def oexB (K : PySem.W.Frag) (C : Addr) : Bool := (match K.lookup C with
  | some ⟨.type "type", _, .cls cd, sl⟩ => (match cd.mro, sl.toList with
    | .ref C' :: bm, [_, _, _, _, some (.builtin n), _] => C' == C && (n == "ValueError.__new__" && (!cd.hasDel && (cd.hasDict && PySem.HandSPX.refsVE bm)))
    | _, _ => false)
  | _ => false) && (He.eqO (PySem.W.findIn K (.ref C) "__setattr__") (some (some (.builtin "object.__setattr__"))) && (decide (PySem.W.subIn K (.ref C) (.type "BaseException") = some true) && (decide (PySem.W.typeIn K (.ref C) = some (.type "type")) && PySem.W.keepIn K (.ref C))))
theorem oexB_ok {K : PySem.W.Frag} {C : Addr} (h : oexB K C = true) : OexC K C := by
  obtain ⟨q, h2⟩ := He.ba h
  obtain ⟨h3, h4⟩ := He.ba h2
  obtain ⟨h5, h6⟩ := He.ba h4
  obtain ⟨h7, h8⟩ := He.ba h6
  refine ⟨?_, He.eqO_ok h3, of_decide_eq_true h5, of_decide_eq_true h7, h8⟩
  split at q
  · rename_i dd cd sl ho
    split at q
    · rename_i C' bm k0 k1 k2 k3 n k5 hm hs
      simp only [Bool.and_eq_true, beq_iff_eq, Bool.not_eq_true'] at q
      obtain ⟨rfl, rfl, hdel, hdi, ht⟩ := q
      obtain ⟨nm, bs, mro, ns, qn, hd, sn, sub, ab, col, del⟩ := cd
      dsimp only at hm hdel hdi
      subst hm hdel hdi
      have hsl : sl = #[k0, k1, k2, k3, some (.builtin "ValueError.__new__"), k5] := by
        obtain ⟨l⟩ := sl
        simp only at hs
        rw [hs]
      subst hsl
      exact ⟨nm, qn, ns, bs, bm, sn, sub, ab, col, dd, k0, k1, k2, k3, k5, ho, ht⟩
    · cases q
  · cases q

/-! ### a class whose __init__ stores its arguments, one a field -/
def spInit (C : Addr) (names : List Str) : Sp := fun vs H Q _ => ∃ (p dx : Addr) (args : List V), vs = .ref p :: args ∧ args.length = names.length ∧ H p = some (.ins C dx []) ∧
  ∀ H' : Hp, H' p = some (.ins C dx (names.zip args)) → (∀ b, b ≠ p → H' b = H b) → Q .non H'
/-- C(..) of such a class, behind its arguments: a new object, all that was tracked stands -/
theorem mk_at {C : Addr} {names : List Str} {E : XK} {H1 : Hp} {Q : VK} {vs : List V} (hl : vs.length = names.length)
    (q : ∀ (x : Addr) (H2 : Hp), H1 x = none → Same H1 H2 → (∃ dx, H2 x = some (.ins C dx (names.zip vs))) → Q (.ref x) H2) :
    ∀ x dx, H1 x = none → H1 dx = none → dx ≠ x → spInit C names (.ref x :: (vs ++ [])) (upd (upd H1 dx (.own x)) x (.ins C dx [])) (fun v H2 => v = .non ∧ Q (.ref x) H2) E := by
  intro x dx nx ndx ne
  refine ⟨x, dx, vs ++ [], rfl, by rw [List.append_nil]; exact hl, upd_same, fun H' e1 e2 => ⟨rfl, ?_⟩⟩
  rw [List.append_nil] at e1
  refine q x H' nx (fun b o e => ?_) ⟨dx, e1⟩
  rw [e2 b (ne_of_none e nx), upd_ne (ne_of_none e nx), upd_ne (ne_of_none e ndx)]
  exact e

/-- the same, for any wish -/
theorem init_at {C x dx : Addr} {names : List Str} {E : XK} {H1 : Hp} {R : VK} {vs : List V} (hl : vs.length = names.length) (nx : H1 x = none) (ndx : H1 dx = none)
    (q : ∀ H2 : Hp, Same H1 H2 → (∃ dx, H2 x = some (.ins C dx (names.zip vs))) → R .non H2) : spInit C names (.ref x :: (vs ++ [])) (upd (upd H1 dx (.own x)) x (.ins C dx [])) R E := by
  refine ⟨x, dx, vs ++ [], rfl, by rw [List.append_nil]; exact hl, upd_same, fun H' e1 e2 => ?_⟩
  rw [List.append_nil] at e1
  refine q H' (fun b o e => ?_) ⟨dx, e1⟩
  rw [e2 b (ne_of_none e nx), upd_ne (ne_of_none e nx), upd_ne (ne_of_none e ndx)]
  exact e

/-! ### an own exception's __init__ that stores its arguments, one a field -/
def spFault (C : Addr) (names : List Str) : Sp := fun vs H Q _ => ∃ (a : Addr) (args : List V), vs = .ref a :: args ∧ args.length = names.length ∧ H a = some (exo a C none) ∧
  ∀ (d : Addr) (H' : Hp), H d = none → d ≠ a → H' a = some (exo a C (some d)) → H' d = some (exd d (names.zip args).reverse) → (∀ b, b ≠ a → b ≠ d → H' b = H b) → Q .non H'
/-- raise C(..), behind its arguments -/
theorem fault_at {C : Addr} {names : List Str} {H1 : Hp} {Q : XK} {vs : List V} (hl : vs.length = names.length) (hz : vs.length ≤ 1000)
    (q : ∀ (d : Addr) (H2 : Hp), H1 d = none → Same H1 H2 → H2 d = some (.xd (names.zip vs).reverse) → Q (.ref C) (some d) H2) :
    vs.length ≤ 1000 ∧ ∀ a, H1 a = none → spFault C names (.ref a :: (vs ++ [])) (upd H1 a (exo a C none))
      (fun v H2 => v = .non ∧ ∃ (d : Addr) (fs : List (Str × V)), H2 a = some (exo a C (some d)) ∧ H2 d = some (exd d fs) ∧ H1 d = none ∧ Q (.ref C) (some d) (upd (del H2 a) d (.xd fs))) (fun _ _ _ => False) := by
  refine ⟨hz, fun a na => ⟨a, vs ++ [], rfl, by rw [List.append_nil]; exact hl, upd_same, fun d H' nd da e1 e2 e3 => ⟨rfl, d, _, e1, e2, ?_, ?_⟩⟩⟩
  · rw [upd_ne da] at nd
    exact nd
  · rw [upd_ne da] at nd
    rw [List.append_nil]
    refine q d _ nd (fun b o e => ?_) upd_same
    have ba : b ≠ a := ne_of_none e na
    have bd : b ≠ d := ne_of_none e nd
    rw [upd_ne bd, del_ne ba, e3 b ba bd, upd_ne ba]
    exact e
end SwA

end

section
set_option maxRecDepth 100000
set_option maxHeartbeats 4000000
/-! the mirror of the lexer and the parser: plain functions over lists of codes -/
namespace Sw
open PySem
/-- a text by its codes -/
abbrev Cs := List Nat
def sx (l : Cs) : Str := ⟨l.toArray⟩
theorem sx_inj {a b : Cs} (h : sx a = sx b) : a = b := by
  have e : (sx a).cps = (sx b).cps := by rw [h]
  have e2 : a.toArray = b.toArray := e
  simpa using congrArg Array.toList e2
def wCorridor : Cs := [99, 111, 114, 114, 105, 100, 111, 114]
def wSigns : Cs := [115, 105, 103, 110, 115]
def wMoods : Cs := [109, 111, 111, 100, 115]
def wRobot : Cs := [114, 111, 98, 111, 116]
def wPut : Cs := [112, 117, 116]
def wWhen : Cs := [119, 104, 101, 110]
def wLeave : Cs := [108, 101, 97, 118, 101]
def wLeft : Cs := [108, 101, 102, 116]
def wRight : Cs := [114, 105, 103, 104, 116]
def wOn : Cs := [111, 110]
def wBack : Cs := [98, 97, 99, 107]
def wStay : Cs := [115, 116, 97, 121]
def wSemi : Cs := [59]
def kws : List Cs := [wCorridor, wSigns, wMoods, wRobot, wPut, wWhen, wLeave, wLeft, wRight, wOn, wBack, wStay]
def ways : List Cs := [wLeft, wRight]
def moves : List Cs := [wOn, wBack, wStay]
inductive Kd where
  | name | number | keyword | sign | fin
  deriving DecidableEq
def Kd.str : Kd → Str
  | .name => "name"
  | .number => "number"
  | .keyword => "keyword"
  | .sign => "sign"
  | .fin => "end"
structure Tk where
  kind : Kd
  text : Cs
  line : Nat
  col : Nat
  deriving DecidableEq
def isL (c : Nat) : Bool := Nat.ble 97 c && Nat.ble c 122
def isD (c : Nat) : Bool := Nat.ble 48 c && Nat.ble c 57
def isS (c : Nat) : Bool := c == 32 || c == 10
/-- the token at the head of what is left of a row; none: a fault there -/
def readTok (line col : Nat) (rest : Cs) : Option Tk := match rest with
  | [] => none
  | c :: _ =>
    if c = 59 then some ⟨.sign, [59], line, col⟩
    else if isD c = true then
      (if 2 < (rest.takeWhile isD).length ∨ (1 < (rest.takeWhile isD).length ∧ c = 48) then none else some ⟨.number, rest.takeWhile isD, line, col⟩)
    else if rest.takeWhile isL ∈ kws then some ⟨.keyword, rest.takeWhile isL, line, col⟩
    else if 1 ≤ (rest.takeWhile isL).length ∧ (rest.takeWhile isL).length ≤ 8 then some ⟨.name, rest.takeWhile isL, line, col⟩
    else none
/-- a row from a column on: what is left of it, f at least its length -/
def lexRow (line : Nat) : Nat → Nat → Cs → Except (Nat × Nat) (List Tk)
  | _, _, [] => .ok []
  | 0, _, _ :: _ => .ok []
  | f + 1, col, c :: r =>
    if isS c = true then lexRow line f (col + 1) r
    else match readTok line col (c :: r) with
      | none => .error (line, col)
      | some t => match lexRow line f (col + t.text.length) ((c :: r).drop t.text.length) with
        | .error e => .error e
        | .ok ts => .ok (t :: ts)
def lexRows : Nat → List Cs → Except (Nat × Nat) (List Tk)
  | _, [] => .ok []
  | line, row :: rest => match lexRow line row.length 0 row with
    | .error e => .error e
    | .ok ts => match lexRows (line + 1) rest with
      | .error e => .error e
      | .ok us => .ok (ts ++ us)
def rowsOf (text : Cs) : List Cs := TL.spl [10] 0 [] text
def tokenize (text : Cs) : Except (Nat × Nat) (List Tk) := match lexRows 0 (rowsOf text) with
  | .error e => .error e
  | .ok ts => .ok (ts ++ [⟨.fin, [], (rowsOf text).length, 0⟩])
/-! ### the parser -/
structure Rule where
  left : Nat
  move : Cs
  later : Nat
  deriving DecidableEq
structure PSt where
  at_ : Nat
  faults : List (Nat × Nat × Cs)
  signs : List Cs
  moods : List Cs
  robots : List (Nat × Bool)
  rules : List ((Nat × Nat) × Rule)
  pairs : List (Cs × Cs)
  spots : List (Nat × Nat)
  deriving DecidableEq
def putA {κ α : Type} [DecidableEq κ] (l : List (κ × α)) (k : κ) (v : α) : List (κ × α) :=
  if (l.any fun kv => decide (kv.1 = k)) = true then l.map (fun kv => if kv.1 = k then (kv.1, v) else kv) else l ++ [(k, v)]
def getA {κ α : Type} [DecidableEq κ] (l : List (κ × α)) (k : κ) : Option α := (l.find? fun kv => decide (kv.1 = k)).map (·.2)
abbrev PR (α : Type) := Except (Nat × Nat) (α × PSt)
def endTk : Tk := ⟨.fin, [], 0, 0⟩
section
variable (T : List Tk)
def peek (st : PSt) : Tk := T.getD st.at_ endTk
def PSt.next (st : PSt) : PSt := { st with at_ := st.at_ + 1 }
def PSt.found (st : PSt) (reason : Cs) (t : Tk) : PSt := { st with faults := st.faults ++ [(t.line, t.col, reason)] }
def failAt (st : PSt) : Nat × Nat := ((peek T st).line, (peek T st).col)
def take (k : Kd) (st : PSt) : PR Tk := if (peek T st).kind = k then .ok (peek T st, st.next) else .error (failAt T st)
def takeWord (w : Cs) (st : PSt) : PR Tk := if (peek T st).text = w then .ok (peek T st, st.next) else .error (failAt T st)
def takeKw (ws : List Cs) (st : PSt) : PR Tk := if (peek T st).kind = .keyword ∧ (peek T st).text ∈ ws then .ok (peek T st, st.next) else .error (failAt T st)
/-- the names of a kind: false signs, true moods -/
def PSt.names (b : Bool) (st : PSt) : List Cs := if b then st.moods else st.signs
def PSt.push (b : Bool) (w : Cs) (st : PSt) : PSt := if b then { st with moods := st.moods ++ [w] } else { st with signs := st.signs ++ [w] }
def rDuplicate : Cs := [100, 117, 112, 108, 105, 99, 97, 116, 101]
def rUnknown : Cs := [117, 110, 107, 110, 111, 119, 110]
def rTile : Cs := [116, 105, 108, 101]
def rRobots : Cs := [114, 111, 98, 111, 116, 115]
def rAgain : Cs := [97, 103, 97, 105, 110]
def rTwice : Cs := [116, 119, 105, 99, 101]
def wordOf (b : Bool) : Cs := if b then wMoods else wSigns
def mostOf (b : Bool) : Nat := if b then 6 else 4
def addName (b : Bool) (st : PSt) (t : Tk) : PSt :=
  if t.text ∈ st.names b then st.found rDuplicate t
  else if (st.names b).length = mostOf b then st.found (wordOf b) t
  else st.push b t.text
/-- further names, f turns at most -/
def moreNames : Nat → PSt → List Tk → List Tk × PSt
  | 0, st, acc => (acc, st)
  | f + 1, st, acc => if (peek T st).kind = .name then moreNames f st.next (acc ++ [peek T st]) else (acc, st)
def parseNames (b : Bool) (st : PSt) : PR Unit := match takeWord T (wordOf b) st with
  | .error e => .error e
  | .ok (_, s1) => match take T .name s1 with
    | .error e => .error e
    | .ok (t, s2) => match takeWord T wSemi (moreNames T T.length s2 [t]).2 with
      | .error e => .error e
      | .ok (_, s3) => .ok ((), (moreNames T T.length s2 [t]).1.foldl (addName b) s3)
def numberOf (names : List Cs) (t : Tk) (st : PSt) : Nat × PSt := if t.text ∈ names then (names.idxOf t.text, st) else (0, st.found rUnknown t)
def numVal (w : Cs) : Nat := w.foldl (fun a c => a * 10 + (c - 48)) 0
def tileOf (tiles : Nat) (st : PSt) : PR Nat := match take T .number st with
  | .error e => .error e
  | .ok (t, s1) => .ok (numVal t.text, if tiles ≤ numVal t.text then s1.found rTile t else s1)
def parseRobot (tiles : Nat) (st : PSt) : PR Unit := match takeWord T wRobot st with
  | .error e => .error e
  | .ok (kw, s1) => match tileOf T tiles (if s1.robots.length = 3 then s1.found rRobots kw else s1) with
    | .error e => .error e
    | .ok (tile, s2) => match takeKw T ways s2 with
      | .error e => .error e
      | .ok (way, s3) => match takeWord T wSemi s3 with
        | .error e => .error e
        | .ok (_, s4) => .ok ((), { s4 with robots := s4.robots ++ [(tile, decide (way.text = wRight))] })
def parsePut (tiles : Nat) (st : PSt) : PR Unit := match takeWord T wPut st with
  | .error e => .error e
  | .ok (_, s1) => match take T .name s1 with
    | .error e => .error e
    | .ok (nm, s2) => match tileOf T tiles (numberOf s2.signs nm s2).2 with
      | .error e => .error e
      | .ok (tile, s3) => match takeWord T wSemi s3 with
        | .error e => .error e
        | .ok (_, s4) =>
          let s5 := if (s4.spots.any fun kv => decide (kv.1 = tile)) = true then s4.found rAgain (peek T (numberOf s2.signs nm s2).2) else s4
          .ok ((), { s5 with spots := putA s5.spots tile (numberOf s2.signs nm s2).1 })
def parseRule (st : PSt) : PR Unit := match takeWord T wWhen st with
  | .error e => .error e
  | .ok (kw, s1) => match take T .name s1 with
    | .error e => .error e
    | .ok (first, s2) => match take T .name (numberOf s2.moods first s2).2 with
      | .error e => .error e
      | .ok (second, s3) => match takeWord T wLeave (numberOf s3.signs second s3).2 with
        | .error e => .error e
        | .ok (_, s4) => match take T .name s4 with
          | .error e => .error e
          | .ok (lf, s5) => match takeKw T moves (numberOf s5.signs lf s5).2 with
            | .error e => .error e
            | .ok (mv, s6) => match take T .name s6 with
              | .error e => .error e
              | .ok (la, s7) => match takeWord T wSemi (numberOf s7.moods la s7).2 with
                | .error e => .error e
                | .ok (_, s8) =>
                  let s9 := if (first.text, second.text) ∈ s8.pairs then s8.found rTwice kw else s8
                  let s10 : PSt := { s9 with pairs := if (first.text, second.text) ∈ s9.pairs then s9.pairs else s9.pairs ++ [(first.text, second.text)] }
                  .ok ((), { s10 with rules := putA s10.rules ((numberOf s2.moods first s2).1, (numberOf s3.signs second s3).1) ⟨(numberOf s5.signs lf s5).1, mv.text, (numberOf s7.moods la s7).1⟩ })
def parseStmt (tiles : Nat) (st : PSt) : PR Unit :=
  if (peek T st).text = wRobot then parseRobot T tiles st
  else if (peek T st).text = wPut then parsePut T tiles st
  else if (peek T st).text = wWhen then parseRule T st
  else .error (failAt T st)
/-- the statements, f turns at most -/
def parseStmts (tiles : Nat) : Nat → PSt → PR Unit
  | 0, st => .ok ((), st)
  | f + 1, st => if (peek T st).kind = .fin then .ok ((), st) else match parseStmt T tiles st with
    | .error e => .error e
    | .ok (_, s1) => parseStmts tiles f s1
def st0 : PSt := ⟨0, [], [], [], [], [], [], []⟩
/-- the whole: tiles, the state at the end -/
def parsePlan : PR Nat := match takeWord T wCorridor st0 with
  | .error e => .error e
  | .ok (_, s1) => match take T .number s1 with
    | .error e => .error e
    | .ok (t, s2) => match takeWord T wSemi s2 with
      | .error e => .error e
      | .ok (_, s3) => match parseNames T false (if 1 ≤ numVal t.text ∧ numVal t.text ≤ 16 then s3 else s3.found wCorridor t) with
        | .error e => .error e
        | .ok (_, s4) => match parseNames T true s4 with
          | .error e => .error e
          | .ok (_, s5) => match parseRobot T (numVal t.text) s5 with
            | .error e => .error e
            | .ok (_, s6) => match parseStmts T (numVal t.text) T.length s6 with
              | .error e => .error e
              | .ok (_, s7) => .ok (numVal t.text, s7)
end
structure Plan where
  signs : List Cs
  moods : List Cs
  floor : List Nat
  robots : List (Nat × Bool)
  rules : List ((Nat × Nat) × Rule)
  deriving DecidableEq
def planOf (tiles : Nat) (st : PSt) : Plan := ⟨st.signs, st.moods, (List.range tiles).map fun i => (getA st.spots i).getD 0, st.robots, st.rules⟩
/-- what load does: a SyntaxFault at a place; else the tiles and the parser's last state -/
def loads (text : Cs) : Except (Nat × Nat) (Nat × PSt) := match tokenize text with
  | .error e => .error e
  | .ok T => parsePlan T
def txt (s : String) : Cs := s.toList.map Char.toNat
def k18 : Cs := txt "corridor 2; signs no; moods go; robot 0 right; when go no leave no on go;"
example : (match loads k18 with | .ok (n, st) => decide (planOf n st = ⟨[txt "no"], [txt "go"], [0, 0], [(0, true)], [((0, 0), ⟨0, wOn, 0⟩)]⟩) && st.faults.isEmpty | .error _ => false) = true := by decide +kernel
example : (match loads (txt "corridor") with | .ok _ => false | .error e => decide (e = (1, 0))) = true := by decide +kernel
end Sw

end

section
set_option maxRecDepth 100000
set_option maxHeartbeats 4000000
/-! what the head asks of the program's objects, ahead of the walks -/
namespace Sw
open PySem PySem.Spec PyProof.Rows L2 SwA
def excCB (K : PySem.W.Frag) (x : Str) (fields : List Str) : Bool :=
  (He.Fa.glo x).ok K && (oexB K (He.ga K x) && (He.eqO (PySem.W.findIn K (.ref (He.ga K x)) "__init__") (some (some (.ref (He.ma K (He.ga K x) "__init__")))) &&
    (decide (PySem.W.typeIn K (.ref (He.ma K (He.ga K x) "__init__")) = some (.type "function")) && fields.all fun f => He.eqO (PySem.W.findIn K (.ref (He.ga K x)) f) (some none))))
def mkCB (K : PySem.W.Frag) (x : Str) (fields : List Str) : Bool := (He.Fa.glo x).ok K && ((He.Fa.mkr x).ok K && ((He.Fa.cls x).ok K && fields.all fun f => (He.Fa.noat x f).ok K))
abbrev tokF : List Str := ["kind", "text", "line", "column"]
abbrev parN : List Str := ["tokens", "at", "faults", "signs", "moods", "robots", "rules", "pairs", "spots"]
abbrev planF : List Str := ["signs", "moods", "floor", "robots", "rules"]
def lenKV (e : DictEntry) : Option (Str × Int) := match e.key, e.val with
  | .str x _, .int i _ => some (x, i)
  | _, _ => none
def lensL : List (Option (Str × Int)) := [some ("step", 2), some ("put", 3), some ("turn", 2), some ("undo", 1), some ("redo", 1)]
def lenB (K : PySem.W.Frag) (a : Addr) : Bool := match K.lookup a with
  | some ⟨_, _, .dict es _, _⟩ => decide (es.toList.map lenKV = lensL)
  | _ => false
def clsN : List Str := ["InvalidTick", "InvalidNumber", "UnknownSign", "TooLong", "OtherCorridor", "Contradiction", "InvalidName", "UnknownName", "SyntaxFault", "CheckFault", "InvalidCode", "InvalidOperation"]
def xcB (K : PySem.W.Frag) (D : Addr) : Bool := He.eqO (PySem.W.findIn K (.ref D) "__getattribute__") (some (some (.builtin "BaseException.__getattribute__"))) && (He.eqO (PySem.W.findIn K (.ref D) "__getattr__") (some none) && (decide (PySem.W.subIn K (.ref D) (.type "BaseException") = some true) && (PySem.W.hasDictIn K D &&
  (He.eqO (PySem.W.findIn K (.ref D) "__class__") (some (some (.builtin "object.__class__"))) && (He.eqO (PySem.W.specialIn K (.builtin "object.__class__") "__get__") (some (some (.builtin "getset_descriptor.__get__"))) && (decide (PySem.W.takesIn K (.builtin "object.__class__") = some true) && decide (PySem.W.mroIn K D (.type "object") = some true)))))))
def ekB (K : PySem.W.Frag) (D : Str) (j : Nat) : Bool := xcB K (He.ga K D) && (decide (PySem.W.exmOne K (.ref (He.ga K D)) (.ref (He.ga K "SweepError")) = some true) && (decide (PySem.W.kitOne K (.ref (He.ga K D)) (.type "ValueError") = some true) && clsN.zipIdx.all fun q => decide (PySem.W.kitOne K (.ref (He.ga K D)) (.ref (He.ga K q.1)) = some (decide (q.2 = j)))))
end Sw

end

section
set_option maxRecDepth 100000
set_option maxHeartbeats 4000000
/-! what the head asks: instances of an own class, asked by isinstance -/
namespace Sw
open PySem PySem.Spec PyProof.Rows L2 SwA
def isiB (K : PySem.W.Frag) (C : Addr) : Bool := He.eqO (PySem.W.findIn K (.ref C) "__class__") (some (some (.builtin "object.__class__"))) && (He.eqO (PySem.W.specialIn K (.builtin "object.__class__") "__get__") (some (some (.builtin "getset_descriptor.__get__"))) &&
  (decide (PySem.W.takesIn K (.builtin "object.__class__") = some true) && (decide (PySem.W.mroIn K C (.type "object") = some true) && decide (PySem.W.kitOne K (.ref C) (.ref C) = some true))))
structure IsiC (K : PySem.W.Frag) (C : Addr) : Prop where
  ha : PySem.W.findIn K (.ref C) "__class__" = some (some (.builtin "object.__class__"))
  hn : PySem.W.specialIn K (.builtin "object.__class__") "__get__" = some (some (.builtin "getset_descriptor.__get__"))
  ht : PySem.W.takesIn K (.builtin "object.__class__") = some true
  hm : PySem.W.mroIn K C (.type "object") = some true
  kit : PySem.W.kitOne K (.ref C) (.ref C) = some true
theorem isiB_ok {K : PySem.W.Frag} {C : Addr} (h : isiB K C = true) : IsiC K C := by
  obtain ⟨h1, h⟩ := He.ba h
  obtain ⟨h2, h⟩ := He.ba h
  obtain ⟨h3, h⟩ := He.ba h
  obtain ⟨h4, h5⟩ := He.ba h
  exact ⟨He.eqO_ok h1, He.eqO_ok h2, of_decide_eq_true h3, of_decide_eq_true h4, of_decide_eq_true h5⟩
end Sw

end

section
set_option maxRecDepth 100000
set_option maxHeartbeats 0
/-! the head: the run and what is asked of it -/
namespace Sw
open PySem PySem.Spec PyProof.Rows L2 SwA
def dd0 : He.DefD := ⟨("SyntaxFault", some "__init__"), "__init__", "SyntaxFault.__init__", defArgs s_SyntaxFault_init, defBody s_SyntaxFault_init, defScope s_SyntaxFault_init, [], []⟩
def dd1 : He.DefD := ⟨("CheckFault", some "__init__"), "__init__", "CheckFault.__init__", defArgs s_CheckFault_init, defBody s_CheckFault_init, defScope s_CheckFault_init, [], []⟩
def dd2 : He.DefD := ⟨("InvalidCode", some "__init__"), "__init__", "InvalidCode.__init__", defArgs s_InvalidCode_init, defBody s_InvalidCode_init, defScope s_InvalidCode_init, [], []⟩
def dd3 : He.DefD := ⟨("InvalidOperation", some "__init__"), "__init__", "InvalidOperation.__init__", defArgs s_InvalidOperation_init, defBody s_InvalidOperation_init, defScope s_InvalidOperation_init, [], []⟩
def dd4 : He.DefD := ⟨("Token", some "__init__"), "__init__", "Token.__init__", defArgs s_Token_init, defBody s_Token_init, defScope s_Token_init, [], []⟩
def dd5 : He.DefD := ⟨("run_end", none), "run_end", "run_end", defArgs s_run_end, defBody s_run_end, defScope s_run_end, [], []⟩
def dd6 : He.DefD := ⟨("read_token", none), "read_token", "read_token", defArgs s_read_token, defBody s_read_token, defScope s_read_token, [], []⟩
def dd7 : He.DefD := ⟨("tokenize", none), "tokenize", "tokenize", defArgs s_tokenize, defBody s_tokenize, defScope s_tokenize, [], []⟩
def dd8 : He.DefD := ⟨("Plan", some "__init__"), "__init__", "Plan.__init__", defArgs s_Plan_init, defBody s_Plan_init, defScope s_Plan_init, [], []⟩
def dd9 : He.DefD := ⟨("Plan", some "with_floor"), "with_floor", "Plan.with_floor", defArgs s_Plan_with_floor, defBody s_Plan_with_floor, defScope s_Plan_with_floor, [], []⟩
def dd10 : He.DefD := ⟨("Plan", some "with_robots"), "with_robots", "Plan.with_robots", defArgs s_Plan_with_robots, defBody s_Plan_with_robots, defScope s_Plan_with_robots, [], []⟩
def dd11 : He.DefD := ⟨("Parser", some "__init__"), "__init__", "Parser.__init__", defArgs s_Parser_init, defBody s_Parser_init, defScope s_Parser_init, [], []⟩
def dd12 : He.DefD := ⟨("Parser", some "peek"), "peek", "Parser.peek", defArgs s_Parser_peek, defBody s_Parser_peek, defScope s_Parser_peek, [], []⟩
def dd13 : He.DefD := ⟨("Parser", some "fail"), "fail", "Parser.fail", defArgs s_Parser_fail, defBody s_Parser_fail, defScope s_Parser_fail, [], []⟩
def dd14 : He.DefD := ⟨("Parser", some "found"), "found", "Parser.found", defArgs s_Parser_found, defBody s_Parser_found, defScope s_Parser_found, [], []⟩
def dd15 : He.DefD := ⟨("Parser", some "take"), "take", "Parser.take", defArgs s_Parser_take, defBody s_Parser_take, defScope s_Parser_take, [], []⟩
def dd16 : He.DefD := ⟨("Parser", some "take_word"), "take_word", "Parser.take_word", defArgs s_Parser_take_word, defBody s_Parser_take_word, defScope s_Parser_take_word, [], []⟩
def dd17 : He.DefD := ⟨("Parser", some "take_keyword"), "take_keyword", "Parser.take_keyword", defArgs s_Parser_take_keyword, defBody s_Parser_take_keyword, defScope s_Parser_take_keyword, [], []⟩
def dd18 : He.DefD := ⟨("Parser", some "parse_names"), "parse_names", "Parser.parse_names", defArgs s_Parser_parse_names, defBody s_Parser_parse_names, defScope s_Parser_parse_names, [], []⟩
def dd19 : He.DefD := ⟨("Parser", some "number_of"), "number_of", "Parser.number_of", defArgs s_Parser_number_of, defBody s_Parser_number_of, defScope s_Parser_number_of, [], []⟩
def dd20 : He.DefD := ⟨("Parser", some "tile_of"), "tile_of", "Parser.tile_of", defArgs s_Parser_tile_of, defBody s_Parser_tile_of, defScope s_Parser_tile_of, [], []⟩
def dd21 : He.DefD := ⟨("Parser", some "parse_robot"), "parse_robot", "Parser.parse_robot", defArgs s_Parser_parse_robot, defBody s_Parser_parse_robot, defScope s_Parser_parse_robot, [], []⟩
def dd22 : He.DefD := ⟨("Parser", some "parse_put"), "parse_put", "Parser.parse_put", defArgs s_Parser_parse_put, defBody s_Parser_parse_put, defScope s_Parser_parse_put, [], []⟩
def dd23 : He.DefD := ⟨("Parser", some "parse_rule"), "parse_rule", "Parser.parse_rule", defArgs s_Parser_parse_rule, defBody s_Parser_parse_rule, defScope s_Parser_parse_rule, [], []⟩
def dd24 : He.DefD := ⟨("Parser", some "parse_plan"), "parse_plan", "Parser.parse_plan", defArgs s_Parser_parse_plan, defBody s_Parser_parse_plan, defScope s_Parser_parse_plan, [], []⟩
def dd25 : He.DefD := ⟨("load", none), "load", "load", defArgs s_load, defBody s_load, defScope s_load, [], []⟩
def dd26 : He.DefD := ⟨("is_int_in", none), "is_int_in", "is_int_in", defArgs s_is_int_in, defBody s_is_int_in, defScope s_is_int_in, [], []⟩
def dd27 : He.DefD := ⟨("replaced", none), "replaced", "replaced", defArgs s_replaced, defBody s_replaced, defScope s_replaced, [], []⟩
def dd28 : He.DefD := ⟨("State", some "__init__"), "__init__", "State.__init__", defArgs s_State_init, defBody s_State_init, defScope s_State_init, [], []⟩
def dd29 : He.DefD := ⟨("first_state", none), "first_state", "first_state", defArgs s_first_state, defBody s_first_state, defScope s_first_state, [], []⟩
def dd30 : He.DefD := ⟨("moved", none), "moved", "moved", defArgs s_moved, defBody s_moved, defScope s_moved, [], []⟩
def dd31 : He.DefD := ⟨("act", none), "act", "act", defArgs s_act, defBody s_act, defScope s_act, [], []⟩
def dd32 : He.DefD := ⟨("Tick", some "__init__"), "__init__", "Tick.__init__", defArgs s_Tick_init, defBody s_Tick_init, defScope s_Tick_init, [], []⟩
def dd33 : He.DefD := ⟨("next_tick", none), "next_tick", "next_tick", defArgs s_next_tick, defBody s_next_tick, defScope s_next_tick, [], []⟩
def dd34 : He.DefD := ⟨("is_operation", none), "is_operation", "is_operation", defArgs s_is_operation, defBody s_is_operation, defScope s_is_operation, [], []⟩
def dd35 : He.DefD := ⟨("Corridor", some "__init__"), "__init__", "Corridor.__init__", defArgs s_Corridor_init, defBody s_Corridor_init, defScope s_Corridor_init, [], []⟩
def dd36 : He.DefD := ⟨("Corridor", some "record"), "record", "Corridor.record", defArgs s_Corridor_record, defBody s_Corridor_record, defScope s_Corridor_record, [], []⟩
def dd37 : He.DefD := ⟨("Corridor", some "step"), "step", "Corridor.step", defArgs s_Corridor_step, defBody s_Corridor_step, defScope s_Corridor_step, [], []⟩
def dd38 : He.DefD := ⟨("Corridor", some "put"), "put", "Corridor.put", defArgs s_Corridor_put, defBody s_Corridor_put, defScope s_Corridor_put, [], []⟩
def dd39 : He.DefD := ⟨("Corridor", some "turn"), "turn", "Corridor.turn", defArgs s_Corridor_turn, defBody s_Corridor_turn, defScope s_Corridor_turn, [], []⟩
def dd40 : He.DefD := ⟨("Corridor", some "undo"), "undo", "Corridor.undo", defArgs s_Corridor_undo, defBody s_Corridor_undo, defScope s_Corridor_undo, [], []⟩
def dd41 : He.DefD := ⟨("Corridor", some "redo"), "redo", "Corridor.redo", defArgs s_Corridor_redo, defBody s_Corridor_redo, defScope s_Corridor_redo, [], []⟩
def dd42 : He.DefD := ⟨("Corridor", some "save"), "save", "Corridor.save", defArgs s_Corridor_save, defBody s_Corridor_save, defScope s_Corridor_save, [], []⟩
def dd43 : He.DefD := ⟨("Corridor", some "restore"), "restore", "Corridor.restore", defArgs s_Corridor_restore, defBody s_Corridor_restore, defScope s_Corridor_restore, [], []⟩
def dd44 : He.DefD := ⟨("Corridor", some "execute"), "execute", "Corridor.execute", defArgs s_Corridor_execute, defBody s_Corridor_execute, defScope s_Corridor_execute, [], []⟩
def dd45 : He.DefD := ⟨("Corridor", some "batch"), "batch", "Corridor.batch", defArgs s_Corridor_batch, defBody s_Corridor_batch, defScope s_Corridor_batch, [], []⟩
def dd46 : He.DefD := ⟨("_law_random", none), "_law_random", "_law_random", defArgs s__law_random, defBody s__law_random, defScope s__law_random, [], []⟩
def dd47 : He.DefD := ⟨("_law_below", none), "_law_below", "_law_below", defArgs s__law_below, defBody s__law_below, defScope s__law_below, [], []⟩
def dd48 : He.DefD := ⟨("_law_error_of", none), "_law_error_of", "_law_error_of", defArgs s__law_error_of, defBody s__law_error_of, defScope s__law_error_of, [], []⟩
def dd49 : He.DefD := ⟨("_law_all_raise", none), "_law_all_raise", "_law_all_raise", defArgs s__law_all_raise, defBody s__law_all_raise, defScope s__law_all_raise, [], []⟩
def dd50 : He.DefD := ⟨("_law_equal", none), "_law_equal", "_law_equal", defArgs s__law_equal, defBody s__law_equal, defScope s__law_equal, [], []⟩
def dd51 : He.DefD := ⟨("law", none), "law", "law", defArgs s_law, defBody s_law, defScope s_law, [], []⟩
def wd0 : He5.DefA := ⟨fun K => He5.wf K (He.ga K "State") "property" "key", "key", "State.key", defArgs s_State_key, defBody s_State_key, defScope s_State_key, [], []⟩
def wd1 : He5.DefA := ⟨fun K => He5.wf K (He.ga K "Corridor") "classmethod" "replay", "replay", "Corridor.replay", defArgs s_Corridor_replay, defBody s_Corridor_replay, defScope s_Corridor_replay, [], []⟩
def wd2 : He5.DefA := ⟨fun K => He5.wf K (He.ga K "Corridor") "property" "passed", "passed", "Corridor.passed", defArgs s_Corridor_passed, defBody s_Corridor_passed, defScope s_Corridor_passed, [], []⟩
def wd3 : He5.DefA := ⟨fun K => He5.wf K (He.ga K "Corridor") "property" "robots_now", "robots_now", "Corridor.robots_now", defArgs s_Corridor_robots_now, defBody s_Corridor_robots_now, defScope s_Corridor_robots_now, [], []⟩
def wd4 : He5.DefA := ⟨fun K => He5.wf K (He.ga K "Corridor") "property" "signs_now", "signs_now", "Corridor.signs_now", defArgs s_Corridor_signs_now, defBody s_Corridor_signs_now, defScope s_Corridor_signs_now, [], []⟩
def wd5 : He5.DefA := ⟨fun K => He5.wf K (He.ga K "Corridor") "property" "sweeps", "sweeps", "Corridor.sweeps", defArgs s_Corridor_sweeps, defBody s_Corridor_sweeps, defScope s_Corridor_sweeps, [], []⟩
def wd6 : He5.DefA := ⟨fun K => He5.wf K (He.ga K "Corridor") "property" "operations", "operations", "Corridor.operations", defArgs s_Corridor_operations, defBody s_Corridor_operations, defScope s_Corridor_operations, [], []⟩
def waL : List He5.DefA := [wd0, wd1, wd2, wd3, wd4, wd5, wd6]
def fn0 : List He.DefD := [dd0, dd1, dd2, dd3, dd4, dd5, dd6, dd7, dd8, dd9, dd10, dd11, dd12, dd13, dd14, dd15, dd16, dd17, dd18, dd19, dd20, dd21, dd22, dd23, dd24, dd25, dd26, dd27, dd28, dd29]
def fn1 : List He.DefD := [dd30, dd31, dd32, dd33, dd34, dd35, dd36, dd37, dd38, dd39, dd40, dd41, dd42, dd43, dd44, dd45, dd46, dd47, dd48, dd49, dd50, dd51]
def fnL : List He.DefD := fn0 ++ fn1
def fa0 : List He.Fa := [.free "len", .free "abs", .free "list", .free "tuple", .free "range", .glo "_law_random", .glo "_law_below", .glo "SweepError", .free "enumerate", .glo "run_end", .glo "read_token", .glo "tokenize", .str "SIGNS" ";", .str "DIGITS" "0123456789", .str "LETTERS" "abcdefghijklmnopqrstuvwxyz", .str "SPACES" " \n", .str "SIGN" "sign", .str "NUMBER" "number", .str "KEYWORD" "keyword", .str "NAME" "name", .str "END" "end", .int "MAX_DIGITS" 2, .int "MAX_LETTERS_lexer" 8, .glo "KEYWORDS", .free "int", .meth "Parser" "peek", .meth "Parser" "fail", .meth "Parser" "found", .meth "Parser" "take", .meth "Parser" "take_word"]
def fa1 : List He.Fa := [.meth "Parser" "take_keyword", .meth "Parser" "parse_names", .meth "Parser" "number_of", .meth "Parser" "tile_of", .meth "Parser" "parse_robot", .meth "Parser" "parse_put", .meth "Parser" "parse_rule", .meth "Parser" "parse_plan", .int "MAX_TILES" 16, .int "MAX_SIGNS" 4, .int "MAX_MOODS" 6, .int "MAX_ROBOTS" 3, .glo "WAYS", .glo "MOVES", .glo "load", .free "isinstance", .free "bool", .str "REST" "rest", .glo "is_int_in", .glo "replaced", .glo "first_state", .glo "moved", .glo "act", .glo "next_tick", .free "str", .meth "Corridor" "record", .meth "Corridor" "undo", .meth "Corridor" "redo", .str "STEP" "step", .str "PUT" "put"]
def fa2 : List He.Fa := [.str "TURN" "turn", .int "MAX_STEP" 500, .exc "InvalidNumber", .glo "InvalidNumber", .exc "UnknownSign", .glo "UnknownSign", .meth "Corridor" "step", .meth "Corridor" "put", .meth "Corridor" "turn", .free "all", .int "MAX_LETTERS_corridor" 8, .exc "InvalidName", .glo "InvalidName", .exc "UnknownName", .glo "UnknownName", .meth "Corridor" "save", .meth "Corridor" "restore", .glo "LENGTHS", .glo "is_operation", .meth "Corridor" "execute", .meth "Corridor" "batch", .free "ValueError", .glo "_law_error_of", .glo "_law_all_raise", .glo "_law_equal", .glo "law"]
def faL : List He.Fa := fa0 ++ fa1 ++ fa2
def fclsB (K : PySem.W.Frag) : Bool := match PySem.W.findCls K (.ref (He.ga K "SweepError")) (.type "type") "__init__" with
  | some (.val (.builtin n)) => n == "ValueError.__init__"
  | _ => false
def mvB (K : PySem.W.Frag) : Bool := match K.lookup (He.ga K "MOVES") with
  | some ⟨.type "tuple", none, _, _⟩ => true
  | _ => false
def recB (K : PySem.W.Frag) (p : Addr) : Bool := match PySem.W.recIn K p "property" with
  | some (.ref _ :: _) => true
  | _ => false
def propB (K : PySem.W.Frag) (C f : Str) : Bool := He.eqO (PySem.W.findIn K (.ref (He.ga K C)) f) (some (some (.ref (He.ma K (He.ga K C) f)))) && (He.eqO (PySem.W.specialIn K (.ref (He.ma K (He.ga K C) f)) "__get__") (some (some (.builtin "property.__get__"))) &&
  (decide (PySem.W.takesIn K (.ref (He.ma K (He.ga K C) f)) = some true) && recB K (He.ma K (He.ga K C) f)))
def exB (K : PySem.W.Frag) : Bool := PySem.W.readsIn K (He.ga K "SweepError") (.type "type") && (He.eqO (PySem.W.specialIn K (.ref (He.ga K "SweepError")) "__getattribute__") (some (some (.builtin "type.__getattribute__"))) && (fclsB K && (excCB K "SyntaxFault" ["line", "column"] && (mkCB K "Token" tokF && (He.tupB K "KEYWORDS" (kws.map fun w => He.Dv.str (sx w)) && (mkCB K "Parser" parN && (decide (He.ga K "Parser" ≠ He.ga K "Token") && (He.tupB K "WAYS" (ways.map fun w => He.Dv.str (sx w)) && (He.tupB K "MOVES" (moves.map fun w => He.Dv.str (sx w)) && (mkCB K "Plan" planF && (mkCB K "State" ["floor", "robots"] && (mkCB K "Tick" ["swept", "words", "state"] && (decide (He.ga K "State" ≠ He.ga K "Corridor") && (decide (He.ga K "Plan" ≠ He.ga K "Corridor") && (decide (He.ga K "Tick" ≠ He.ga K "Corridor") && (mkCB K "Corridor" ["parsed", "now", "past", "undone", "saved"] && (propB K "Corridor" "passed" && (propB K "Corridor" "signs_now" && (propB K "Corridor" "sweeps" && (propB K "Corridor" "operations" && (lenB K (He.ga K "LENGTHS") && (ekB K "InvalidNumber" 1 && (ekB K "UnknownSign" 2 && ((clsN.all fun n => (He.Fa.glo n).ok K) && (ekB K "InvalidName" 6 && (ekB K "UnknownName" 7))))))))))))))))))))))))))
abbrev R : PySem.W.OpenRow := PySem.W.OpenLaw.row PySem.Challenge.rw_sweeprota_k19_corridor_errors
def tsL : List He.Tab := [(fun K => He.ga K "LENGTHS", ["step", "put", "turn", "undo", "redo"])]
def codeW (g : Addr → Option Obj) (a : Addr) : List Addr := match g a with
  | some ⟨_, _, .func fd, _⟩ => He.refV fd.code
  | _ => []
def asZ (g : Addr → Option Obj) (as : List Addr) : List Addr := as ++ (cStatics :: waL.flatMap fun d => codeW g (d.at_ (He.frG g as)))
def asY (g : Addr → Option Obj) : List Addr := asZ g (He.asD g 4)
abbrev AlY : Type := He.AlT × He.AlD × Bool
def tfL : List He.Defn := [("law", none)]
def frY (g : Addr → Option Obj) : PySem.W.Frag := He.frT g (asY g)
def obsY (g : Addr → Option Obj) : AlY := (He.obsT faL fnL tsL (frY g), He5.obsA [] waL (frY g), exB (frY g) && He.tabsB g tfL (frY g))
/-- what is told; the law's table is empty and not in K -/
structure SaysY (w : World) (h : Heap) (K : PySem.W.Frag) : Prop where
  t : He.SaysT faL fnL tsL w K
  a : He5.SaysA [] waL K
  more : exB K = true
  hd : PySem.W.codeHdIn K (He.cT K ("law", none)).1 (He.cT K ("law", none)).2 = true
  out : K.lookup (He.cT K ("law", none)).2 = none
  empty : h.get? (He.cT K ("law", none)).2 = some { cls := .none, data := .fields #[] }
def valY (w : World) : AlY := (He.valT fnL tsL w, He5.valA waL, true)
theorem saysY_of {w : World} {h : Heap} (e : obsY h.get? = valY w) : SaysY w h (frY h.get?) := by
  have e1 : He.SaysT faL fnL tsL w (frY h.get?) := congrArg (fun z : AlY => z.1) e
  have e2 : He5.SaysA [] waL (frY h.get?) := congrArg (fun z : AlY => z.2.1) e
  have e3 : (exB (frY h.get?) && He.tabsB h.get? tfL (frY h.get?)) = true := congrArg (fun z : AlY => z.2.2) e
  obtain ⟨h1, h2⟩ := He.ba e3
  obtain ⟨h3, h4⟩ := He.ba (List.all_eq_true.mp h2 ("law", none) (List.mem_singleton.mpr rfl))
  obtain ⟨o, q, z⟩ : ∃ o, h.get? (He.cT (frY h.get?) ("law", none)).2 = some o ∧ He.emptyTab o = true := by
    cases q : h.get? (He.cT (frY h.get?) ("law", none)).2 with
    | none =>
      rw [q] at h4
      cases h4
    | some o =>
      rw [q] at h4
      exact ⟨o, rfl, h4⟩
  exact ⟨e1, e2, h1, h3, He.frT_none q z, by rw [q, He.emptyTab_eq z]⟩
def hk : PySem.W.Hook where
  α := AlY
  obs := fun s => obsY s.heap.get?
  val := valY
  says := fun w h => ∃ K : PySem.W.Frag, K.In h ∧ SaysY w h K
  of := fun _ _ e => ⟨_, He.frT_in, saysY_of e⟩
  keeps := fun _ _ _ ⟨K, hK, c⟩ k => ⟨K, PySem.W.Frag.In.keeps hK k, ⟨c.t, c.a, c.more, c.hd, c.out, k _ _ c.empty⟩⟩
def ob (s : PySem.W.SharedT) : AlY := obsY (HandSHeadRun.getT s)
theorem ob_eq (s : PySem.W.SharedT) : ob s = hk.obs s.abs := by
  have e : HandSHeadRun.getT s = s.abs.heap.get? := funext (HandSHeadRun.getT_eq s)
  unfold ob
  rw [e] <;> rfl
def nm0 : List PySem.Str := ["_wall", "SweepError", "SyntaxFault", "CheckFault", "InvalidTick", "InvalidNumber", "UnknownSign", "TooLong", "OtherCorridor", "Contradiction", "InvalidCode", "InvalidName", "UnknownName", "InvalidOperation", "WAYS", "MOVES", "KEYWORDS", "LETTERS", "DIGITS", "SPACES", "SIGNS", "MAX_LETTERS_lexer", "MAX_DIGITS", "NAME", "NUMBER", "KEYWORD", "SIGN", "END", "Token", "run_end"]
def nm1 : List PySem.Str := ["read_token", "tokenize", "MAX_TILES", "MAX_SIGNS", "MAX_MOODS", "MAX_ROBOTS", "Plan", "Parser", "load", "REST", "is_int_in", "replaced", "State", "first_state", "moved", "act", "Tick", "next_tick", "MAX_STEP", "MAX_LETTERS_corridor", "STEP", "PUT", "TURN", "UNDO", "REDO", "LENGTHS", "is_operation", "Corridor", "_law_random", "_law_below"]
def nm2 : List PySem.Str := ["_law_error_of", "_law_all_raise", "_law_equal"]
def names : List PySem.Str := nm0 ++ nm1 ++ nm2
theorem runF (w : World) : HandSHeadRun.RunEq R (PySem.W.view R.prog [69]) hk ob 60000 names (w.withFollow "special-get-raises" false) := by
  intro os
  kernel_rfl
theorem runT (w : World) : HandSHeadRun.RunEq R (PySem.W.view R.prog [69]) hk ob 60000 names (w.withFollow "special-get-raises" true) := by
  intro os
  kernel_rfl
theorem run (w : World) : HandSHeadRun.RunEq R (PySem.W.view R.prog [69]) hk ob 60000 names w :=
  PySem.W.byRow2 "special-get-raises" (P := fun w => HandSHeadRun.RunEq R (PySem.W.view R.prog [69]) hk ob 60000 names w) runF runT w
end Sw

end

section
set_option maxRecDepth 100000
set_option maxHeartbeats 4000000
/-! rules of tuples: enumerate, count -/
namespace SwA
open PySem PySem.Spec PyProof.Rows L2
section
variable {X : Cx}
/-! ### t.count(k) of a tuple of ints -/
def rCntT (K : PySem.W.Frag) : V → List V → Hp → VK → Prop := fun x xs H Q => ∃ (p : Addr) (ns : List Int) (k : Int), x = .ref p ∧ xs = [.int k] ∧ SqT K H p (ns.map V.int) ∧ Q (.int (ns.count k : Nat)) H
theorem mt_tcount : MtR X "tuple.count" (rCntT X.K) := by
  intro pins s σ H x xs v us Q I rx rxs h
  obtain ⟨p, ns, k, rfl, rfl, hs, q⟩ := h
  cases rx
  obtain ⟨u, rfl, ru⟩ := rxs.one
  obtain ⟨t, rfl⟩ := ru
  obtain ⟨its, rv, ⟨⟨cls, dd, data, sl⟩, ho, hc, n, hd⟩, hlen⟩ := I.tuple hs
  simp only at hc hd
  subst hc hd
  have hi := ints_of_vals rv
  refine call_meets PySem.F.slot_tuple_count ⟨_, ho, rfl⟩ PySem.F.entry_tuple_count (PySem.F.args_tuple_count_2 _ _)
    (SeqAt.tuple_countAt p its.toArray n dd sl (.int k t) (eqk k)) ⟨ho, fun y hy => (eqk_gives hi y (by simpa using hy)).at _ _, ?_⟩
  have ec : its.toArray.toList.countP (eqk k) = ns.count k := eqk_count hi
  refine ⟨.int (ns.count k : Nat), H, I.tok _, ⟨s.toks, ?_⟩, q⟩
  show Value.int ((its.toArray.toList.countP (eqk k) : Nat) : Int) s.toks = Value.int ((ns.count k : Nat) : Int) s.toks
  rw [ec]
end
/-! ### enumerate(t) of a tuple -/
open AutoSeq1 (wpAny_loadPart') in
theorem meets_enumerate_newT (l : Addr) (items : Array Value) :
    Meets (Builtin.«enumerate.__new__» ⟨[.type "enumerate", .ref l], []⟩) (fun _ R s => s.heap.IsTuple l items ∧
      R (.ok (.ret (.ref (s.heap.push { cls := .type "tuple_iterator", data := .fields #[.ref l, .int 0 0] }).objs.size)))
        { s with heap := (s.heap.push { cls := .type "tuple_iterator", data := .fields #[.ref l, .int 0 0] }).push { cls := .type "enumerate", data := .fields #[.none, .bool false, .ref s.heap.objs.size, rawInt 0, .none, .none] } }) :=
  .of_wp fun prog w A R s h => by
    obtain ⟨hp, g, d, tk, os⟩ := s; obtain ⟨hL, h⟩ := h
    have hsub := sub_enumerate
    have q1 : ∀ {A' : Around} {E : Value → Shared → Prop} {Q : Value → Shared → Prop}, Q (.ref hp.objs.size) ⟨hp.push { cls := .type "tuple_iterator", data := .fields #[.ref l, .int 0 0] }, g, d, tk, os⟩ → wpAny (model prog w) A' (pyIter (.ref l)) Q E ⟨hp, g, d, tk, os⟩ :=
      fun q => wpAny_pyIter_tuple hL q
    wp_walk using q1
    refine wpAny_stack_any fun st => wpAny_pure ?_
    split
    · rename_i c _ _ _ _ _
      cases (c == Value.type "enumerate")
      · wp_walk using q1
        exact ⟨_, rfl, h⟩
      · wp_walk using q1
        exact ⟨_, rfl, h⟩
    · wp_walk using q1
      exact ⟨_, rfl, h⟩
theorem call_enumerate_tuple {prog : Program} {w : World} {A : Around} {E : Value → Shared → Prop} {s : Shared} {l : Addr} {items : Array Value} {Q : Value → Shared → Prop} (hL : s.heap.IsTuple l items)
    (h : ∀ h', IsEnum h' (s.heap.objs.size + 1) s.heap.objs.size 0 .none → h'.IsTupleIter s.heap.objs.size l 0 → h'.objs.size = s.heap.objs.size + 2 →
      (∀ b o, s.heap.get? b = some o → h'.get? b = some o) → Q (.ref (s.heap.objs.size + 1)) { s with heap := h' }) :
    wpAny (model prog w) A (call (.type "enumerate") [.ref l]) Q E s := by
  refine callType_new F.called_enumerate (by decide) (F.typeCall_enumerate_1 _) (F.newCall_enumerate_1 _) (fun obj => F.args_object_init_2 obj _) F.entry_enumerate_new
    (meets_enumerate_newT l items) ⟨hL, ?_⟩
  have hz : (s.heap.push { cls := .type "tuple_iterator", data := .fields #[.ref l, .int 0 0] }).objs.size = s.heap.objs.size + 1 := Heap.size_push ..
  show _ ∧ _
  rw [hz]
  have he : IsEnum ((s.heap.push { cls := .type "tuple_iterator", data := .fields #[.ref l, .int 0 0] }).push
      { cls := .type "enumerate", data := .fields #[.none, .bool false, .ref s.heap.objs.size, rawInt 0, .none, .none] }) (s.heap.objs.size + 1) s.heap.objs.size 0 .none := by
    have := Heap.get?_push_size (s.heap.push { cls := .type "tuple_iterator", data := .fields #[.ref l, .int 0 0] })
      (o := { cls := .type "enumerate", data := .fields #[.none, .bool false, .ref s.heap.objs.size, rawInt 0, .none, .none] }) rfl
    rw [hz] at this; exact this
  refine ⟨⟨_, he, rfl⟩, h _ he ⟨_, Heap.get?_push_of_some _ (Heap.get?_push_size _ rfl), rfl, rfl⟩ (by rw [Heap.size_push, hz]) fun b o x => Heap.get?_push_of_some _ (Heap.get?_push_of_some _ x)⟩
/-- the tuple at a, each item in a new pair -/
def ItET (K : PySem.W.Frag) (a : Addr) : It :=
  ⟨fun i H => ∃ (xs : List V) (x : V), SqT K H a xs ∧ xs[i]? = some x, fun i H v H' => ∃ T x, v = .ref T ∧ H T = none ∧ H' = upd H T (.tup [.int (i : Nat), x]) ∧ ∀ xs, SqT K H a xs → xs[i]? = some x, fun i H => ∃ xs : List V, SqT K H a xs ∧ xs.length = i⟩
theorem turn_enumT {P : Program} {w : World} {K : PySem.W.Frag} {elts : List Expr} {kk : Nat} {tpos : Pos} (a e it : Addr) (hai : a ≠ it) (hae : a ≠ e) :
    Turn P w K (.Tuple elts kk tpos) (ItET K a) [e, it] e (fun i h => (∃ old, IsEnum h e it ((i : Nat) : Int) old) ∧ h.IsTupleIter it a i ∧ e ≠ it) where
  mem := by simp
  obj := fun i h st b hb => by
    obtain ⟨⟨old, he⟩, ⟨o, ho, hc, hd⟩, _⟩ := st
    have e' : b = e ∨ b = it := by simpa using hb
    rcases e' with z | z
    · rw [z]; exact ⟨_, he, fun v q => nomatch q⟩
    · rw [z]; exact ⟨o, ho, fun v q => by rw [hd] at q; cases q⟩
  keep := fun i h h' st k => let ⟨⟨old, he⟩, hi, hne⟩ := st; ⟨⟨old, k e (by simp) _ he⟩, hi.at fun o q => k it (by simp) o q, hne⟩
  item := by
    intro X hP hw hK hc i pins s σ H E I hf st hg
    subst hP hw hK
    obtain ⟨⟨old, he⟩, hit, hne⟩ := st
    obtain ⟨xs, x, hq, hx⟩ := hg
    obtain ⟨its, rv, p, hz⟩ := I.tuple hq
    obtain ⟨u, hu, ru⟩ := rv.get hx
    have hel : e < s.heap.objs.size := Heap.lt_size he
    have hil : it < s.heap.objs.size := by obtain ⟨_, q, _⟩ := hit; exact Heap.lt_size q
    have hui : i < its.toArray.size := by rw [List.size_toArray]; exact (List.getElem?_eq_some_iff.mp hu).1
    have D := Draws.tuple (prog := X.prog) (w := X.w) (A := X.A.in1) (I.ok.hd hc) it a hai its.toArray
    refine wpAny_pyNext_enum_itemD D he ⟨hit, p⟩ hui hne (by simp; exact ⟨hne, fun z => hae z.symm⟩) fun y h' tk hy ho hit' hT hsz hk => ?_
    have ey : y = u := by
      have e1 : its.toArray[i]? = some u := by simpa using hu
      rw [e1] at hy
      exact (Option.some.inj hy).symm
    subst ey
    refine ⟨_, rfl, wpAny_letOwnedTupleGo_enum (s := { s with heap := h', toks := tk + 1 }) ho fun h'' he' sb => ?_⟩
    have hT2 : h''.get? s.heap.objs.size = some { cls := .type "tuple", data := .seq #[.int i tk, y] } := (sb.2 _ (Nat.ne_of_gt hel)).trans hT
    have new : ObjOk X.prog X.w (upd H s.heap.objs.size (.tup [.int (i : Nat), x])) h'' s.heap.objs.size (.tup [.int (i : Nat), x]) :=
      ⟨by show 2 ≤ sizeLine; decide, [.int i tk, y], .cons ⟨_, rfl⟩ (.cons ru .nil), ⟨_, hT2, rfl, _, rfl⟩⟩
    have I1 : Inv X pins σ (upd H s.heap.objs.size (.tup [.int (i : Nat), x])) { s with heap := h'', toks := tk + 1 } :=
      I.turnedNew (ch := [e, it]) (fun b ob hb q => (sb.2 b (fun z => hb (by simp [z]))).trans (hk b ob (fun z => hb (by simp [z])) (fun z => hb (by simp [z])) q)) hf (Nat.le_refl _) new
    refine ⟨.ref s.heap.objs.size, _, I1, rfl, ⟨_, x, rfl, I.hok.fresh (Nat.le_refl _), rfl, fun ys hy => by rw [I.tuple_inj hy hq]; exact hx⟩, ⟨⟨y, ?_⟩, hit'.1.at fun o q => (sb.2 it (Ne.symm hne)).trans q, hne⟩, fun b hb => ?_⟩
    · have e1 : ((i + 1 : Nat) : Int) = (i : Int) + 1 := by omega
      rw [e1]; exact he'
    · have hb' : b < s.heap.objs.size := by
        have e' : b = e ∨ b = it := by simpa using hb
        rcases e' with z | z
        · rw [z]; exact hel
        · rw [z]; exact hil
      rw [upd_ne (Nat.ne_of_lt hb')]
      exact (hf b hb).1
  done := by
    intro X hP hw hK hc i pins s σ H E I hf st hg
    subst hP hw hK
    obtain ⟨⟨old, he⟩, hit, hne⟩ := st
    obtain ⟨xs, hq, hx⟩ := hg
    obtain ⟨its, rv, p, hz⟩ := I.tuple hq
    obtain ⟨f0, f1, f2, f3, f4, f5⟩ := hf it (by simp)
    have hl := rv.length
    have D := Draws.tuple (prog := X.prog) (w := X.w) (A := X.A.in1) (I.ok.hd hc) it a hai its.toArray
    have ei : its.toArray.size = i := by rw [List.size_toArray]; omega
    exact wpAny_pyNext_enum_endD D he ⟨by rw [ei]; exact hit, p⟩ fun h' eb => ⟨rfl, I.turned (t' := s.toks) (fun b o hb q => eb b o hb q) f0 f1 f3 f4 f5⟩
  self := fun A i s Q E st h => let ⟨⟨_, he⟩, _⟩ := st; wpAny_pyIter_enum he h
def iEnumT (K : PySem.W.Frag) (ta : TA) : TI := fun σ H R => ta σ H fun vs H1 => ∃ a xs, vs = [.ref a] ∧ SqT K H1 a xs ∧ R (ItET K a) H1
theorem pi_enumT {X : Cx} {e : Expr} {ta : TA} {p pos tpos : Pos} {elts : List Expr} {kk : Nat} (hg : Gl X "enumerate") (hm : X.mg "enumerate" = none) (ha : PA X [e] ta) (hs : starEach [e] X.env = [(false, eval e X.env)] := by rfl) :
    PI X (.Tuple elts kk tpos) (.Call (.Name "enumerate" p) [e] [] pos) (iEnumT X.K ta) := by
  refine ⟨fun pins s σ H R I h => ?_⟩
  refine Call_ (ld_blt I hg hm boot_enumerate (PyProof.Rows.callWith_type1 (thn (ha.run pos pins s σ H _ I h) fun us s1 ⟨vs, H1, I1, r1, q1⟩ => ?_) hs rfl))
  obtain ⟨a, xs, ex, hq, q⟩ := q1
  subst ex
  cases r1 with
  | cons r rr =>
    cases rr
    cases r
    obtain ⟨its, rv, p', hz⟩ := I1.tuple hq
    have hal : a < s1.heap.objs.size := by obtain ⟨_, z, _⟩ := p'; exact Heap.lt_size z
    refine call_enumerate_tuple (items := its.toArray) p' fun h' he hit hsz hk => wpAny_pyIter_enum he ?_
    have I2 : Inv X pins σ H1 { s1 with heap := h' } := I1.kept (t' := s1.toks) hk
    refine ⟨s1.heap.objs.size + 1, [s1.heap.objs.size + 1, s1.heap.objs.size], _, _, H1, rfl, I2, turn_enumT a (s1.heap.objs.size + 1) s1.heap.objs.size (Nat.ne_of_lt hal) (Nat.ne_of_lt (Nat.lt_succ_of_lt hal)), ⟨⟨.none, he⟩, hit, Nat.succ_ne_self _⟩, fun b hb => ?_, q⟩
    have e' : b = s1.heap.objs.size + 1 ∨ b = s1.heap.objs.size := by simpa using hb
    have hle : s1.heap.objs.size ≤ b := by
      rcases e' with z | z
      · rw [z]; exact Nat.le_add_right _ _
      · rw [z]; exact Nat.le_refl _
    exact I1.fpOk hle (I1.hok.fresh hle)
/-! ### match upon a tuple: a written text ahead, names behind -/
inductive Caps (X : Cx) : List Pattern → List (Str × Nat) → Prop
  | nil : Caps X [] []
  | cons {x : Str} {i : Nat} {p : Pos} {ps : List Pattern} {xs : List (Str × Nat)} (hi : X.N[i]? = some x) (hx : Loc X.env.scope x) (hf : X.fn x = true ∨ X.env.scope.names.lookup x = some .local) (t : Caps X ps xs) :
      Caps X (.MatchAs none (some x) p :: ps) ((x, i) :: xs)
def setAll : L2.St → List (Str × Nat) → List V → L2.St
  | σ, (_, i) :: r, v :: vs => setAll (σ.set i (some v)) r vs
  | σ, _, _ => σ
def capB : List (Str × Nat) → List Value → List (Str × Value)
  | (x, _) :: r, u :: us => (x, u) :: capB r us
  | _, _ => []
theorem matchEach_caps {X : Cx} {M : Model} {A : Around} {E : Value → Shared → Prop} {s : Shared} : ∀ {ps : List Pattern} {xs : List (Str × Nat)} {us : List Value} {Q : Option (List (Str × Value)) → Shared → Prop}, Caps X ps xs → us.length = ps.length → Q (some (capB xs us)) s → wpAny M A (matchEach ps X.env us) Q E s
  | _, _, [], _, .nil, _, h => wpAny_matchEach_nil h
  | _, _, u :: us, Q, .cons hi hx hf t, hl, h => by
    refine wpAny_matchEach_cons (wpAny_matchPattern_Capture ?_)
    refine matchEach_caps t (by simpa using hl) ?_
    exact h
theorem assign_caps {X : Cx} {M : Model} {A : Around} {E : Value → Shared → Prop} (hN : X.N.Nodup) {pins : List (Addr × Obj)} {H : Hp} : ∀ {ps : List Pattern} {xs : List (Str × Nat)} {us : List Value} {vs : List V} {s : Shared} {σ : L2.St} {Q : Unit → Shared → Prop}, Caps X ps xs → us.length = ps.length → Vals vs us → Inv X pins σ H s →
    (∀ s', Inv X pins (setAll σ xs vs) H s' → Q () s') → wpAny M A (assignInOrder ((capB xs us).map fun (n, _) => bindName X.env n) ((capB xs us).map (·.2))) Q E s
  | _, _, [], _, _, _, _, .nil, _, .nil, I, h => wpAny_assignInOrder_none (h _ I)
  | _, _, u :: us, _, s, σ, Q, .cons hi hx hf t, hl, .cons r rr, I, h => by
    refine wpAny_assignInOrder_more ?_
    refine wpAny_bindName (store_ok I hN hi hx r (fun s' I' => ?_) hf)
    exact assign_caps hN t (by simpa using hl) rr I' h
def tCaseQ (K : PySem.W.Frag) (z : Str) (xs : List (Str × Nat)) (tb : TS) (tr : V → TS) : V → TS := fun v D σ H => ∃ a y ys, v = .ref a ∧ SqT K H a (.str y :: ys) ∧
  (y = z ∧ ys.length = xs.length → tb D (setAll σ xs ys) H) ∧ (¬ (y = z ∧ ys.length = xs.length) → tr v D σ H)
theorem Caps.len {X : Cx} : ∀ {ps : List Pattern} {xs : List (Str × Nat)}, Caps X ps xs → ps.length = xs.length
  | _, _, .nil => rfl
  | _, _, .cons _ _ _ t => by simp [t.len]
theorem pms_seq {X : Cx} {z : Str} {k : Nat} {ps : List Pattern} {xs : List (Str × Nat)} {body : List Stmt} {rest : List MatchCase} {tb : TS} {tr : V → TS} {p1 p2 p3 : Pos} (hc : X.calm = true) (hN : X.N.Nodup) (hp : Caps X ps xs) (hb : PSs X body tb) (hr : PMs X rest tr)
    (hstar : ((.MatchValue (.Constant (.str z) k p1) p2 : Pattern) :: ps).findIdx? (·.isStar) = none := by rfl)
    (hwild : (((.MatchValue (.Constant (.str z) k p1) p2 : Pattern) :: ps).all fun p => p.isWildcard || (p.isStar && p.names.isEmpty)) = false := by rfl) :
    PMs X (⟨.MatchSequence (.MatchValue (.Constant (.str z) k p1) p2 :: ps) p3, none, body⟩ :: rest) (tCaseQ X.K z xs tb tr) := by
  refine ⟨fun pins s σ H D v u first I r h => ?_⟩
  obtain ⟨a, y, ys, ev, hs, h1, h2⟩ := h
  subst ev
  cases r
  obtain ⟨its, rv, ht, hz⟩ := I.tuple hs
  have hlen := rv.length
  have hfit : (its.toArray.size : Int) < 2 ^ 63 := by
    rw [sizeLine_eq] at hz
    simp only [List.size_toArray]
    omega
  have hpl := hp.len
  refine wpAny_matchCases_cons ?_
  by_cases e : its.length = ps.length + 1
  · refine matchSeq_tuple_hit ht hfit (by simpa using e) ?_ hstar hwild
    have en : ((.MatchValue (.Constant (.str z) k p1) p2 : Pattern) :: ps).length = its.toArray.size := by simpa using e.symm
    rw [en]
    have I0 : Inv X pins σ H { s with toks := s.toks + 1 + 1 } := I.tok _
    refine unpackItems_tuple (s := { s with toks := s.toks + 1 + 1 }) (I.ok.hd hc) ht fun h' hx => ?_
    have I1 : Inv X pins σ H { s with heap := h', toks := s.toks + 1 + 1 } := I0.kept (t' := s.toks + 1 + 1) fun b o e => hx b o (Nat.ne_of_lt (Heap.lt_size e)) e
    cases rv with
    | @cons _ u0 _ ur r0 rr =>
      obtain ⟨tt, rfl⟩ := r0
      have hur : ur.length = ps.length := by simpa using e
      have hyl : ys.length = xs.length := by
        have := rr.length
        omega
      refine wpAny_matchEach_cons (wpAny_matchPattern_Value ?_)
      refine thn ((pe_str (X := X) (x := z) (j := k) (pos := p1)).run pins _ σ H (fun x H' => x = .str z ∧ H' = H) I1 ⟨rfl, rfl⟩) fun zv s1 ⟨x, H1, I1', rz, ex, eh⟩ => ?_
      subst ex
      subst eh
      refine thn (op_eq pins s1 σ H1 (.str y) (.str z) (.str y tt) zv (fun x H' => x = .bl (decide (V.str y = V.str z)) ∧ H' = H1) I1' ⟨tt, rfl⟩ rz ⟨rfl, rfl, rfl⟩) fun c s2 ⟨x, H2, I2, rc, ex, eh⟩ => ?_
      subst ex
      subst eh
      obtain rfl : c = Value.bool (decide (V.str y = V.str z)) := rc
      refine wpAny_truthy_bool ?_
      by_cases eq : y = z
      · have d : decide (V.str y = V.str z) = true := decide_eq_true (by rw [eq])
        rw [d]
        refine matchEach_caps hp hur ?_
        refine assign_caps hN hp hur rr I2 fun s' I' => ?_
        exact hb.run pins s' _ H2 D I' (h1 ⟨eq, hyl⟩)
      · have d : decide (V.str y = V.str z) = false := decide_eq_false (fun q => eq (V.str.inj q))
        rw [d]
        exact hr.run pins s2 σ H2 D (.ref a) _ false I2 rfl (h2 fun q => eq q.1)
  · refine matchSeq_tuple_miss ht hfit (by simpa using e) ?_ hstar hwild
    refine hr.run pins _ σ H D (.ref a) _ false (I.tok _) rfl (h2 fun q => e ?_)
    have := q.2
    simp only [List.length_cons] at hlen
    omega
/-! ### a tuple with no dict, whose methods can be asked -/
def TupN (H : Hp) (a : Addr) (xs : List V) : Prop := ∃ o : Obj, o.cls = .type "tuple" ∧ o.dict = none ∧ H a = some (.frz o (.tup xs))
theorem TupN.sq {K : PySem.W.Frag} {H : Hp} {a : Addr} {xs : List V} (h : TupN H a xs) : SqT K H a xs := let ⟨o, _, _, e⟩ := h; .inl (.inr ⟨o, e⟩)
theorem TupN.mono {H H' : Hp} {a : Addr} {xs : List V} (s : ∀ o, H a = some (.frz o (.tup xs)) → H' a = some (.frz o (.tup xs))) (h : TupN H a xs) : TupN H' a xs := let ⟨o, c, d, e⟩ := h; ⟨o, c, d, s o e⟩
section
variable {X : Cx} {a : Expr} {ta : TE}
def kTupN (K : PySem.W.Frag) (x : V) (H : Hp) (Q : VK) : Prop := ∃ p xs, x = .ref p ∧ SqL K H p xs ∧ ∀ (q : Addr) (o : Obj), H q = none → o.cls = .type "tuple" → o.dict = none → Q (.ref q) (upd H q (.frz o (.tup xs)))
theorem rl_tupleN (pins : List (Addr × Obj)) (s : Shared) (σ : L2.St) (H : Hp) (x : V) (v : Value) (Q : VK) (I : Inv X pins σ H s) (r : RelV x v) (h : kTupN X.K x H Q) :
    wpAny (model X.prog X.w) X.A (call (.type "tuple") [v]) (EP X pins σ Q) X.xe s := by
  obtain ⟨p, xs, rfl, hs, q⟩ := h
  obtain rfl : v = .ref p := r
  obtain ⟨its, rv, pl, hz⟩ := I.list hs
  refine call_tuple_list pl.isList (fun h' hk => ?_) (by rw [List.size_toArray, ← rv.length]; exact hz)
  have I1 : Inv X pins σ H { s with heap := h' } := I.kept (t' := s.toks) hk
  have ob : (h'.push { cls := .type "tuple", data := .seq its.toArray }).get? h'.objs.size = some { cls := .type "tuple", data := .seq its.toArray } := Heap.get?_push_size _ rfl
  have I2 : Inv X pins σ (upd H h'.objs.size (.frz { cls := .type "tuple", data := .seq its.toArray } (.tup xs))) { s with heap := h'.push { cls := .type "tuple", data := .seq its.toArray } } :=
    I1.laid (t' := s.toks) (fun b o e => Heap.get?_push_of_some _ e) (Nat.le_refl _) (show ObjOk X.prog X.w _ _ _ (.frz _ (.tup xs)) from ⟨ob, hz, its, rv, IsTup.new _ _⟩)
  exact ⟨.ref h'.objs.size, _, I2, rfl, q _ _ (I1.hok.fresh (Nat.le_refl _)) rfl rfl⟩
theorem pe_tupleOfN {p pos : Pos} (hg : Gl X "tuple") (hm : X.mg "tuple" = none) (ha : PE X a ta) (na : starEach [a] X.env = (false, eval a X.env) :: starEach [] X.env := by rfl) :
    PE X (.Call (.Name "tuple" p) [a] [] pos) (tThen ta (kTupN X.K)) := by
  refine ⟨fun pins s σ H Q I h => ?_⟩
  exact Call_ (ld_blt I hg hm boot_tuple (PyProof.Rows.callWith_type1 (one_arg ha I h (fun v s2 x H2 I2 r q => rl_tupleN pins s2 σ H2 x v Q I2 r q) na) na))
variable {o e : Expr} {es : List Expr} {to : TE} {t : TA} {name : Str} {apos cpos : Pos} {id : String} {r : V → List V → Hp → VK → Prop}
def tBMN (r : V → List V → Hp → VK → Prop) (to : TE) (t : TA) : TE := fun σ H Q => to σ H fun x H1 => (∃ p xs, x = .ref p ∧ TupN H1 p xs) ∧ t σ H1 fun xs H2 => r x xs H2 Q
theorem pe_bmN (slot : Slot "tuple" name id) (hty : typeOf (.builtin id) = pure (.type "method_descriptor")) (hm : MtR X id r) (ho : PE X o to) (ha : PA X (e :: es) t)
    (hbase : attributeBase o name X.env (eval o X.env) = eval o X.env := by rfl)
    (hfew : ((backTo cpos (starEach (e :: es) X.env)).all (fun x => !x.1) && (backToKw cpos (keywordEach [] X.env)).all (fun x => x.1.isSome)
      && decide ((e :: es).length + ([] : List Keyword).length + (if ([] : List Keyword).isEmpty then 0 else 1) < 30)) = true := by rfl)
    (hline : (apos.endLine == cpos.line) = true := by rfl) (hs : starEach (e :: es) X.env = (false, eval e X.env) :: starEach es X.env := by rfl) (hplain : (backTo cpos (starEach es X.env)).any (·.1) = false := by rfl) :
    PE X (.Call (.Attribute o name apos) (e :: es) [] cpos) (tBMN r to t) := by
  refine ⟨fun pins s σ H Q I h => ?_⟩
  refine wpAny_Call_method_late hbase hfew hline rfl (thn (ho.run pins s σ H _ I h) fun v s1 ⟨x, H1, I1, r1, ⟨p, xs, ex, tn⟩, q1⟩ => ?_)
  subst ex
  obtain rfl : v = .ref p := r1
  obtain ⟨ob, oc, od, eH⟩ := tn
  obtain ⟨eo, _⟩ := I1.hok p _ eH
  refine ⟨"tuple", id, PySem.F.plainAttrs_tuple, slot, hty, ⟨ob, eo, oc⟩, fun b eb => ?_, ?_⟩
  · cases eb
    exact ⟨ob, eo, od⟩
  have hA := ha.run cpos pins s1 σ H1 _ I1 q1
  rw [hs] at hA ⊢
  refine Calls.callWith_builtin (by show (false || (backTo cpos (starEach es X.env)).any (·.1)) = false; rw [hplain] <;> rfl) (Calls.evalArgs_plain ?_)
  exact thn hA fun us s2 ⟨vs, H2, I2, r2, q2⟩ => hm pins s2 σ H2 (.ref p) vs (.ref p) us Q I2 rfl r2 q2
end
end SwA
namespace SwA
open PySem PySem.Spec PyProof.Rows L2
/-! ### l == [], l != [] -/
section
variable {X : Cx}
def rEqNil (K : PySem.W.Frag) : R2 := fun x y H Q => ∃ a b xs, x = .ref a ∧ y = .ref b ∧ SqL K H a xs ∧ SqL K H b [] ∧ Q (.bl (decide (xs = []))) H
def rNeNil (K : PySem.W.Frag) : R2 := fun x y H Q => ∃ a b xs, x = .ref a ∧ y = .ref b ∧ SqL K H a xs ∧ SqL K H b [] ∧ Q (.bl (!decide (xs = []))) H
theorem op_eqNil (hu : X.A.units < cLine) : OpR X (compareOp .Eq) (rEqNil X.K) := by
  intro pins s σ H x y v u Q I rx ry h
  obtain ⟨a, b, xs, rfl, rfl, ha, hb, q⟩ := h
  cases rx
  cases ry
  obtain ⟨its, rv, p, hz⟩ := I.list ha
  obtain ⟨its2, rv2, p2, hz2⟩ := I.list hb
  cases rv2
  show wpAny _ _ (richCompare .Eq (.ref a) (.ref b)) _ _ _
  cases rv with
  | nil =>
    refine SeqAt.RcAt.lists (e := fun _ => true) p.isList p2.isList rfl hu (fun j h1 h2 => absurd h1 (Nat.not_lt_zero _)) _ _ _ _ ?_
    exact ⟨.bl true, H, I, rfl, q⟩
  | cons r rr =>
    refine SeqAt.RcAt.lists_lengths p.isList p2.isList (by simp) hu _ _ _ _ ?_
    exact ⟨.bl false, H, I, rfl, q⟩
theorem op_neNil (hu : X.A.units < cLine) : OpR X (compareOp .NotEq) (rNeNil X.K) := by
  intro pins s σ H x y v u Q I rx ry h
  obtain ⟨a, b, xs, rfl, rfl, ha, hb, q⟩ := h
  cases rx
  cases ry
  obtain ⟨its, rv, p, hz⟩ := I.list ha
  obtain ⟨its2, rv2, p2, hz2⟩ := I.list hb
  cases rv2
  show wpAny _ _ (richCompare .NotEq (.ref a) (.ref b)) _ _ _
  cases rv with
  | nil =>
    refine SeqAt.RcNeAt.lists (e := fun _ => true) p.isList p2.isList rfl hu (fun j h1 h2 => absurd h1 (Nat.not_lt_zero _)) _ _ _ _ ?_
    exact ⟨.bl false, H, I, rfl, q⟩
  | cons r rr =>
    refine SeqAt.RcNeAt.lists_lengths p.isList p2.isList (by simp) hu _ _ _ _ ?_
    exact ⟨.bl true, H, I, rfl, q⟩
end
theorem hu0 {A : Around} {k : Nat} (hr : Room k A) : A.units < cLine := by
  have := hr.units
  omega
end SwA

end

section
set_option maxRecDepth 100000
set_option maxHeartbeats 4000000
/-! the errors' classes -/
namespace Sw
open PySem PySem.Spec PyProof.Rows L2 SwA
/-- a def of the text, as it stands behind the top -/
abbrev FD (K : PySem.W.Frag) (p : Str × Option Str) (x q : Str) (st : Stmt) : Prop := ∃ fd, FunD K x q (defArgs st) (defBody st) (defScope st) [] [] (He.fAd K p) fd
/-- it keeps a promise -/
def FnE (P : Program) (w : World) (K : PySem.W.Frag) (mg : Str → Option Value) (base : Heap) (CX : CXT) (k : Nat) (p : Str × Option Str) (ps : List Str) (sp : Sp) : Prop :=
  ∃ fd, FnOk P w K mg base CX k (He.fAd K p) fd ps sp ∧ Binds K fd ps [] ∧ PySem.W.keepIn K (.ref (He.fAd K p)) = true
/-- an error's class with an __init__ of its own, its fields -/
structure ExcC (K : PySem.W.Frag) (mg : Str → Option Value) (x : Str) (fields : List Str) : Prop where
  g : mg x = some (.ref (He.ga K x))
  o : OexC K (He.ga K x)
  i : PySem.W.findIn K (.ref (He.ga K x)) "__init__" = some (some (.ref (He.ma K (He.ga K x) "__init__")))
  t : PySem.W.typeIn K (.ref (He.ma K (He.ga K x) "__init__")) = some (.type "function")
  n : ∀ f ∈ fields, PySem.W.findIn K (.ref (He.ga K x)) f = some none
theorem excCB_ok {K : PySem.W.Frag} {h : Heap} {mg : Str → Option Value} (X : K.In h) (G : h.Ns mainGlobals mg) {x : Str} {fields : List Str} (c : excCB K x fields = true) : ExcC K mg x fields := by
  obtain ⟨c1, c⟩ := He.ba c
  obtain ⟨c2, c⟩ := He.ba c
  obtain ⟨c3, c⟩ := He.ba c
  obtain ⟨c4, c5⟩ := He.ba c
  exact ⟨He.glo_ok X G c1, oexB_ok c2, He.eqO_ok c3, of_decide_eq_true c4, fun f hf => He.eqO_ok (List.all_eq_true.mp c5 f hf)⟩
/-- SweepError, whose __init__ is ValueError's -/
structure BaseT (K : PySem.W.Frag) (mg : Str → Option Value) : Prop where
  g : mg "SweepError" = some (.ref (He.ga K "SweepError"))
  cr : ClX.CRead K (He.ga K "SweepError") (.type "type")
  vv : PySem.W.findCls K (.ref (He.ga K "SweepError")) (.type "type") "__init__" = some (.val (.builtin "ValueError.__init__"))
structure ErrT (K : PySem.W.Frag) (mg : Str → Option Value) : Prop where
  base : BaseT K mg
  syn : ExcC K mg "SyntaxFault" ["line", "column"]
  d_syn : FD K ("SyntaxFault", some "__init__") "__init__" "SyntaxFault.__init__" s_SyntaxFault_init
section
variable {P : Program} {w : World} {K : PySem.W.Frag} {mg : Str → Option Value} {base : Heap}
theorem sc_syn : FnScope ["self", "line", "column"] ["self", "line", "column"] (defScope s_SyntaxFault_init) := ⟨rfl, rfl, rfl, by decide +kernel, rfl, by decide +kernel, by decide +kernel⟩
theorem ok_syn (T : ErrT K mg) : FnE P w K mg base CX0 1 ("SyntaxFault", some "__init__") ["self", "line", "column"] (spFault (He.ga K "SyntaxFault") ["line", "column"]) := by
  obtain ⟨fd, F⟩ := T.d_syn
  refine ⟨fd, F.ok sc_syn (fun vs H Q E h => ?_) (fun cdv A outer s H vs Q E hr h => ?_), F.bindsN fun _ _ _ _ _ _ us hl => match us, hl with | [_, _, _], _ => rfl, F.kp⟩
  · obtain ⟨a, args, rfl, e, _⟩ := h
    simp [e]
  · obtain ⟨a, args, rfl, e, ha, k⟩ := h
    obtain ⟨v1, v2, rfl⟩ : ∃ v1 v2, args = [v1, v2] := by
      match args, e with
      | [v1, v2], _ => exact ⟨v1, v2, rfl⟩
    refine ⟨_, PSs.nox (pss_cons (ps_expr (pe_ownveinit rfl T.base.g T.base.cr T.base.vv (pa_cons (pv 0) (pa_cons (pv 1) (pa_cons (pv 2) pa_nil)))))
      (pss_cons (ps_ost (pv 0) (pv 1)) (pss_one (ps_ost (pv 0) (pv 2))))), ?_⟩
    refine ⟨_, rfl, _, rfl, _, rfl, a, _, _, rfl, by simp, T.syn.o, ha, ?_⟩
    refine ⟨_, rfl, _, rfl, a, _, rfl, T.syn.o, T.syn.n _ (by simp), Or.inl ⟨ha, fun dx ndx da => ?_⟩⟩
    refine ⟨_, rfl, _, rfl, a, _, rfl, T.syn.o, T.syn.n _ (by simp), Or.inr ⟨dx, _, upd_same, by rw [upd_ne da, upd_same], by simp, ?_⟩⟩
    exact k dx _ ndx da (by rw [upd_ne (Ne.symm da), upd_same]) upd_same fun b h1 h2 => by rw [upd_ne h2, upd_ne h1, upd_ne h2]
end
end Sw

end

section
set_option maxRecDepth 100000
set_option maxHeartbeats 4000000
/-! the lexer, walked -/
namespace Sw
open PySem PySem.Spec PyProof.Rows L2 SwA
/-- a class whose __init__ stores its arguments -/
structure MkC (K : PySem.W.Frag) (mg : Str → Option Value) (x : Str) (fields : List Str) : Prop where
  g : mg x = some (.ref (He.ga K x))
  m : Mk K (He.ga K x) (He.ma K (He.ga K x) "__init__")
  c : Cls K (He.ga K x)
  n : ∀ f ∈ fields, NoAttr K (He.ga K x) f
theorem mkCB_ok {K : PySem.W.Frag} {h : Heap} {mg : Str → Option Value} (X : K.In h) (G : h.Ns mainGlobals mg) {x : Str} {fields : List Str} (c : mkCB K x fields = true) : MkC K mg x fields := by
  obtain ⟨c1, c⟩ := He.ba c
  obtain ⟨c2, c⟩ := He.ba c
  obtain ⟨c3, c4⟩ := He.ba c
  exact ⟨He.glo_ok X G c1, He.mkr_ok c2, He.cls_ok c3, fun f hf => He.noat_ok (List.all_eq_true.mp c4 f hf)⟩
structure LexT (K : PySem.W.Frag) (mg : Str → Option Value) : Prop where
  e : ErrT K mg
  len : mg "len" = none
  enumerate : mg "enumerate" = none
  tok : MkC K mg "Token" tokF
  d_tok : FD K ("Token", some "__init__") "__init__" "Token.__init__" s_Token_init
  d_run_end : FD K ("run_end", none) "run_end" "run_end" s_run_end
  g_run_end : mg "run_end" = some (.ref (He.ga K "run_end"))
  d_read_token : FD K ("read_token", none) "read_token" "read_token" s_read_token
  g_read_token : mg "read_token" = some (.ref (He.ga K "read_token"))
  d_tokenize : FD K ("tokenize", none) "tokenize" "tokenize" s_tokenize
  g_tokenize : mg "tokenize" = some (.ref (He.ga K "tokenize"))
  SIGNS : ∃ t, mg "SIGNS" = some (.str ";" t)
  DIGITS : ∃ t, mg "DIGITS" = some (.str "0123456789" t)
  LETTERS : ∃ t, mg "LETTERS" = some (.str "abcdefghijklmnopqrstuvwxyz" t)
  SPACES : ∃ t, mg "SPACES" = some (.str " \n" t)
  SIGN : ∃ t, mg "SIGN" = some (.str "sign" t)
  NUMBER : ∃ t, mg "NUMBER" = some (.str "number" t)
  KEYWORD : ∃ t, mg "KEYWORD" = some (.str "keyword" t)
  NAME : ∃ t, mg "NAME" = some (.str "name" t)
  END : ∃ t, mg "END" = some (.str "end" t)
  MAX_DIGITS : ∃ t, mg "MAX_DIGITS" = some (.int 2 t)
  MAX_LETTERS : ∃ t, mg nMaxLetters = some (.int 8 t)
  KEYWORDS : mg "KEYWORDS" = some (.ref (He.ga K "KEYWORDS"))
  kws : ∀ H : Hp, SqT K H (He.ga K "KEYWORDS") (kws.map fun w => V.str (sx w))
/-- a token's object -/
def TokAt (K : PySem.W.Frag) (H : Hp) (a : Addr) (t : Tk) : Prop := ∃ dx, H a = some (.ins (He.ga K "Token") dx [("kind", .str t.kind.str), ("text", .str (sx t.text)), ("line", .int t.line), ("column", .int t.col)])
def synFs (line col : Nat) : List (Str × V) := [("column", .int col), ("line", .int line)]
/-- a SyntaxFault leaves -/
def Syn (K : PySem.W.Frag) (H : Hp) (E : XK) (line col : Nat) : Prop := ∀ (d : Addr) (H' : Hp), Same H H' → H' d = some (.xd (synFs line col)) → E (.ref (He.ga K "SyntaxFault")) (some d) H'
section
variable {P : Program} {w : World} {K : PySem.W.Frag} {mg : Str → Option Value} {base : Heap}
def spRunEnd : Sp := fun vs H Q _ => ∃ (row : Cs) (s : Nat) (z : Str), vs = [.str (sx row), .int s, .str z] ∧ row.length ≤ 100000 ∧ s ≤ row.length ∧
  Q (.int ((s + ((row.drop s).takeWhile fun c => decide (c ∈ z.cps.toList)).length : Nat) : Int)) H
theorem sc_run_end : FnScope ["row", "start", "letters", "end"] ["row", "start", "letters"] (defScope s_run_end) := ⟨rfl, rfl, rfl, by decide +kernel, rfl, by decide +kernel, by decide +kernel⟩
theorem len_sx (l : Cs) : (sx l).length = l.length := by simp [sx, Str.length]
theorem sz5 {n : Nat} (h : n ≤ 100000) : n ≤ sizeLine := Nat.le_trans h (by decide)
theorem tw_le (p : Nat → Bool) (l : Cs) : (l.takeWhile p).length ≤ l.length := (List.takeWhile_sublist p).length_le
theorem at_sx {l : Cs} {i : Nat} (h : i < l.length) : (sx l).cps[((i : Nat) : Int).toNat]? = some l[i] := by
  rw [Int.toNat_natCast]
  simp [sx, h]
theorem tw_in {p : Nat → Bool} : ∀ {l : Cs} {s i : Nat} (q : i < ((l.drop s).takeWhile p).length) (h : s + i < l.length), p l[s + i] = true
  | [], s, i, q, h => absurd h (by simp)
  | c :: r, 0, i, q, h => by
    rw [List.drop_zero] at q
    cases e : p c with
    | false => rw [List.takeWhile_cons, e] at q; simp at q
    | true =>
      rw [List.takeWhile_cons, e] at q
      cases i with
      | zero => simpa using e
      | succ i =>
        have z := tw_in (p := p) (l := r) (s := 0) (i := i) (by simpa using q) (by simpa using h)
        simpa using z
  | c :: r, s + 1, i, q, h => by
    have h' : s + i < r.length := by simp at h; omega
    have z := tw_in (p := p) (l := r) (s := s) (i := i) (by simpa using q) h'
    have e : s + 1 + i = (s + i) + 1 := by omega
    simp only [e, List.getElem_cons_succ]
    exact z
theorem tw_stop {p : Nat → Bool} : ∀ {l : Cs} {s i : Nat} (q : i = ((l.drop s).takeWhile p).length) (h : s + i < l.length), p l[s + i] = false
  | [], s, i, q, h => absurd h (by simp)
  | c :: r, 0, i, q, h => by
    rw [List.drop_zero] at q
    cases e : p c with
    | false =>
      rw [List.takeWhile_cons, e] at q
      simp at q
      subst q
      simpa using e
    | true =>
      rw [List.takeWhile_cons, e] at q
      simp at q
      subst q
      have z := tw_stop (p := p) (l := r) (s := 0) rfl (by simp at h; simpa using h)
      simpa using z
  | c :: r, s + 1, i, q, h => by
    have h' : s + i < r.length := by simp at h; omega
    have z := tw_stop (p := p) (l := r) (s := s) (i := i) (by simpa using q) h'
    have e : s + 1 + i = (s + i) + 1 := by omega
    simp only [e, List.getElem_cons_succ]
    exact z
theorem ok_run_end (T : LexT K mg) : FnE P w K mg base CX0 1 ("run_end", none) ["row", "start", "letters"] spRunEnd := by
  obtain ⟨fd, F⟩ := T.d_run_end
  refine ⟨fd, F.ok sc_run_end (fun vs H Q E h => ?_) (fun cdv A outer s H vs Q E hr h => ?_), F.bindsN fun _ _ _ _ _ _ us hl => match us, hl with | [_, _, _], _ => rfl, F.kp⟩
  · obtain ⟨row, s, z, rfl, _⟩ := h
    rfl
  · obtain ⟨row, s, z, rfl, hl, hs, k⟩ := h
    refine ⟨_, PSs.nox (pss_cons (ps_set (i := 3) sc_run_end.nd rfl (.inl rfl) (pv 1))
      (pss_cons (ps_while PassesOwn.never (PW.pt (pw_and (pt_cmpR op_lt (pv 3) (pe_callB call_len_str (by rfl) T.len boot_len (pa_cons (pv 0) pa_nil)) (nomark _))
          (pw_and1 (pt_cmpR op_in_sign (pe_item_str (pv 0) (pv 3) (fun _ _ => rfl)) (pv 2) rfl))))
        (pss_one (ps_aug (i := 3) sc_run_end.nd rfl (.inl rfl) pe_int ip_add)))
      (pss_one (ps_ret (pv 3))))), ?_⟩
    refine ⟨_, rfl, ?_⟩
    refine ⟨fun m σ H' => ∃ k : Nat, m + k = ((row.drop s).takeWhile fun c => decide (c ∈ z.cps.toList)).length ∧ H' = H ∧ σ = [some (.str (sx row)), some (.int s), some (.str z), some (.int ((s + k : Nat) : Int))], ⟨_, 0, rfl, rfl, rfl⟩, ?_⟩
    rintro m σ H' ⟨i, hm, rfl, rfl⟩
    refine ⟨_, rfl, _, rfl, _, rfl, by rw [len_sx]; exact sz5 hl, _, _, rfl, rfl, _, rfl, ?_⟩
    refine ite2 (fun h => ?_) (fun h => ?_)
    · have h' : s + i < row.length := by
        have h := of_decide_eq_true h
        rw [len_sx] at h
        omega
      refine ⟨_, rfl, _, rfl, sx row, ((s + i : Nat) : Int), row[s + i], rfl, rfl, by omega, by omega, by rw [len_sx]; omega, ?_, _, rfl, _, _, rfl, rfl, _, rfl, ?_⟩
      · exact at_sx h'
      · refine ite2 (fun h2 => ?_) (fun h2 => ?_)
        · have h2 : decide (row[s + i] ∈ z.cps.toList) = true := h2
          have lt : i < ((row.drop s).takeWhile fun c => decide (c ∈ z.cps.toList)).length := by
            refine Nat.lt_of_le_of_ne (by omega) fun e => ?_
            exact absurd h2 (by rw [tw_stop (p := fun c => decide (c ∈ z.cps.toList)) (l := row) (s := s) (i := i) e h']; exact Bool.false_ne_true)
          refine ⟨_, fun _ _ n => n, _, rfl, _, _, rfl, rfl, m - 1, by omega, i + 1, by omega, rfl, ?_⟩
          simp
          omega
        · have h2 : ¬ decide (row[s + i] ∈ z.cps.toList) = true := h2
          have e : i = ((row.drop s).takeWhile fun c => decide (c ∈ z.cps.toList)).length := by
            refine Nat.le_antisymm (by omega) (Nat.le_of_not_lt fun q => h2 ?_)
            exact tw_in (p := fun c => decide (c ∈ z.cps.toList)) (l := row) (s := s) (i := i) q h'
          refine ⟨_, rfl, ?_⟩
          rw [e]
          exact k
    · have h' : row.length ≤ s + i := by
        have h : ¬ ((s + i : Nat) : Int) < ((sx row).length : Int) := fun q => h (decide_eq_true q)
        rw [len_sx] at h
        omega
      have e : i = ((row.drop s).takeWhile fun c => decide (c ∈ z.cps.toList)).length := by
        have z1 : ((row.drop s).takeWhile fun c => decide (c ∈ z.cps.toList)).length ≤ (row.drop s).length := tw_le _ _
        rw [List.length_drop] at z1
        omega
      refine iteF ⟨_, rfl, ?_⟩
      rw [e]
      exact k
theorem putF_le (f : Str) (v : V) : ∀ fs : List (Str × V), (putF f v fs).length ≤ fs.length + 1
  | [] => by simp [putF]
  | (g, x) :: r => by
    unfold putF
    split
    · simp
    · have := putF_le f v r
      simp only [List.length_cons]
      omega
theorem ln0 : ([] : List (Str × V)).length ≤ 0 := Nat.le_refl 0
theorem lnS {f : Str} {v : V} {fs : List (Str × V)} {n : Nat} (h : fs.length ≤ n) : (putF f v fs).length ≤ n + 1 := Nat.le_trans (putF_le f v fs) (Nat.succ_le_succ h)
theorem lnZ {fs : List (Str × V)} {n : Nat} (h : fs.length ≤ n) (hn : n < 1000 := by decide) : fs.length < 1000 := Nat.lt_of_le_of_lt h hn
theorem sc_tok : FnScope ["self", "kind", "text", "line", "column"] ["self", "kind", "text", "line", "column"] (defScope s_Token_init) := ⟨rfl, rfl, rfl, by decide +kernel, rfl, by decide +kernel, by decide +kernel⟩
theorem put_tok (a b c d : V) : putF "column" d (putF "line" c (putF "text" b (putF "kind" a []))) = ([("kind", a), ("text", b), ("line", c), ("column", d)] : List (Str × V)) := by kernel_rfl
theorem ok_tok (T : LexT K mg) : FnE P w K mg base CX0 1 ("Token", some "__init__") ["self", "kind", "text", "line", "column"] (spInit (He.ga K "Token") tokF) := by
  obtain ⟨fd, F⟩ := T.d_tok
  refine ⟨fd, F.ok sc_tok (fun vs H Q E h => ?_) (fun cdv A outer s H vs Q E hr h => ?_), F.bindsN fun _ _ _ _ _ _ us hl => match us, hl with | [_, _, _, _, _], _ => rfl, F.kp⟩
  · obtain ⟨a, dx, args, rfl, e, _⟩ := h
    simp [e]
  · obtain ⟨p, dx, args, rfl, e, hp, k⟩ := h
    obtain ⟨v1, v2, v3, v4, rfl⟩ : ∃ v1 v2 v3 v4, args = [v1, v2, v3, v4] := by
      match args, e with
      | [v1, v2, v3, v4], _ => exact ⟨v1, v2, v3, v4, rfl⟩
    refine ⟨_, PSs.nox (pss_cons (ps_fld (pv 0) (pv 1) rfl) (pss_cons (ps_fld (pv 0) (pv 2) rfl) (pss_cons (ps_fld (pv 0) (pv 3) rfl) (pss_one (ps_fld (pv 0) (pv 4) rfl))))), ?_⟩
    refine ⟨_, rfl, _, rfl, p, _, dx, _, rfl, hp, T.tok.c, T.tok.n _ (by simp), lnZ ln0, ?_⟩
    refine ⟨_, rfl, _, rfl, p, _, dx, _, rfl, upd_same, T.tok.c, T.tok.n _ (by simp), lnZ (lnS ln0), ?_⟩
    refine ⟨_, rfl, _, rfl, p, _, dx, _, rfl, upd_same, T.tok.c, T.tok.n _ (by simp), lnZ (lnS (lnS ln0)), ?_⟩
    refine ⟨_, rfl, _, rfl, p, _, dx, _, rfl, upd_same, T.tok.c, T.tok.n _ (by simp), lnZ (lnS (lnS (lnS ln0))), ?_⟩
    refine k _ ?_ fun b hb => by rw [upd_ne hb, upd_ne hb, upd_ne hb, upd_ne hb]
    rw [upd_same, put_tok]
    rfl
end
end Sw

end

section
set_option maxRecDepth 100000
set_option maxHeartbeats 4000000
namespace Sw
open PySem PySem.Spec PyProof.Rows L2 SwA
section
variable {P : Program} {w : World} {K : PySem.W.Frag} {mg : Str → Option Value} {base : Heap}
/-! ### texts as codes -/
theorem mem_digits (c : Nat) : decide (c ∈ ("0123456789" : Str).cps.toList) = isD c := by
  have e : ("0123456789" : Str).cps.toList = [48, 49, 50, 51, 52, 53, 54, 55, 56, 57] := by decide +kernel
  rw [e]
  simp only [isD, List.mem_cons, List.not_mem_nil, or_false]
  rw [Bool.eq_iff_iff]
  simp
  omega
theorem mem_letters (c : Nat) : decide (c ∈ ("abcdefghijklmnopqrstuvwxyz" : Str).cps.toList) = isL c := by
  have e : ("abcdefghijklmnopqrstuvwxyz" : Str).cps.toList = [97, 98, 99, 100, 101, 102, 103, 104, 105, 106, 107, 108, 109, 110, 111, 112, 113, 114, 115, 116, 117, 118, 119, 120, 121, 122] := by decide +kernel
  rw [e]
  simp only [isL, List.mem_cons, List.not_mem_nil, or_false]
  rw [Bool.eq_iff_iff]
  simp
  omega
theorem mem_signs (c : Nat) : decide (c ∈ (";" : Str).cps.toList) = decide (c = 59) := by
  have e : (";" : Str).cps.toList = [59] := by decide +kernel
  rw [e]
  simp
theorem mem_spaces (c : Nat) : decide (c ∈ (" \n" : Str).cps.toList) = isS c := by
  have e : (" \n" : Str).cps.toList = [32, 10] := by decide +kernel
  rw [e]
  simp [isS, Bool.decide_or, BEq.beq]
/-- a slice of a row -/
theorem cut_sx {l : Cs} {a n : Nat} (h : a + n ≤ l.length) : cutS (sx l) (some (a : Int)) (some ((a + n : Nat) : Int)) = sx ((l.drop a).take n) := by
  unfold cutS
  rw [HT.sIx_nat, HT.sIx_nat, len_sx, Nat.min_eq_left h, Nat.min_eq_left (by omega : a ≤ l.length), Nat.add_sub_cancel_left]
  rfl
theorem tw_take (p : Nat → Bool) : ∀ l : Cs, l.take (l.takeWhile p).length = l.takeWhile p
  | [] => rfl
  | c :: r => by
    cases e : p c with
    | false => simp [List.takeWhile_cons, e]
    | true => simp [List.takeWhile_cons, e, tw_take p r]
theorem eq_str_sx (a b : Cs) : eqV (V.str (sx a)) (V.str (sx b)) = decide (a = b) := by
  show (sx a == sx b) = decide (a = b)
  rw [Bool.eq_iff_iff, beq_iff_eq, decide_eq_true_iff]
  exact ⟨fun h => sx_inj h, fun h => by rw [h]⟩
theorem inV_sx (a : Cs) (l : List Cs) : inV (V.str (sx a)) (l.map fun w => V.str (sx w)) = decide (a ∈ l) := by
  unfold inV
  induction l with
  | nil => simp
  | cons b r ih =>
    rw [List.map_cons, List.any_cons, ih, eq_str_sx]
    rw [Bool.eq_iff_iff]
    simp only [Bool.or_eq_true, decide_eq_true_eq, List.mem_cons]
    exact or_congr ⟨Eq.symm, Eq.symm⟩ Iff.rfl
theorem flat_sx (l : List Cs) : (l.map fun w => V.str (sx w)).all flatV = true := by
  induction l with
  | nil => rfl
  | cons b r ih => rw [List.map_cons, List.all_cons, ih]; rfl
theorem sign_inj {c d : Nat} {z : Str} (h : (⟨#[c]⟩ : Str) = z) (e : z = ⟨#[d]⟩) : c = d := by
  rw [e] at h
  injection h with h
  injection h with h
  injection h
/-! ### read_token -/
def spReadTok (K : PySem.W.Frag) : Sp := fun vs H Q E => ∃ (row : Cs) (line col : Nat), vs = [.str (sx row), .int line, .int col] ∧ row.length ≤ 100000 ∧ col < row.length ∧
  (∀ t, readTok line col (row.drop col) = some t → ∀ (a : Addr) (H' : Hp), H a = none → Same H H' → TokAt K H' a t → Q (.ref a) H') ∧
  (readTok line col (row.drop col) = none → Syn K H E line col)
theorem sc_read_token : FnScope ["row", "line", "column", "first", "word"] ["row", "line", "column"] (defScope s_read_token) := ⟨rfl, rfl, rfl, by decide +kernel, rfl, by decide +kernel, by decide +kernel⟩
theorem ok_read_token (T : LexT K mg) : FnE P w K mg base (L2.CX P w) 3 ("read_token", none) ["row", "line", "column"] (spReadTok K) := by
  obtain ⟨fd, F⟩ := T.d_read_token
  obtain ⟨fdR, GR, bR, kR⟩ := ok_run_end (P := P) (w := w) (base := base) T
  obtain ⟨fdT, GT, bT, kT⟩ := ok_tok (P := P) (w := w) (base := base) T
  obtain ⟨fdS, GS, bS, kS⟩ := ok_syn (P := P) (w := w) (base := base) T.e
  obtain ⟨t1, mSIGNS⟩ := T.SIGNS
  obtain ⟨t2, mDIGITS⟩ := T.DIGITS
  obtain ⟨t3, mLETTERS⟩ := T.LETTERS
  obtain ⟨t4, mSIGN⟩ := T.SIGN
  obtain ⟨t5, mNUMBER⟩ := T.NUMBER
  obtain ⟨t6, mKEYWORD⟩ := T.KEYWORD
  obtain ⟨t7, mNAME⟩ := T.NAME
  obtain ⟨t8, mMAXD⟩ := T.MAX_DIGITS
  obtain ⟨t9, mMAXL⟩ := T.MAX_LETTERS
  refine ⟨fd, F.ok sc_read_token (fun vs H Q E h => ?_) (fun cdv A outer s H vs Q E hr h => ?_), F.bindsN fun _ _ _ _ _ _ us hl => match us, hl with | [_, _, _], _ => rfl, F.kp⟩
  · obtain ⟨row, line, col, rfl, _⟩ := h
    rfl
  · obtain ⟨row, line, col, rfl, hl, hc, hT, hE⟩ := h
    have hr1 : Room 1 _ := hr.mono (by decide)
    refine ⟨_, (pss_cons (ps_set (i := 3) sc_read_token.nd rfl (.inl rfl) (pe_item_str (pv 0) (pv 2) (fun _ _ => rfl)))
      (pss_cons (ps_if (pt_cmpR op_in_sign (pv 3) (pe_glob (v := .str ";") rfl mSIGNS ⟨_, rfl⟩) rfl)
          (pss_one (ps_ret (pe_make T.tok.m GT hr rfl T.tok.g bT .nil pass0 (pa_cons (pe_glob (v := .str "sign") rfl mSIGN ⟨_, rfl⟩) (pa_cons (pv 3) (pa_cons (pv 1) (pa_cons (pv 2) pa_nil)))))))
          pss_nil)
      (pss_cons (ps_if (pt_cmpR op_in_sign (pv 3) (pe_glob (v := .str "0123456789") rfl mDIGITS ⟨_, rfl⟩) rfl)
          (pss_cons (ps_set (i := 4) sc_read_token.nd rfl (.inl rfl) (pe_slice sl_str (pv 0) (po_some (pv 2)) (po_some (pe_call GR hr1 rfl T.g_run_end kR bR .nil pass0
              (pa_cons (pv 0) (pa_cons (pv 2) (pa_cons (pe_glob (v := .str "0123456789") rfl mDIGITS ⟨_, rfl⟩) pa_nil)))))))
          (pss_cons (ps_if (PW.pt (pw_or (pt_cmpR op_gt (pe_callB call_len_str (by rfl) T.len boot_len (pa_cons (pv 4) pa_nil)) (pe_glob (v := .int 2) rfl mMAXD ⟨_, rfl⟩) (nomark _))
              (pw_or1 (PW.pt (pw_and (pt_cmpR op_gt (pe_callB call_len_str (by rfl) T.len boot_len (pa_cons (pv 4) pa_nil)) pe_int (nomark _)) (pw_and1 (pt_cmpR op_eq (pv 3) pe_str (nomark _))))))))
              (pss_one (ps_raise rfl (takes_of rfl rfl rfl rfl) (pmk_oex T.e.syn.o T.e.syn.i T.e.syn.t GS hr bS .nil pass0 rfl T.e.syn.g (pa_cons (pv 1) (pa_cons (pv 2) pa_nil)))))
              pss_nil)
          (pss_one (ps_ret (pe_make T.tok.m GT hr rfl T.tok.g bT .nil pass0 (pa_cons (pe_glob (v := .str "number") rfl mNUMBER ⟨_, rfl⟩) (pa_cons (pv 4) (pa_cons (pv 1) (pa_cons (pv 2) pa_nil)))))))))
          pss_nil)
      (pss_cons (ps_set (i := 4) sc_read_token.nd rfl (.inl rfl) (pe_slice sl_str (pv 0) (po_some (pv 2)) (po_some (pe_call GR hr1 rfl T.g_run_end kR bR .nil pass0
              (pa_cons (pv 0) (pa_cons (pv 2) (pa_cons (pe_glob (v := .str "abcdefghijklmnopqrstuvwxyz") rfl mLETTERS ⟨_, rfl⟩) pa_nil)))))))
      (pss_cons (ps_if (pt_cmpR op_in_seq (pv 4) (pe_glob (v := .ref (He.ga K "KEYWORDS")) rfl T.KEYWORDS rfl) rfl)
          (pss_one (ps_ret (pe_make T.tok.m GT hr rfl T.tok.g bT .nil pass0 (pa_cons (pe_glob (v := .str "keyword") rfl mKEYWORD ⟨_, rfl⟩) (pa_cons (pv 4) (pa_cons (pv 1) (pa_cons (pv 2) pa_nil)))))))
          pss_nil)
      (pss_cons (ps_if (pt_not (pt_chain op_le op_le pe_int (pe_callB call_len_str (by rfl) T.len boot_len (pa_cons (pv 4) pa_nil)) (pe_glob (v := .int 8) rfl mMAXL ⟨_, rfl⟩)))
          (pss_one (ps_raise rfl (takes_of rfl rfl rfl rfl) (pmk_oex T.e.syn.o T.e.syn.i T.e.syn.t GS hr bS .nil pass0 rfl T.e.syn.g (pa_cons (pv 1) (pa_cons (pv 2) pa_nil)))))
          pss_nil)
      (pss_one (ps_ret (pe_make T.tok.m GT hr rfl T.tok.g bT .nil pass0 (pa_cons (pe_glob (v := .str "name") rfl mNAME ⟨_, rfl⟩) (pa_cons (pv 4) (pa_cons (pv 1) (pa_cons (pv 2) pa_nil))))))))))))), ?_⟩
    have e0 : row.drop col = row[col] :: row.drop (col + 1) := List.drop_eq_getElem_cons hc
    have fin : ∀ (kd : Kd) (tx : Cs) (z : Str), z = kd.str → readTok line col (row.drop col) = some ⟨kd, tx, line, col⟩ → ∀ (x : Addr) (H2 : Hp), H x = none → Same H H2 →
        (∃ dx, H2 x = some (.ins (He.ga K "Token") dx (tokF.zip [.str z, .str (sx tx), .int line, .int col]))) → Q (.ref x) H2 := fun kd tx z ez er x H2 nx sm hx => by
      subst ez
      exact hT _ er x H2 nx sm hx
    have bad : readTok line col (row.drop col) = none → ∀ (d : Addr) (H2 : Hp), H d = none → Same H H2 → H2 d = some (.xd ((["line", "column"] : List Str).zip [V.int line, V.int col]).reverse) → E (.ref (He.ga K "SyntaxFault")) (some d) H2 :=
      fun er d H2 _ sm hx => hE er d H2 sm hx
    refine ⟨_, rfl, _, rfl, sx row, (col : Int), row[col], rfl, rfl, by omega, by omega, by rw [len_sx]; omega, at_sx hc, ?_⟩
    refine ⟨_, rfl, row[col], ";", rfl, rfl, _, rfl, ?_⟩
    refine ite2 (fun h => ?_) (fun h => ?_)
    · -- a sign
      have h1 : row[col] = 59 := by
        have h := h
        rw [mem_signs] at h
        exact of_decide_eq_true h
      refine ⟨_, rfl, _, rfl, _, rfl, mk_at rfl ?_⟩
      have e1 : (⟨#[row[col]]⟩ : Str) = sx [59] := by rw [h1]; rfl
      rw [e1]
      refine fin .sign [59] "sign" rfl ?_
      rw [e0]
      simp [readTok, h1]
    have h1 : row[col] ≠ 59 := by
      have h := h
      rw [mem_signs] at h
      exact fun q => h (decide_eq_true q)
    refine ⟨_, rfl, row[col], "0123456789", rfl, rfl, _, rfl, ?_⟩
    refine ite2 (fun h => ?_) (fun h => ?_)
    · -- a number
      have h2 : isD row[col] = true := by
        have h := h
        rw [mem_digits] at h
        exact h
      have ew : ((row.drop col).takeWhile fun c => decide (c ∈ ("0123456789" : Str).cps.toList)) = (row.drop col).takeWhile isD := by
        congr 1
        exact funext mem_digits
      have hle : col + ((row.drop col).takeWhile isD).length ≤ row.length := by
        have z := tw_le isD (row.drop col)
        rw [List.length_drop] at z
        omega
      refine ⟨_, rfl, _, rfl, _, rfl, _, rfl, _, rfl, row, col, _, rfl, hl, Nat.le_of_lt hc, ?_⟩
      rw [ew]
      refine ⟨_, rfl, sx row, rfl, by rw [len_sx]; exact sz5 hl, ?_⟩
      rw [cut_sx hle, tw_take]
      have hz : (sx ((row.drop col).takeWhile isD)).length ≤ sizeLine := by
        rw [len_sx]
        exact sz5 (by omega)
      refine ⟨_, rfl, _, rfl, hz, _, _, rfl, rfl, _, rfl, ?_⟩
      have rd : readTok line col (row.drop col) = if 2 < ((row.drop col).takeWhile isD).length ∨ (1 < ((row.drop col).takeWhile isD).length ∧ row[col] = 48) then none else some ⟨.number, (row.drop col).takeWhile isD, line, col⟩ := by
        conv => lhs; rw [e0]
        simp only [readTok, if_neg h1, if_pos h2]
        rw [← e0]
      have ok2 : ¬ (2 < ((row.drop col).takeWhile isD).length ∨ (1 < ((row.drop col).takeWhile isD).length ∧ row[col] = 48)) → ∀ (x : Addr) (H2 : Hp), H x = none → Same H H2 →
          (∃ dx, H2 x = some (.ins (He.ga K "Token") dx (tokF.zip [.str "number", .str (sx ((row.drop col).takeWhile isD)), .int line, .int col]))) → Q (.ref x) H2 :=
        fun q => fin .number _ "number" rfl (by rw [rd, if_neg q])
      have bad2 : (2 < ((row.drop col).takeWhile isD).length ∨ (1 < ((row.drop col).takeWhile isD).length ∧ row[col] = 48)) → ∀ (d : Addr) (H2 : Hp), H d = none → Same H H2 → H2 d = some (.xd ((["line", "column"] : List Str).zip [V.int line, V.int col]).reverse) → E (.ref (He.ga K "SyntaxFault")) (some d) H2 :=
        fun q => bad (by rw [rd, if_pos q])
      rw [len_sx]
      refine ite2 (fun h3 => ?_) (fun h3 => ?_)
      · have h3 := of_decide_eq_true h3
        refine iteT ⟨_, rfl, _, rfl, fault_at rfl (by simp) (bad2 (Or.inl (by omega)))⟩
      · have h3 : ¬ (2 : Int) < ((((row.drop col).takeWhile isD).length : Nat) : Int) := fun q => h3 (decide_eq_true q)
        refine ⟨_, rfl, _, rfl, hz, _, _, rfl, rfl, _, rfl, ?_⟩
        rw [len_sx]
        refine ite2 (fun h4 => ?_) (fun h4 => ?_)
        · have h4 := of_decide_eq_true h4
          refine ⟨_, rfl, rfl, _, rfl, ?_⟩
          refine ite2 (fun h5 => ?_) (fun h5 => ?_)
          · have h5 := V.str.inj (of_decide_eq_true h5)
            have h6 : row[col] = 48 := sign_inj h5 (by decide +kernel)
            exact ⟨_, rfl, _, rfl, fault_at rfl (by simp) (bad2 (Or.inr ⟨by omega, h6⟩))⟩
          · have h6 : row[col] ≠ 48 := fun q => h5 (decide_eq_true (by rw [q]; decide +kernel))
            exact ⟨_, rfl, _, rfl, _, rfl, mk_at rfl (ok2 (by
              rintro (q | q)
              · omega
              · exact h6 q.2))⟩
        · have h4 : ¬ (1 : Int) < ((((row.drop col).takeWhile isD).length : Nat) : Int) := fun q => h4 (decide_eq_true q)
          refine iteF ⟨_, rfl, _, rfl, _, rfl, mk_at rfl (ok2 (by
              rintro (q | q)
              · omega
              · omega))⟩
    · -- a word
      have h2 : ¬ isD row[col] = true := by
        have h := h
        rw [mem_digits] at h
        exact h
      have ew : ((row.drop col).takeWhile fun c => decide (c ∈ ("abcdefghijklmnopqrstuvwxyz" : Str).cps.toList)) = (row.drop col).takeWhile isL := by
        congr 1
        exact funext mem_letters
      have hle : col + ((row.drop col).takeWhile isL).length ≤ row.length := by
        have z := tw_le isL (row.drop col)
        rw [List.length_drop] at z
        omega
      have rd : readTok line col (row.drop col) = if (row.drop col).takeWhile isL ∈ kws then some ⟨.keyword, (row.drop col).takeWhile isL, line, col⟩
          else if 1 ≤ ((row.drop col).takeWhile isL).length ∧ ((row.drop col).takeWhile isL).length ≤ 8 then some ⟨.name, (row.drop col).takeWhile isL, line, col⟩ else none := by
        conv => lhs; rw [e0]
        simp only [readTok, if_neg h1, if_neg h2]
        rw [← e0]
      refine ⟨_, rfl, _, rfl, _, rfl, _, rfl, _, rfl, row, col, _, rfl, hl, Nat.le_of_lt hc, ?_⟩
      rw [ew]
      refine ⟨_, rfl, sx row, rfl, by rw [len_sx]; exact sz5 hl, ?_⟩
      rw [cut_sx hle, tw_take]
      have hz : (sx ((row.drop col).takeWhile isL)).length ≤ sizeLine := by
        rw [len_sx]
        exact sz5 (by omega)
      refine ⟨_, rfl, _, _, rfl, Or.inr (T.kws H), rfl, flat_sx kws, _, rfl, ?_⟩
      refine ite2 (fun h3 => ?_) (fun h3 => ?_)
      · have h3 : (row.drop col).takeWhile isL ∈ kws := by
          have h3 : inV (V.str (sx ((row.drop col).takeWhile isL))) (kws.map fun w => V.str (sx w)) = true := h3
          rw [inV_sx] at h3
          exact of_decide_eq_true h3
        exact ⟨_, rfl, _, rfl, _, rfl, mk_at rfl (fin .keyword _ "keyword" rfl (by rw [rd, if_pos h3]))⟩
      · have h3 : ¬ (row.drop col).takeWhile isL ∈ kws := fun q => h3 (by
          show inV (V.str (sx ((row.drop col).takeWhile isL))) (kws.map fun w => V.str (sx w)) = true
          rw [inV_sx]
          exact decide_eq_true q)
        refine ⟨_, rfl, _, rfl, hz, ?_⟩
        rw [len_sx]
        refine ⟨_, _, rfl, rfl, _, rfl, ?_⟩
        refine ite2 (fun h4 => ?_) (fun h4 => ?_)
        · have h4 := of_decide_eq_true h4
          refine ⟨_, _, rfl, rfl, _, rfl, ?_⟩
          refine ite2 (fun h5 => ?_) (fun h5 => ?_)
          · have h5 : ¬ ((((row.drop col).takeWhile isL).length : Nat) : Int) ≤ 8 := fun q => by
              rw [decide_eq_true q] at h5
              exact absurd h5 (by decide)
            exact ⟨_, rfl, _, rfl, fault_at rfl (by simp) (bad (by rw [rd, if_neg h3, if_neg (by omega)]))⟩
          · have h5 : ((((row.drop col).takeWhile isL).length : Nat) : Int) ≤ 8 := Decidable.byContradiction fun q => h5 (by rw [decide_eq_false q]; rfl)
            exact ⟨_, rfl, _, rfl, _, rfl, mk_at rfl (fin .name _ "name" rfl (by rw [rd, if_neg h3, if_pos (by omega)]))⟩
        · have h4 : ¬ (1 : Int) ≤ ((((row.drop col).takeWhile isL).length : Nat) : Int) := fun q => h4 (decide_eq_true q)
          exact ⟨_, rfl, iteT ⟨_, rfl, _, rfl, fault_at rfl (by simp) (bad (by rw [rd, if_neg h3, if_neg (by omega)]))⟩⟩
end
end Sw

end

section
set_option maxRecDepth 100000
set_option maxHeartbeats 4000000
namespace Sw
open PySem PySem.Spec PyProof.Rows L2 SwA
section
variable {P : Program} {w : World} {K : PySem.W.Frag} {mg : Str → Option Value} {base : Heap}
/-! ### the rows -/
theorem split_sx (text : Cs) : Txt.split (sx text) "\n" = (rowsOf text).map sx := by
  refine TL.map_tl_inj ?_
  have e : TL.tl ("\n" : Str) = [10] := by decide +kernel
  rw [TL.split_spl (sx text) "\n" (by rw [e]; simp) (TL.kind_ok (by decide +kernel)), e, List.map_map]
  show rowsOf text = (rowsOf text).map (fun l => l)
  rw [List.map_id']
theorem spl_sum : ∀ (l acc : Cs), ((TL.spl [10] 0 acc l).map List.length).sum ≤ acc.length + l.length
  | [], acc => by simp [TL.spl]
  | c :: r, acc => by
    unfold TL.spl
    split
    · have z := spl_sum r []
      simp only [List.map_cons, List.sum_cons, List.length_cons, List.length_nil] at z ⊢
      have z2 : ((TL.spl [10] (0 + 1 - 1) [] r).map List.length).sum ≤ 0 + r.length := z
      omega
    · have z := spl_sum r (acc ++ [c])
      simp only [List.length_append, List.length_cons, List.length_nil] at z ⊢
      omega
theorem rows_sum (text : Cs) : ((rowsOf text).map List.length).sum ≤ text.length := by
  have z := spl_sum text []
  rw [List.length_nil, Nat.zero_add] at z
  exact z
theorem sum_take : ∀ (l : List Nat) (i : Nat), (l.take i).sum ≤ l.sum
  | [], i => by simp
  | a :: r, 0 => by simp
  | a :: r, i + 1 => by
    have z := sum_take r i
    simp only [List.take_succ_cons, List.sum_cons]
    omega
theorem sum_take_succ {l : List Nat} {i a : Nat} (h : l[i]? = some a) : (l.take (i + 1)).sum = (l.take i).sum + a := by
  rw [List.take_succ, h]
  simp
theorem spl_ne (l acc : Cs) : TL.spl [10] 0 acc l ≠ [] := by
  cases l with
  | nil => simp [TL.spl]
  | cons c r =>
    unfold TL.spl
    split
    · simp
    · exact spl_ne r (acc ++ [c])
theorem spl_len : ∀ (l acc : Cs), (TL.spl [10] 0 acc l).length ≤ l.length + 1
  | [], acc => by simp [TL.spl]
  | c :: r, acc => by
    unfold TL.spl
    split
    · have z := spl_len r []
      have z2 : (TL.spl [10] ([10].length - 1) [] r).length ≤ r.length + 1 := z
      simp only [List.length_cons] at z2 ⊢
      omega
    · have z := spl_len r (acc ++ [c])
      simp only [List.length_cons]
      omega
/-! ### the tokens' objects -/
abbrev TksAt (K : PySem.W.Frag) (H : Hp) (tas : List Addr) (ts : List Tk) : Prop := Paired (fun a t => TokAt K H a t) tas ts
theorem TokAt.same {H H' : Hp} {a : Addr} {t : Tk} (s : Same H H') (h : TokAt K H a t) : TokAt K H' a t := let ⟨dx, e⟩ := h; ⟨dx, s _ _ e⟩
theorem TksAt.same {H H' : Hp} {tas : List Addr} {ts : List Tk} (s : Same H H') (h : TksAt K H tas ts) : TksAt K H' tas ts := Paired.mapP h fun _ _ x => x.same s
theorem TokAt.upd {H : Hp} {a l : Addr} {xs ys : List V} {t : Tk} (hl : H l = some (.lst xs)) (h : TokAt K H a t) : TokAt K (upd H l (.lst ys)) a t := by
  obtain ⟨dx, e⟩ := h
  exact ⟨dx, by rw [upd_ne (ne_of e hl (by intro z; cases z))]; exact e⟩
theorem TksAt.upd {H : Hp} {l : Addr} {xs ys : List V} {tas : List Addr} {ts : List Tk} (hl : H l = some (.lst xs)) (h : TksAt K H tas ts) : TksAt K (L2.upd H l (.lst ys)) tas ts := Paired.mapP h fun _ _ x => x.upd hl
theorem Paired_snoc {α β : Type} {F : α → β → Prop} : ∀ {l : List α} {m : List β} {a : α} {b : β}, Paired F l m → F a b → Paired F (l ++ [a]) (m ++ [b])
  | _, _, _, _, .nil, h => .cons h .nil
  | _, _, _, _, .cons x r, h => .cons x (Paired_snoc r h)
theorem sameUpd {H H' : Hp} {p : Addr} {o : HO} (s : Same H H') (h : H p = none) : Same H (upd H' p o) := fun b u e => by
  rw [upd_ne (ne_of_none e h)]
  exact s b u e
theorem Syn.mono {H H' : Hp} {E : XK} {l c : Nat} (h : Syn K H E l c) (s : Same H H') : Syn K H' E l c := fun d H2 s2 e => h d H2 (s.trans s2) e
theorem lk_text {a b c d : V} : List.lookup ("text" : Str) ([("kind", a), ("text", b), ("line", c), ("column", d)] : List (Str × V)) = some b := by kernel_rfl
theorem lk_kind {a b c d : V} : List.lookup ("kind" : Str) ([("kind", a), ("text", b), ("line", c), ("column", d)] : List (Str × V)) = some a := by kernel_rfl
theorem lk_line {a b c d : V} : List.lookup ("line" : Str) ([("kind", a), ("text", b), ("line", c), ("column", d)] : List (Str × V)) = some c := by kernel_rfl
theorem lk_col {a b c d : V} : List.lookup ("column" : Str) ([("kind", a), ("text", b), ("line", c), ("column", d)] : List (Str × V)) = some d := by kernel_rfl
theorem str_nil : ("" : Str) = sx [] := by decide +kernel
/-! ### tokenize -/
def spTokenize (K : PySem.W.Frag) : Sp := fun vs H Q E => ∃ text : Cs, vs = [.str (sx text)] ∧ text.length ≤ 90000 ∧
  (∀ ts, tokenize text = .ok ts → ∀ (a : Addr) (tas : List Addr) (H' : Hp), H a = none → Same H H' → H' a = some (.lst (tas.map V.ref)) → TksAt K H' tas ts → Q (.ref a) H') ∧
  (∀ l c, tokenize text = .error (l, c) → Syn K H E l c)
theorem sc_tokenize : FnScope ["source", "tokens", "rows", "line", "row", "column", "token"] ["source"] (defScope s_tokenize) := ⟨rfl, rfl, rfl, by decide +kernel, rfl, by decide +kernel, by decide +kernel⟩
/-- what is left of the rows, what is done -/
def RowsInv (rows : List Cs) (i : Nat) (done : List Tk) : Prop :=
  (∀ e, lexRows i (rows.drop i) = .error e → lexRows 0 rows = .error e) ∧ (∀ us, lexRows i (rows.drop i) = .ok us → lexRows 0 rows = .ok (done ++ us))
def RowInv (line : Nat) (row : Cs) (f c : Nat) (done : List Tk) : Prop :=
  (row.drop c).length ≤ f ∧ (∀ e, lexRow line f c (row.drop c) = .error e → lexRow line row.length 0 row = .error e) ∧ (∀ us, lexRow line f c (row.drop c) = .ok us → lexRow line row.length 0 row = .ok (done ++ us))
theorem readTok_len {line col : Nat} {rest : Cs} {t : Tk} (h : readTok line col rest = some t) : 1 ≤ t.text.length ∧ t.text.length ≤ rest.length := by
  unfold readTok at h
  split at h
  · cases h
  · rename_i c r
    split at h
    · cases h; simp
    · split at h
      · rename_i hd
        split at h
        · cases h
        · cases h
          have z := tw_le isD (c :: r)
          refine ⟨?_, z⟩
          simp [List.takeWhile_cons, hd]
      · split at h
        · rename_i hk
          cases h
          refine ⟨?_, tw_le isL (c :: r)⟩
          refine Nat.pos_of_ne_zero fun z => ?_
          have z' : (c :: r).takeWhile isL = [] := List.length_eq_zero_iff.mp z
          rw [z'] at hk
          exact absurd hk (by decide)
        · split at h
          · rename_i hk
            cases h
            exact ⟨hk.1, tw_le isL (c :: r)⟩
          · cases h
theorem ok_tokenize (T : LexT K mg) : FnE P w K mg base (L2.CX P w) 4 ("tokenize", none) ["source"] (spTokenize K) := by
  obtain ⟨fd, F⟩ := T.d_tokenize
  obtain ⟨fdR, GR, bR, kR⟩ := ok_read_token (P := P) (w := w) (base := base) T
  obtain ⟨fdT, GT, bT, kT⟩ := ok_tok (P := P) (w := w) (base := base) T
  obtain ⟨t1, mSPACES⟩ := T.SPACES
  obtain ⟨t2, mEND⟩ := T.END
  refine ⟨fd, F.ok sc_tokenize (fun vs H Q E h => ?_) (fun cdv A outer s H vs Q E hr h => ?_), F.bindsN fun _ _ _ _ _ _ us hl => match us, hl with | [_], _ => rfl, F.kp⟩
  · obtain ⟨text, rfl, _⟩ := h
    rfl
  · obtain ⟨text, rfl, hl, hT, hE⟩ := h
    have hr1 : Room 2 _ := hr.mono (by decide)
    refine ⟨_, (pss_cons (ps_set (i := 1) sc_tokenize.nd rfl (.inl rfl) (pe_lst pa_nil))
      (pss_cons (ps_set (i := 2) sc_tokenize.nd rfl (.inl rfl) (pe_split (pv 0) pe_str))
      (pss_cons (ps_for (passes_of rfl) rfl (pi_enum (by rfl) T.enumerate (pa_cons (pv 2) pa_nil)) (pg_tup rfl (pgs_cons (pg_name (i := 3) sc_tokenize.nd rfl (.inl rfl)) (pgs_cons (pg_name (i := 4) sc_tokenize.nd rfl (.inl rfl)) pgs_nil)))
        (pss_cons (ps_set (i := 5) sc_tokenize.nd rfl (.inl rfl) pe_int)
        (pss_one (ps_while (passes_of rfl) (pt_cmpR op_lt (pv 5) (pe_callB call_len_str (by rfl) T.len boot_len (pa_cons (pv 4) pa_nil)) (nomark _))
          (pss_one (ps_if (pt_cmpR op_in_sign (pe_item_str (pv 4) (pv 5) (fun _ _ => rfl)) (pe_glob (v := .str " \n") rfl mSPACES ⟨_, rfl⟩) rfl)
            (pss_one (ps_aug (i := 5) sc_tokenize.nd rfl (.inl rfl) pe_int ip_add))
            (pss_cons (ps_set (i := 6) sc_tokenize.nd rfl (.inl rfl) (pe_call GR hr rfl T.g_read_token kR bR .nil (passes_call (takes_of rfl rfl rfl rfl) (fun _ _ _ _ h => h)) (pa_cons (pv 4) (pa_cons (pv 3) (pa_cons (pv 5) pa_nil)))))
            (pss_cons (ps_expr (pe_bm PySem.F.plainAttrs_list PySem.F.slot_list_append PySem.F.type_list_append mt_append (pv 1) (pa_cons (pv 6) pa_nil)))
            (pss_one (ps_aug (i := 5) sc_tokenize.nd rfl (.inl rfl) (pe_callB call_len_str (by rfl) T.len boot_len (pa_cons (pe_fld (pv 6) rfl) pa_nil)) ip_add))))))))))
      (pss_one (ps_ret (pe_op op_cat (pv 1) (pe_lst (pa_cons (pe_make T.tok.m GT hr1 rfl T.tok.g bT .nil pass0 (pa_cons (pe_glob (v := .str "end") rfl mEND ⟨_, rfl⟩) (pa_cons pe_str (pa_cons (pe_callB call_len_seq (by rfl) T.len boot_len (pa_cons (pv 2) pa_nil)) (pa_cons pe_int pa_nil))))) pa_nil)))))))), ?_⟩
    refine ⟨by simp, fun tl ntl => ?_⟩
    refine ⟨_, rfl, ⟨_, rfl⟩, sx text, "\n", rfl, rfl, by decide +kernel, by rw [len_sx, sizeLine_eq]; omega, ?_⟩
    rw [split_sx]
    intro rl nrl
    have ntr : rl ≠ tl := by
      rintro rfl
      rw [upd_same] at nrl
      cases nrl
    have nrl' : H rl = none := by
      rw [upd_ne ntr] at nrl
      exact nrl
    refine ⟨_, rfl, rl, _, rfl, SqL.of upd_same, for_it (walk_enum (K := K) (a := rl) (xs := ((rowsOf text).map sx).map V.str)) (fun i σ H' => ∃ (done : List Tk) (tas : List Addr) (o3 o4 o5 o6 : Option V),
        σ = [some (.str (sx text)), some (.ref tl), some (.ref rl), o3, o4, o5, o6] ∧ Same H H' ∧ H' tl = some (.lst (tas.map V.ref)) ∧ H' rl = some (.lst (((rowsOf text).map sx).map V.str)) ∧
        TksAt K H' tas done ∧ done.length ≤ (((rowsOf text).map List.length).take i).sum ∧ RowsInv (rowsOf text) i done) ?_ ?_ ?_ ?_⟩
    · refine ⟨[], [], none, none, none, none, rfl, sameUpd (sameUpd (Same.refl H) ntl) nrl', by rw [upd_ne ntr.symm, upd_same]; rfl, upd_same, .nil, by simp, fun e h => h, fun us h => h⟩
    · rintro i σ H' hi ⟨done, tas, o3, o4, o5, o6, rfl, sm, h1, h2, _⟩
      exact SqL.of h2
    · rintro i x σ H1 H2 hi ⟨done, tas, o3, o4, o5, o6, rfl, sm, h1, h2, htk, hdl, hri⟩ ⟨T0, x1, y1, rfl, nT, rfl, e1, e2⟩
      cases e1
      rw [List.length_map, List.length_map] at hi
      have er : (rowsOf text)[i]? = some (rowsOf text)[i] := List.getElem?_eq_getElem hi
      have ey : y1 = .str (sx (rowsOf text)[i]) := by
        have e2 : (((rowsOf text).map sx).map V.str)[i]? = some y1 := e2
        rw [List.getElem?_map, List.getElem?_map, er] at e2
        exact (Option.some.inj e2).symm
      subst ey
      generalize hrow : (rowsOf text)[i] = row at er
      have hsum : (((rowsOf text).map List.length).take (i + 1)).sum = (((rowsOf text).map List.length).take i).sum + row.length := sum_take_succ (by rw [List.getElem?_map, er]; rfl)
      have htot : (((rowsOf text).map List.length).take (i + 1)).sum ≤ text.length := Nat.le_trans (sum_take _ _) (rows_sum text)
      have hdrop : (rowsOf text).drop i = row :: (rowsOf text).drop (i + 1) := by rw [List.drop_eq_getElem_cons hi, hrow]
      have hlr : row.length ≤ 100000 := by omega
      refine ⟨T0, _, rfl, SqT.of upd_same, rfl, _, _, rfl, _, _, rfl, rfl, ?_⟩
      have g1 : (upd H1 T0 (.tup [.int (i : Nat), .str (sx row)])) tl = some (.lst (tas.map V.ref)) := by rw [upd_ne (ne_of_none h1 nT)]; exact h1
      have g2 : (upd H1 T0 (.tup [.int (i : Nat), .str (sx row)])) rl = some (.lst (((rowsOf text).map sx).map V.str)) := by rw [upd_ne (ne_of_none h2 nT)]; exact h2
      have smT : Same H1 (upd H1 T0 (.tup [.int (i : Nat), .str (sx row)])) := sameUpd (Same.refl H1) nT
      refine ⟨fun m σ H3 => ∃ (c f : Nat) (doneR : List Tk) (tas : List Addr) (o6 : Option V), m + c = row.length ∧ σ = [some (.str (sx text)), some (.ref tl), some (.ref rl), some (.int (i : Nat)), some (.str (sx row)), some (.int (c : Nat)), o6] ∧
        Same H H3 ∧ H3 tl = some (.lst (tas.map V.ref)) ∧ H3 rl = some (.lst (((rowsOf text).map sx).map V.str)) ∧ TksAt K H3 tas (done ++ doneR) ∧ doneR.length ≤ c ∧ RowInv i row f c doneR,
        ⟨row.length, 0, row.length, [], tas, o6, rfl, rfl, sm.trans smT, g1, g2, by rw [List.append_nil]; exact htk.same smT, Nat.le_refl _, by unfold RowInv; rw [List.drop_zero]; exact ⟨Nat.le_refl _, fun e h => h, fun us h => h⟩⟩, ?_⟩
      rintro m σ H3 ⟨c, f, doneR, tas3, o6', hm, rfl, sm3, k1, k2, ktk, kdl, kin⟩
      refine ⟨_, rfl, _, rfl, _, rfl, by rw [len_sx]; exact sz5 hlr, _, _, rfl, rfl, _, rfl, ?_⟩
      refine ite2 (fun h => ?_) (fun h => ?_)
      · have hc : c < row.length := by
          have h := of_decide_eq_true h
          rw [len_sx] at h
          omega
        have e0 : row.drop c = row[c] :: row.drop (c + 1) := List.drop_eq_getElem_cons hc
        obtain ⟨kf, ke, ko⟩ := kin
        obtain ⟨f', rfl⟩ : ∃ f', f = f' + 1 := ⟨f - 1, by rw [e0] at kf; simp at kf; omega⟩
        refine ⟨_, fun _ _ n => n, ?_⟩
        refine ⟨_, rfl, _, rfl, sx row, (c : Int), row[c], rfl, rfl, by omega, by omega, by rw [len_sx]; omega, at_sx hc, row[c], _, rfl, rfl, _, rfl, ?_⟩
        refine ite2 (fun h5 => ?_) (fun h5 => ?_)
        · have h5 : isS row[c] = true := by
            have h5 := h5
            rw [mem_spaces] at h5
            exact h5
          refine ⟨_, rfl, _, _, rfl, rfl, m - 1, by omega, c + 1, f', doneR, tas3, o6', by omega, rfl, sm3, k1, k2, ktk, by omega, ?_⟩
          have es : lexRow i (f' + 1) c (row.drop c) = lexRow i f' (c + 1) (row.drop (c + 1)) := by
            rw [e0]
            simp only [lexRow, if_pos h5]
          refine ⟨?_, fun e q => ke e (by rw [es]; exact q), fun us q => ko us (by rw [es]; exact q)⟩
          rw [e0] at kf
          simp only [List.length_cons] at kf
          omega
        · have h5 : ¬ isS row[c] = true := by
            have h5 := h5
            rw [mem_spaces] at h5
            exact h5
          refine ⟨_, rfl, _, rfl, _, rfl, row, i, c, rfl, hlr, hc, fun t ht a H4 na sm4 hta => ?_, fun hn => ?_⟩
          · have j1 := sm4 _ _ k1
            have j2 := sm4 _ _ k2
            obtain ⟨l1, l2⟩ := readTok_len ht
            rw [List.length_drop] at l2
            have hcount : (tas3.map V.ref).length < sizeLine := by
              rw [List.length_map, ktk.length, List.length_append, sizeLine_eq]
              omega
            obtain ⟨dx, hdx⟩ := hta.upd (ys := tas3.map V.ref ++ [V.ref a]) j1
            refine ⟨_, rfl, .inl ⟨rfl, _, SqL.of j1⟩, _, rfl, tl, _, _, rfl, rfl, j1, hcount, ?_⟩
            refine ⟨_, rfl, _, rfl, a, _, dx, _, _, rfl, hdx, T.tok.c, T.tok.n _ (by simp), lk_text, _, rfl, by rw [len_sx]; exact sz5 (by omega), _, _, rfl, rfl, ?_⟩
            refine ⟨m - t.text.length, by omega, c + t.text.length, f', doneR ++ [t], tas3 ++ [a], _, by omega, by rw [len_sx]; rfl, sameUpd (sm3.trans sm4) ntl, by rw [upd_same, List.map_append]; rfl, by rw [upd_ne ntr]; exact j2, ?_, by simp; omega, ?_⟩
            · rw [← List.append_assoc]
              exact Paired_snoc ((ktk.same sm4).upd j1) ⟨dx, hdx⟩
            · have es : ∀ r, lexRow i f' (c + t.text.length) (row.drop (c + t.text.length)) = r → lexRow i (f' + 1) c (row.drop c) = (match r with | .error e => .error e | .ok ts => .ok (t :: ts)) := by
                intro r q
                have ed : (row[c] :: row.drop (c + 1)).drop t.text.length = row.drop (c + t.text.length) := by rw [← e0, List.drop_drop]
                conv => lhs; rw [e0]
                simp only [lexRow, if_neg h5]
                rw [← e0, ht]
                simp only
                rw [e0, ed, q]
                all_goals (cases r <;> rfl)
              refine ⟨?_, fun e q => ke e (by rw [es _ q]), fun us q => ?_⟩
              · rw [List.length_drop] at kf ⊢
                omega
              · have z := ko (t :: us) (by rw [es _ q])
                rw [z, List.append_assoc]
                rfl
          · have es : lexRow i (f' + 1) c (row.drop c) = .error (i, c) := by
              conv => lhs; rw [e0]
              simp only [lexRow, if_neg h5]
              rw [← e0, hn]
            have z1 := ke _ es
            have z2 : lexRows 0 (rowsOf text) = .error (i, c) := hri.1 _ (by rw [hdrop]; simp only [lexRows, z1])
            exact (hE i c (by simp only [tokenize, z2])).mono sm3
      · have hc : c = row.length := by
          have h : ¬ ((c : Nat) : Int) < ((sx row).length : Int) := fun q => h (decide_eq_true q)
          rw [len_sx] at h
          omega
        obtain ⟨kf, ke, ko⟩ := kin
        have ed : row.drop c = [] := by rw [hc]; exact List.drop_length
        have z1 : lexRow i row.length 0 row = .ok doneR := by
          have z := ko [] (by rw [ed]; cases f <;> rfl)
          rw [z, List.append_nil]
        refine ⟨done ++ doneR, tas3, _, _, _, _, rfl, sm3, k1, k2, ktk, by rw [hsum, List.length_append]; omega, fun e q => hri.1 e ?_, fun us q => ?_⟩
        · rw [hdrop]
          simp only [lexRows, z1, q]
        · have z := hri.2 (doneR ++ us) (by rw [hdrop]; simp only [lexRows, z1, q])
          rw [z, List.append_assoc]
    · rintro σ H1 ⟨done, tas, o3, o4, o5, o6, rfl, sm, h1, h2, htk, hdl, hri⟩
      rw [List.length_map, List.length_map] at hri hdl
      have hlen : (rowsOf text).length ≤ text.length + 1 := spl_len text []
      have hdn : done.length ≤ text.length := Nat.le_trans hdl (Nat.le_trans (sum_take _ _) (rows_sum text))
      have z1 : lexRows 0 (rowsOf text) = .ok done := by
        have z := hri.2 [] (by rw [List.drop_length]; rfl)
        rw [z, List.append_nil]
      refine ⟨_, rfl, _, rfl, rl, _, rfl, .inl (SqL.of h2), ?_⟩
      intro x dx0 nx ndx ne0
      refine init_at (names := tokF) rfl nx ndx fun H5 sm5 hx => ⟨rfl, ?_⟩
      refine ⟨(by show 1 ≤ sizeLine; decide), fun l nl => ?_⟩
      have nlt : tl ≠ l := ne_of_none (sm5 _ _ h1) nl
      refine ⟨tl, l, _, _, rfl, rfl, by rw [upd_ne nlt]; exact sm5 _ _ h1, upd_same, ?_, fun p np => ?_⟩
      · rw [List.length_map, htk.length, sizeLine_eq]
        simp
        omega
      · have npl : p ≠ l := by
          rintro rfl
          rw [upd_same] at np
          cases np
        rw [upd_ne npl] at np
        have s1 : Same H5 (upd (upd H5 l (.lst [.ref x])) p (.lst (tas.map V.ref ++ [.ref x]))) := sameUpd (sameUpd (Same.refl H5) nl) np
        have nH : H p = none := (sm.trans sm5).free np
        refine hT (done ++ [⟨.fin, [], (rowsOf text).length, 0⟩]) (by simp only [tokenize, z1]) p (tas ++ [x]) _ nH ((sm.trans sm5).trans s1) (by rw [upd_same, List.map_append]; rfl) ?_
        refine Paired_snoc (htk.same (sm5.trans s1)) ?_
        obtain ⟨dx, hdx⟩ := hx
        refine ⟨dx, ?_⟩
        rw [s1 _ _ hdx, List.length_map, List.length_map, str_nil]
        rfl
end
end Sw

end

section
set_option maxRecDepth 100000
set_option maxHeartbeats 4000000
/-! the parser's object -/
namespace Sw
open PySem PySem.Spec PyProof.Rows L2 SwA
abbrev sV (w : Cs) : V := .str (sx w)
/-- where the parser's parts stand -/
structure PLoc where
  tl : Addr
  fl : Addr
  sl : Addr
  ml : Addr
  rl : Addr
  rd : Addr
  pd : Addr
  sd : Addr
def parF (L : PLoc) (at_ : Nat) : List (Str × V) := [("tokens", .ref L.tl), ("at", .int at_), ("faults", .ref L.fl), ("signs", .ref L.sl), ("moods", .ref L.ml), ("robots", .ref L.rl), ("rules", .ref L.rd), ("pairs", .ref L.pd), ("spots", .ref L.sd)]
def FaultsAt (H : Hp) : Nat → List Addr → List (Nat × Nat × Cs) → Prop
  | _, [], [] => True
  | i, a :: as, f :: fs => H a = some (.tup [.int f.1, .int f.2.1, .int (i : Nat), sV f.2.2]) ∧ FaultsAt H (i + 1) as fs
  | _, _, _ => False
def keyT (q : Nat × Nat) : List Key := [.inl q.1, .inl q.2]
def RuleAt (H : Hp) (r : (Nat × Nat) × Rule) (kv : List Key × V) : Prop := kv.1 = keyT r.1 ∧ ∃ t, kv.2 = .ref t ∧ H t = some (.tup [.int r.2.left, sV r.2.move, .int r.2.later])
def RulesAt (H : Hp) (rd : Addr) (rules : List ((Nat × Nat) × Rule)) : Prop := ∃ kvs, H rd = some (.dT kvs) ∧ Paired (RuleAt H) rules kvs
def RobAt (H : Hp) (a : Addr) (r : Nat × Bool) : Prop := H a = some (.tup [.int r.1, .bl r.2])
def pairK (q : Cs × Cs) : List Key × V := ([.inr (sx q.1), .inr (sx q.2)], .bl true)
def spotK (q : Nat × Nat) : Key × V := (.inl q.1, .int q.2)
/-- the parser at p: its state -/
structure PA (K : PySem.W.Frag) (H0 H : Hp) (p : Addr) (L : PLoc) (tas : List Addr) (T : List Tk) (st : PSt) : Prop where
  same : Same H0 H
  ob : ∃ dx, H p = some (.ins (He.ga K "Parser") dx (parF L st.at_))
  tk : H L.tl = some (.lst (tas.map V.ref))
  tks : TksAt K H tas T
  fa : ∃ fas : List Addr, H L.fl = some (.lst (fas.map V.ref)) ∧ FaultsAt H 0 fas st.faults
  si : H L.sl = some (.lst (st.signs.map sV))
  mo : H L.ml = some (.lst (st.moods.map sV))
  ro : ∃ ras : List Addr, H L.rl = some (.lst (ras.map V.ref)) ∧ Paired (RobAt H) ras st.robots
  ru : RulesAt H L.rd st.rules
  pr : H L.pd = some (.dT (st.pairs.map pairK))
  sp : H L.sd = some (.dK (st.spots.map spotK))
  nd : [p, L.tl, L.fl, L.sl, L.ml, L.rl, L.rd, L.pd, L.sd].Nodup
  new : ∀ a ∈ [p, L.tl, L.fl, L.sl, L.ml, L.rl, L.rd, L.pd, L.sd], H0 a = none
theorem FaultsAt.mono {H H' : Hp} (s : ∀ a xs, H a = some (.tup xs) → H' a = some (.tup xs)) : ∀ {i : Nat} {as : List Addr} {fs : List (Nat × Nat × Cs)}, FaultsAt H i as fs → FaultsAt H' i as fs
  | _, [], [], h => h
  | _, a :: as, f :: fs, h => ⟨s _ _ h.1, FaultsAt.mono s h.2⟩
  | _, [], _ :: _, h => h.elim
  | _, _ :: _, [], h => h.elim
theorem FaultsAt.snoc {H : Hp} {a : Addr} {f : Nat × Nat × Cs} : ∀ {i : Nat} {as : List Addr} {fs : List (Nat × Nat × Cs)}, FaultsAt H i as fs → H a = some (.tup [.int f.1, .int f.2.1, .int ((i + fs.length : Nat) : Int), sV f.2.2]) → FaultsAt H i (as ++ [a]) (fs ++ [f])
  | _, [], [], _, e => ⟨e, trivial⟩
  | i, b :: as, g :: fs, h, e => ⟨h.1, FaultsAt.snoc h.2 (by
      have z : i + 1 + fs.length = i + (g :: fs).length := by simp only [List.length_cons]; omega
      rw [z]
      exact e)⟩
  | _, [], _ :: _, h, _ => h.elim
  | _, _ :: _, [], h, _ => h.elim
theorem FaultsAt.len {H : Hp} : ∀ {i : Nat} {as : List Addr} {fs : List (Nat × Nat × Cs)}, FaultsAt H i as fs → as.length = fs.length
  | _, [], [], _ => rfl
  | _, a :: as, f :: fs, h => by simp [FaultsAt.len h.2]
  | _, [], _ :: _, h => h.elim
  | _, _ :: _, [], h => h.elim
theorem RuleAt.mono {H H' : Hp} (s : ∀ a xs, H a = some (.tup xs) → H' a = some (.tup xs)) {r : (Nat × Nat) × Rule} {kv : List Key × V} (h : RuleAt H r kv) : RuleAt H' r kv :=
  let ⟨e, t, e1, e2⟩ := h
  ⟨e, t, e1, s _ _ e2⟩
section
variable {K : PySem.W.Frag} {H0 H H' : Hp} {p : Addr} {L : PLoc} {tas : List Addr} {T : List Tk} {st : PSt}
/-- more objects -/
theorem PA.mono (h : PA K H0 H p L tas T st) (s : Same H H') : PA K H0 H' p L tas T st where
  same := h.same.trans s
  ob := let ⟨dx, e⟩ := h.ob; ⟨dx, s _ _ e⟩
  tk := s _ _ h.tk
  tks := h.tks.same s
  fa := let ⟨fas, e1, e2⟩ := h.fa; ⟨fas, s _ _ e1, e2.mono fun _ _ z => s _ _ z⟩
  si := s _ _ h.si
  mo := s _ _ h.mo
  ro := let ⟨ras, e1, e2⟩ := h.ro; ⟨ras, s _ _ e1, Paired.mapP e2 fun _ _ z => s _ _ z⟩
  ru := let ⟨kvs, e1, e2⟩ := h.ru; ⟨kvs, s _ _ e1, Paired.mapP e2 fun _ _ z => z.mono fun _ _ z => s _ _ z⟩
  pr := s _ _ h.pr
  sp := s _ _ h.sp
  nd := h.nd
  new := h.new
/-- what is changed is neither a tuple nor an object of another kind: the rest -/
theorem keepT {x : Addr} {o o' : HO} (hx : H x = some o) (ht : ∀ xs, o ≠ .tup xs) : ∀ a xs, H a = some (.tup xs) → (upd H x o') a = some (.tup xs) := fun a xs e => by
  rw [upd_ne (ne_of e hx fun z => ht xs z.symm)]
  exact e
theorem keepK {x : Addr} {o o' : HO} (hx : H x = some o) (hi : ∀ C d fs, o = .ins C d fs → C ≠ He.ga K "Token") : ∀ a t, TokAt K H a t → TokAt K (upd H x o') a t := fun a t ⟨dx, e⟩ => by
  refine ⟨dx, ?_⟩
  rw [upd_ne (ne_of e hx fun z => hi _ _ _ z.symm rfl)]
  exact e
/-- self.at += 1 -/
theorem PA.setAt (h : PA K H0 H p L tas T st) (hPT : He.ga K "Parser" ≠ He.ga K "Token") {dx : Addr} {n : Nat} (e : H p = some (.ins (He.ga K "Parser") dx (parF L st.at_))) :
    PA K H0 (upd H p (.ins (He.ga K "Parser") dx (parF L n))) p L tas T { st with at_ := n } := by
  have z := h.nd
  simp only [List.nodup_cons, List.mem_cons, List.not_mem_nil, or_false, not_or] at z
  obtain ⟨⟨z1, z2, z3, z4, z5, z6, z7, z8⟩, _⟩ := z
  have kt := keepT (o' := .ins (He.ga K "Parser") dx (parF L n)) e (fun xs q => by cases q)
  have kk := keepK (K := K) (o' := .ins (He.ga K "Parser") dx (parF L n)) e (fun C d fs q => by cases q; exact hPT)
  refine ⟨sameUpd h.same (h.new _ (by simp)), ⟨dx, upd_same⟩, ?_, Paired.mapP h.tks fun a t q => kk a t q, ?_, ?_, ?_, ?_, ?_, ?_, ?_, h.nd, h.new⟩
  · rw [upd_ne (Ne.symm z1)]; exact h.tk
  · obtain ⟨fas, e1, e2⟩ := h.fa
    exact ⟨fas, by rw [upd_ne (Ne.symm z2)]; exact e1, e2.mono kt⟩
  · rw [upd_ne (Ne.symm z3)]; exact h.si
  · rw [upd_ne (Ne.symm z4)]; exact h.mo
  · obtain ⟨ras, e1, e2⟩ := h.ro
    exact ⟨ras, by rw [upd_ne (Ne.symm z5)]; exact e1, Paired.mapP e2 fun _ _ q => kt _ _ q⟩
  · obtain ⟨kvs, e1, e2⟩ := h.ru
    exact ⟨kvs, by rw [upd_ne (Ne.symm z6)]; exact e1, Paired.mapP e2 fun _ _ q => q.mono kt⟩
  · rw [upd_ne (Ne.symm z7)]; exact h.pr
  · rw [upd_ne (Ne.symm z8)]; exact h.sp
theorem PA.set_fl (h : PA K H0 H p L tas T st) {fas fas' : List Addr} {fs : List (Nat × Nat × Cs)} (e : H L.fl = some (.lst (fas.map V.ref))) (hn : FaultsAt (upd H L.fl (.lst (fas'.map V.ref))) 0 fas' fs) : PA K H0 (upd H L.fl (.lst (fas'.map V.ref))) p L tas T { st with faults := fs } := by
  have z := h.nd
  simp only [List.nodup_cons, List.mem_cons, List.not_mem_nil, or_false, not_or] at z
  obtain ⟨⟨n_p_tl, n_p_fl, n_p_sl, n_p_ml, n_p_rl, n_p_rd, n_p_pd, n_p_sd⟩, ⟨n_tl_fl, n_tl_sl, n_tl_ml, n_tl_rl, n_tl_rd, n_tl_pd, n_tl_sd⟩, ⟨n_fl_sl, n_fl_ml, n_fl_rl, n_fl_rd, n_fl_pd, n_fl_sd⟩, ⟨n_sl_ml, n_sl_rl, n_sl_rd, n_sl_pd, n_sl_sd⟩, ⟨n_ml_rl, n_ml_rd, n_ml_pd, n_ml_sd⟩, ⟨n_rl_rd, n_rl_pd, n_rl_sd⟩, ⟨n_rd_pd, n_rd_sd⟩, n_pd_sd, _⟩ := z
  have ne_p : p ≠ L.fl := n_p_fl
  have ne_tl : L.tl ≠ L.fl := n_tl_fl
  have ne_sl : L.sl ≠ L.fl := Ne.symm n_fl_sl
  have ne_ml : L.ml ≠ L.fl := Ne.symm n_fl_ml
  have ne_rl : L.rl ≠ L.fl := Ne.symm n_fl_rl
  have ne_rd : L.rd ≠ L.fl := Ne.symm n_fl_rd
  have ne_pd : L.pd ≠ L.fl := Ne.symm n_fl_pd
  have ne_sd : L.sd ≠ L.fl := Ne.symm n_fl_sd
  have kt := keepT (o' := .lst (fas'.map V.ref)) e (fun xs q => by cases q)
  have kk := keepK (K := K) (o' := .lst (fas'.map V.ref)) e (fun C d fs q => by cases q)
  exact ⟨sameUpd h.same (h.new _ (by simp)), (let ⟨dx, q⟩ := h.ob; ⟨dx, (upd_ne ne_p).trans q⟩), (upd_ne ne_tl).trans h.tk, Paired.mapP h.tks fun a t q => kk a t q,
    ⟨fas', upd_same, hn⟩,
    ((upd_ne (ne_sl)).trans h.si),
    ((upd_ne (ne_ml)).trans h.mo),
    (let ⟨ras, e1, e2⟩ := h.ro; ⟨ras, (upd_ne (ne_rl)).trans e1, Paired.mapP e2 fun _ _ q => kt _ _ q⟩),
    (let ⟨kvs, e1, e2⟩ := h.ru; ⟨kvs, (upd_ne (ne_rd)).trans e1, Paired.mapP e2 fun _ _ q => q.mono kt⟩),
    ((upd_ne (ne_pd)).trans h.pr),
    ((upd_ne (ne_sd)).trans h.sp), h.nd, h.new⟩
theorem PA.set_sl (h : PA K H0 H p L tas T st) {xs : List V} {ws : List Cs} (e : H L.sl = some (.lst xs)) (hn : True) : PA K H0 (upd H L.sl (.lst (ws.map sV))) p L tas T { st with signs := ws } := by
  have z := h.nd
  simp only [List.nodup_cons, List.mem_cons, List.not_mem_nil, or_false, not_or] at z
  obtain ⟨⟨n_p_tl, n_p_fl, n_p_sl, n_p_ml, n_p_rl, n_p_rd, n_p_pd, n_p_sd⟩, ⟨n_tl_fl, n_tl_sl, n_tl_ml, n_tl_rl, n_tl_rd, n_tl_pd, n_tl_sd⟩, ⟨n_fl_sl, n_fl_ml, n_fl_rl, n_fl_rd, n_fl_pd, n_fl_sd⟩, ⟨n_sl_ml, n_sl_rl, n_sl_rd, n_sl_pd, n_sl_sd⟩, ⟨n_ml_rl, n_ml_rd, n_ml_pd, n_ml_sd⟩, ⟨n_rl_rd, n_rl_pd, n_rl_sd⟩, ⟨n_rd_pd, n_rd_sd⟩, n_pd_sd, _⟩ := z
  have ne_p : p ≠ L.sl := n_p_sl
  have ne_tl : L.tl ≠ L.sl := n_tl_sl
  have ne_fl : L.fl ≠ L.sl := n_fl_sl
  have ne_ml : L.ml ≠ L.sl := Ne.symm n_sl_ml
  have ne_rl : L.rl ≠ L.sl := Ne.symm n_sl_rl
  have ne_rd : L.rd ≠ L.sl := Ne.symm n_sl_rd
  have ne_pd : L.pd ≠ L.sl := Ne.symm n_sl_pd
  have ne_sd : L.sd ≠ L.sl := Ne.symm n_sl_sd
  have kt := keepT (o' := .lst (ws.map sV)) e (fun xs q => by cases q)
  have kk := keepK (K := K) (o' := .lst (ws.map sV)) e (fun C d fs q => by cases q)
  exact ⟨sameUpd h.same (h.new _ (by simp)), (let ⟨dx, q⟩ := h.ob; ⟨dx, (upd_ne ne_p).trans q⟩), (upd_ne ne_tl).trans h.tk, Paired.mapP h.tks fun a t q => kk a t q,
    (let ⟨fas, e1, e2⟩ := h.fa; ⟨fas, (upd_ne (ne_fl)).trans e1, e2.mono kt⟩),
    upd_same,
    ((upd_ne (ne_ml)).trans h.mo),
    (let ⟨ras, e1, e2⟩ := h.ro; ⟨ras, (upd_ne (ne_rl)).trans e1, Paired.mapP e2 fun _ _ q => kt _ _ q⟩),
    (let ⟨kvs, e1, e2⟩ := h.ru; ⟨kvs, (upd_ne (ne_rd)).trans e1, Paired.mapP e2 fun _ _ q => q.mono kt⟩),
    ((upd_ne (ne_pd)).trans h.pr),
    ((upd_ne (ne_sd)).trans h.sp), h.nd, h.new⟩
theorem PA.set_ml (h : PA K H0 H p L tas T st) {xs : List V} {ws : List Cs} (e : H L.ml = some (.lst xs)) (hn : True) : PA K H0 (upd H L.ml (.lst (ws.map sV))) p L tas T { st with moods := ws } := by
  have z := h.nd
  simp only [List.nodup_cons, List.mem_cons, List.not_mem_nil, or_false, not_or] at z
  obtain ⟨⟨n_p_tl, n_p_fl, n_p_sl, n_p_ml, n_p_rl, n_p_rd, n_p_pd, n_p_sd⟩, ⟨n_tl_fl, n_tl_sl, n_tl_ml, n_tl_rl, n_tl_rd, n_tl_pd, n_tl_sd⟩, ⟨n_fl_sl, n_fl_ml, n_fl_rl, n_fl_rd, n_fl_pd, n_fl_sd⟩, ⟨n_sl_ml, n_sl_rl, n_sl_rd, n_sl_pd, n_sl_sd⟩, ⟨n_ml_rl, n_ml_rd, n_ml_pd, n_ml_sd⟩, ⟨n_rl_rd, n_rl_pd, n_rl_sd⟩, ⟨n_rd_pd, n_rd_sd⟩, n_pd_sd, _⟩ := z
  have ne_p : p ≠ L.ml := n_p_ml
  have ne_tl : L.tl ≠ L.ml := n_tl_ml
  have ne_fl : L.fl ≠ L.ml := n_fl_ml
  have ne_sl : L.sl ≠ L.ml := n_sl_ml
  have ne_rl : L.rl ≠ L.ml := Ne.symm n_ml_rl
  have ne_rd : L.rd ≠ L.ml := Ne.symm n_ml_rd
  have ne_pd : L.pd ≠ L.ml := Ne.symm n_ml_pd
  have ne_sd : L.sd ≠ L.ml := Ne.symm n_ml_sd
  have kt := keepT (o' := .lst (ws.map sV)) e (fun xs q => by cases q)
  have kk := keepK (K := K) (o' := .lst (ws.map sV)) e (fun C d fs q => by cases q)
  exact ⟨sameUpd h.same (h.new _ (by simp)), (let ⟨dx, q⟩ := h.ob; ⟨dx, (upd_ne ne_p).trans q⟩), (upd_ne ne_tl).trans h.tk, Paired.mapP h.tks fun a t q => kk a t q,
    (let ⟨fas, e1, e2⟩ := h.fa; ⟨fas, (upd_ne (ne_fl)).trans e1, e2.mono kt⟩),
    ((upd_ne (ne_sl)).trans h.si),
    upd_same,
    (let ⟨ras, e1, e2⟩ := h.ro; ⟨ras, (upd_ne (ne_rl)).trans e1, Paired.mapP e2 fun _ _ q => kt _ _ q⟩),
    (let ⟨kvs, e1, e2⟩ := h.ru; ⟨kvs, (upd_ne (ne_rd)).trans e1, Paired.mapP e2 fun _ _ q => q.mono kt⟩),
    ((upd_ne (ne_pd)).trans h.pr),
    ((upd_ne (ne_sd)).trans h.sp), h.nd, h.new⟩
theorem PA.set_rl (h : PA K H0 H p L tas T st) {xs : List V} {ras : List Addr} {rs : List (Nat × Bool)} (e : H L.rl = some (.lst xs)) (hn : Paired (RobAt (upd H L.rl (.lst (ras.map V.ref)))) ras rs) : PA K H0 (upd H L.rl (.lst (ras.map V.ref))) p L tas T { st with robots := rs } := by
  have z := h.nd
  simp only [List.nodup_cons, List.mem_cons, List.not_mem_nil, or_false, not_or] at z
  obtain ⟨⟨n_p_tl, n_p_fl, n_p_sl, n_p_ml, n_p_rl, n_p_rd, n_p_pd, n_p_sd⟩, ⟨n_tl_fl, n_tl_sl, n_tl_ml, n_tl_rl, n_tl_rd, n_tl_pd, n_tl_sd⟩, ⟨n_fl_sl, n_fl_ml, n_fl_rl, n_fl_rd, n_fl_pd, n_fl_sd⟩, ⟨n_sl_ml, n_sl_rl, n_sl_rd, n_sl_pd, n_sl_sd⟩, ⟨n_ml_rl, n_ml_rd, n_ml_pd, n_ml_sd⟩, ⟨n_rl_rd, n_rl_pd, n_rl_sd⟩, ⟨n_rd_pd, n_rd_sd⟩, n_pd_sd, _⟩ := z
  have ne_p : p ≠ L.rl := n_p_rl
  have ne_tl : L.tl ≠ L.rl := n_tl_rl
  have ne_fl : L.fl ≠ L.rl := n_fl_rl
  have ne_sl : L.sl ≠ L.rl := n_sl_rl
  have ne_ml : L.ml ≠ L.rl := n_ml_rl
  have ne_rd : L.rd ≠ L.rl := Ne.symm n_rl_rd
  have ne_pd : L.pd ≠ L.rl := Ne.symm n_rl_pd
  have ne_sd : L.sd ≠ L.rl := Ne.symm n_rl_sd
  have kt := keepT (o' := .lst (ras.map V.ref)) e (fun xs q => by cases q)
  have kk := keepK (K := K) (o' := .lst (ras.map V.ref)) e (fun C d fs q => by cases q)
  exact ⟨sameUpd h.same (h.new _ (by simp)), (let ⟨dx, q⟩ := h.ob; ⟨dx, (upd_ne ne_p).trans q⟩), (upd_ne ne_tl).trans h.tk, Paired.mapP h.tks fun a t q => kk a t q,
    (let ⟨fas, e1, e2⟩ := h.fa; ⟨fas, (upd_ne (ne_fl)).trans e1, e2.mono kt⟩),
    ((upd_ne (ne_sl)).trans h.si),
    ((upd_ne (ne_ml)).trans h.mo),
    ⟨ras, upd_same, hn⟩,
    (let ⟨kvs, e1, e2⟩ := h.ru; ⟨kvs, (upd_ne (ne_rd)).trans e1, Paired.mapP e2 fun _ _ q => q.mono kt⟩),
    ((upd_ne (ne_pd)).trans h.pr),
    ((upd_ne (ne_sd)).trans h.sp), h.nd, h.new⟩
theorem PA.set_rd (h : PA K H0 H p L tas T st) {kvs kvs' : List (List Key × V)} {rs : List ((Nat × Nat) × Rule)} (e : H L.rd = some (.dT kvs)) (hn : Paired (RuleAt (upd H L.rd (.dT kvs'))) rs kvs') : PA K H0 (upd H L.rd (.dT kvs')) p L tas T { st with rules := rs } := by
  have z := h.nd
  simp only [List.nodup_cons, List.mem_cons, List.not_mem_nil, or_false, not_or] at z
  obtain ⟨⟨n_p_tl, n_p_fl, n_p_sl, n_p_ml, n_p_rl, n_p_rd, n_p_pd, n_p_sd⟩, ⟨n_tl_fl, n_tl_sl, n_tl_ml, n_tl_rl, n_tl_rd, n_tl_pd, n_tl_sd⟩, ⟨n_fl_sl, n_fl_ml, n_fl_rl, n_fl_rd, n_fl_pd, n_fl_sd⟩, ⟨n_sl_ml, n_sl_rl, n_sl_rd, n_sl_pd, n_sl_sd⟩, ⟨n_ml_rl, n_ml_rd, n_ml_pd, n_ml_sd⟩, ⟨n_rl_rd, n_rl_pd, n_rl_sd⟩, ⟨n_rd_pd, n_rd_sd⟩, n_pd_sd, _⟩ := z
  have ne_p : p ≠ L.rd := n_p_rd
  have ne_tl : L.tl ≠ L.rd := n_tl_rd
  have ne_fl : L.fl ≠ L.rd := n_fl_rd
  have ne_sl : L.sl ≠ L.rd := n_sl_rd
  have ne_ml : L.ml ≠ L.rd := n_ml_rd
  have ne_rl : L.rl ≠ L.rd := n_rl_rd
  have ne_pd : L.pd ≠ L.rd := Ne.symm n_rd_pd
  have ne_sd : L.sd ≠ L.rd := Ne.symm n_rd_sd
  have kt := keepT (o' := .dT kvs') e (fun xs q => by cases q)
  have kk := keepK (K := K) (o' := .dT kvs') e (fun C d fs q => by cases q)
  exact ⟨sameUpd h.same (h.new _ (by simp)), (let ⟨dx, q⟩ := h.ob; ⟨dx, (upd_ne ne_p).trans q⟩), (upd_ne ne_tl).trans h.tk, Paired.mapP h.tks fun a t q => kk a t q,
    (let ⟨fas, e1, e2⟩ := h.fa; ⟨fas, (upd_ne (ne_fl)).trans e1, e2.mono kt⟩),
    ((upd_ne (ne_sl)).trans h.si),
    ((upd_ne (ne_ml)).trans h.mo),
    (let ⟨ras, e1, e2⟩ := h.ro; ⟨ras, (upd_ne (ne_rl)).trans e1, Paired.mapP e2 fun _ _ q => kt _ _ q⟩),
    ⟨kvs', upd_same, hn⟩,
    ((upd_ne (ne_pd)).trans h.pr),
    ((upd_ne (ne_sd)).trans h.sp), h.nd, h.new⟩
theorem PA.set_pd (h : PA K H0 H p L tas T st) {kvs : List (List Key × V)} {ps : List (Cs × Cs)} (e : H L.pd = some (.dT kvs)) (hn : True) : PA K H0 (upd H L.pd (.dT (ps.map pairK))) p L tas T { st with pairs := ps } := by
  have z := h.nd
  simp only [List.nodup_cons, List.mem_cons, List.not_mem_nil, or_false, not_or] at z
  obtain ⟨⟨n_p_tl, n_p_fl, n_p_sl, n_p_ml, n_p_rl, n_p_rd, n_p_pd, n_p_sd⟩, ⟨n_tl_fl, n_tl_sl, n_tl_ml, n_tl_rl, n_tl_rd, n_tl_pd, n_tl_sd⟩, ⟨n_fl_sl, n_fl_ml, n_fl_rl, n_fl_rd, n_fl_pd, n_fl_sd⟩, ⟨n_sl_ml, n_sl_rl, n_sl_rd, n_sl_pd, n_sl_sd⟩, ⟨n_ml_rl, n_ml_rd, n_ml_pd, n_ml_sd⟩, ⟨n_rl_rd, n_rl_pd, n_rl_sd⟩, ⟨n_rd_pd, n_rd_sd⟩, n_pd_sd, _⟩ := z
  have ne_p : p ≠ L.pd := n_p_pd
  have ne_tl : L.tl ≠ L.pd := n_tl_pd
  have ne_fl : L.fl ≠ L.pd := n_fl_pd
  have ne_sl : L.sl ≠ L.pd := n_sl_pd
  have ne_ml : L.ml ≠ L.pd := n_ml_pd
  have ne_rl : L.rl ≠ L.pd := n_rl_pd
  have ne_rd : L.rd ≠ L.pd := n_rd_pd
  have ne_sd : L.sd ≠ L.pd := Ne.symm n_pd_sd
  have kt := keepT (o' := .dT (ps.map pairK)) e (fun xs q => by cases q)
  have kk := keepK (K := K) (o' := .dT (ps.map pairK)) e (fun C d fs q => by cases q)
  exact ⟨sameUpd h.same (h.new _ (by simp)), (let ⟨dx, q⟩ := h.ob; ⟨dx, (upd_ne ne_p).trans q⟩), (upd_ne ne_tl).trans h.tk, Paired.mapP h.tks fun a t q => kk a t q,
    (let ⟨fas, e1, e2⟩ := h.fa; ⟨fas, (upd_ne (ne_fl)).trans e1, e2.mono kt⟩),
    ((upd_ne (ne_sl)).trans h.si),
    ((upd_ne (ne_ml)).trans h.mo),
    (let ⟨ras, e1, e2⟩ := h.ro; ⟨ras, (upd_ne (ne_rl)).trans e1, Paired.mapP e2 fun _ _ q => kt _ _ q⟩),
    (let ⟨kvs, e1, e2⟩ := h.ru; ⟨kvs, (upd_ne (ne_rd)).trans e1, Paired.mapP e2 fun _ _ q => q.mono kt⟩),
    upd_same,
    ((upd_ne (ne_sd)).trans h.sp), h.nd, h.new⟩
theorem PA.set_sd (h : PA K H0 H p L tas T st) {kvs : List (Key × V)} {ps : List (Nat × Nat)} (e : H L.sd = some (.dK kvs)) (hn : True) : PA K H0 (upd H L.sd (.dK (ps.map spotK))) p L tas T { st with spots := ps } := by
  have z := h.nd
  simp only [List.nodup_cons, List.mem_cons, List.not_mem_nil, or_false, not_or] at z
  obtain ⟨⟨n_p_tl, n_p_fl, n_p_sl, n_p_ml, n_p_rl, n_p_rd, n_p_pd, n_p_sd⟩, ⟨n_tl_fl, n_tl_sl, n_tl_ml, n_tl_rl, n_tl_rd, n_tl_pd, n_tl_sd⟩, ⟨n_fl_sl, n_fl_ml, n_fl_rl, n_fl_rd, n_fl_pd, n_fl_sd⟩, ⟨n_sl_ml, n_sl_rl, n_sl_rd, n_sl_pd, n_sl_sd⟩, ⟨n_ml_rl, n_ml_rd, n_ml_pd, n_ml_sd⟩, ⟨n_rl_rd, n_rl_pd, n_rl_sd⟩, ⟨n_rd_pd, n_rd_sd⟩, n_pd_sd, _⟩ := z
  have ne_p : p ≠ L.sd := n_p_sd
  have ne_tl : L.tl ≠ L.sd := n_tl_sd
  have ne_fl : L.fl ≠ L.sd := n_fl_sd
  have ne_sl : L.sl ≠ L.sd := n_sl_sd
  have ne_ml : L.ml ≠ L.sd := n_ml_sd
  have ne_rl : L.rl ≠ L.sd := n_rl_sd
  have ne_rd : L.rd ≠ L.sd := n_rd_sd
  have ne_pd : L.pd ≠ L.sd := n_pd_sd
  have kt := keepT (o' := .dK (ps.map spotK)) e (fun xs q => by cases q)
  have kk := keepK (K := K) (o' := .dK (ps.map spotK)) e (fun C d fs q => by cases q)
  exact ⟨sameUpd h.same (h.new _ (by simp)), (let ⟨dx, q⟩ := h.ob; ⟨dx, (upd_ne ne_p).trans q⟩), (upd_ne ne_tl).trans h.tk, Paired.mapP h.tks fun a t q => kk a t q,
    (let ⟨fas, e1, e2⟩ := h.fa; ⟨fas, (upd_ne (ne_fl)).trans e1, e2.mono kt⟩),
    ((upd_ne (ne_sl)).trans h.si),
    ((upd_ne (ne_ml)).trans h.mo),
    (let ⟨ras, e1, e2⟩ := h.ro; ⟨ras, (upd_ne (ne_rl)).trans e1, Paired.mapP e2 fun _ _ q => kt _ _ q⟩),
    (let ⟨kvs, e1, e2⟩ := h.ru; ⟨kvs, (upd_ne (ne_rd)).trans e1, Paired.mapP e2 fun _ _ q => q.mono kt⟩),
    ((upd_ne (ne_pd)).trans h.pr),
    upd_same, h.nd, h.new⟩
end
end Sw

end

section
set_option maxRecDepth 100000
set_option maxHeartbeats 4000000
/-! the parser's small methods -/
namespace Sw
open PySem PySem.Spec PyProof.Rows L2 SwA
/-- a method of a class -/
structure MeT (K : PySem.W.Frag) (C m q : Str) (st : Stmt) : Prop where
  d : FD K (C, some m) m q st
  m : Meth K (He.ga K C) m (He.ma K (He.ga K C) m)
structure ParT (K : PySem.W.Frag) (mg : Str → Option Value) : Prop where
  l : LexT K mg
  par : MkC K mg "Parser" parN
  ne : He.ga K "Parser" ≠ He.ga K "Token"
  int : mg "int" = none
  tuple : mg "tuple" = none
  range : mg "range" = none
  init : FD K ("Parser", some "__init__") "__init__" "Parser.__init__" s_Parser_init
  peek : MeT K "Parser" "peek" "Parser.peek" s_Parser_peek
  fail : MeT K "Parser" "fail" "Parser.fail" s_Parser_fail
  found : MeT K "Parser" "found" "Parser.found" s_Parser_found
  take : MeT K "Parser" "take" "Parser.take" s_Parser_take
  take_word : MeT K "Parser" "take_word" "Parser.take_word" s_Parser_take_word
  take_keyword : MeT K "Parser" "take_keyword" "Parser.take_keyword" s_Parser_take_keyword
  parse_names : MeT K "Parser" "parse_names" "Parser.parse_names" s_Parser_parse_names
  number_of : MeT K "Parser" "number_of" "Parser.number_of" s_Parser_number_of
  tile_of : MeT K "Parser" "tile_of" "Parser.tile_of" s_Parser_tile_of
  parse_robot : MeT K "Parser" "parse_robot" "Parser.parse_robot" s_Parser_parse_robot
  parse_put : MeT K "Parser" "parse_put" "Parser.parse_put" s_Parser_parse_put
  parse_rule : MeT K "Parser" "parse_rule" "Parser.parse_rule" s_Parser_parse_rule
  parse_plan : MeT K "Parser" "parse_plan" "Parser.parse_plan" s_Parser_parse_plan
  MAX_TILES : ∃ t, mg "MAX_TILES" = some (.int 16 t)
  MAX_SIGNS : ∃ t, mg "MAX_SIGNS" = some (.int 4 t)
  MAX_MOODS : ∃ t, mg "MAX_MOODS" = some (.int 6 t)
  MAX_ROBOTS : ∃ t, mg "MAX_ROBOTS" = some (.int 3 t)
  WAYS : mg nWays = some (.ref (He.ga K nWays))
  ways : ∀ H : Hp, SqT K H (He.ga K nWays) (ways.map fun w => V.str (sx w))
  MOVES : mg "MOVES" = some (.ref (He.ga K "MOVES"))
  moves : ∀ H : Hp, SqT K H (He.ga K "MOVES") (moves.map fun w => V.str (sx w))
/-- a token of the list -/
def TI (tas : List Addr) (T : List Tk) (a : Addr) (t : Tk) : Prop := ∃ i : Nat, tas[i]? = some a ∧ T[i]? = some t
theorem Paired_get {α β : Type} {F : α → β → Prop} : ∀ {l : List α} {m : List β} {i : Nat} {a : α} {b : β}, Paired F l m → l[i]? = some a → m[i]? = some b → F a b
  | _, _, i, _, _, .nil, h, _ => by simp at h
  | _, _, 0, _, _, .cons x r, h, h2 => by simp at h h2; subst h; subst h2; exact x
  | _, _, i + 1, _, _, .cons x r, h, h2 => Paired_get r (by simpa using h) (by simpa using h2)
section
variable {K : PySem.W.Frag} {H0 H H' : Hp} {p : Addr} {L : PLoc} {tas : List Addr} {T : List Tk} {st : PSt}
theorem PA.get (h : PA K H0 H p L tas T st) {a : Addr} {t : Tk} (q : TI tas T a t) : TokAt K H a t := let ⟨_, e1, e2⟩ := q; Paired_get h.tks e1 e2
theorem PA.here (h : PA K H0 H p L tas T st) (hi : st.at_ < T.length) : ∃ a, tas[st.at_]? = some a ∧ TI tas T a (peek T st) := by
  have hl := h.tks.length
  have h2 : st.at_ < tas.length := by omega
  refine ⟨tas[st.at_], List.getElem?_eq_getElem h2, st.at_, List.getElem?_eq_getElem h2, ?_⟩
  unfold peek
  rw [List.getD_eq_getElem?_getD, List.getElem?_eq_getElem hi]
  rfl
end
theorem lp_tokens {L : PLoc} {n : Nat} : (parF L n).lookup ("tokens" : Str) = some (V.ref L.tl) := by kernel_rfl
theorem lp_at {L : PLoc} {n : Nat} : (parF L n).lookup ("at" : Str) = some (V.int n) := by kernel_rfl
theorem lp_faults {L : PLoc} {n : Nat} : (parF L n).lookup ("faults" : Str) = some (V.ref L.fl) := by kernel_rfl
theorem lp_signs {L : PLoc} {n : Nat} : (parF L n).lookup ("signs" : Str) = some (V.ref L.sl) := by kernel_rfl
theorem lp_moods {L : PLoc} {n : Nat} : (parF L n).lookup ("moods" : Str) = some (V.ref L.ml) := by kernel_rfl
theorem lp_robots {L : PLoc} {n : Nat} : (parF L n).lookup ("robots" : Str) = some (V.ref L.rl) := by kernel_rfl
theorem lp_rules {L : PLoc} {n : Nat} : (parF L n).lookup ("rules" : Str) = some (V.ref L.rd) := by kernel_rfl
theorem lp_pairs {L : PLoc} {n : Nat} : (parF L n).lookup ("pairs" : Str) = some (V.ref L.pd) := by kernel_rfl
theorem lp_spots {L : PLoc} {n : Nat} : (parF L n).lookup ("spots" : Str) = some (V.ref L.sd) := by kernel_rfl
theorem lp_no_peek {L : PLoc} {n : Nat} : (parF L n).lookup ("peek" : Str) = none := by kernel_rfl
theorem lp_no_fail {L : PLoc} {n : Nat} : (parF L n).lookup ("fail" : Str) = none := by kernel_rfl
theorem lp_no_found {L : PLoc} {n : Nat} : (parF L n).lookup ("found" : Str) = none := by kernel_rfl
theorem lp_no_take {L : PLoc} {n : Nat} : (parF L n).lookup ("take" : Str) = none := by kernel_rfl
theorem lp_no_take_word {L : PLoc} {n : Nat} : (parF L n).lookup ("take_word" : Str) = none := by kernel_rfl
theorem lp_no_take_keyword {L : PLoc} {n : Nat} : (parF L n).lookup ("take_keyword" : Str) = none := by kernel_rfl
theorem put_at {L : PLoc} {n : Nat} {v : Int} (m : Nat) (e : v = m) : putF "at" (.int v) (parF L n) = parF L m := by subst e; kernel_rfl
section
variable {P : Program} {w : World} {K : PySem.W.Frag} {mg : Str → Option Value} {base : Heap}
/-! ### peek, fail -/
def spPeek (K : PySem.W.Frag) : Sp := fun vs H Q _ => ∃ (H0 : Hp) (p : Addr) (L : PLoc) (tas : List Addr) (T : List Tk) (st : PSt), vs = [.ref p] ∧ PA K H0 H p L tas T st ∧ st.at_ < T.length ∧
  ∀ a, TI tas T a (peek T st) → Q (.ref a) H
theorem sc_peek : FnScope ["self"] ["self"] (defScope s_Parser_peek) := ⟨rfl, rfl, rfl, by decide +kernel, rfl, by decide +kernel, by decide +kernel⟩
theorem ok_peek (T : ParT K mg) : FnE P w K mg base CX0 1 ("Parser", some "peek") ["self"] (spPeek K) := by
  obtain ⟨fd, F⟩ := T.peek.d
  refine ⟨fd, F.ok sc_peek (fun vs H Q E h => ?_) (fun cdv A outer s H vs Q E hr h => ?_), F.bindsN fun _ _ _ _ _ _ us hl => match us, hl with | [_], _ => rfl, F.kp⟩
  · obtain ⟨H0, p, L, tas, Ts, st, rfl, _⟩ := h
    rfl
  · obtain ⟨H0, p, L, tas, Ts, st, rfl, hP, hi, k⟩ := h
    refine ⟨_, PSs.nox (pss_one (ps_ret (pe_ix ix_list (pe_fld (pv 0) rfl) (pe_fld (pv 0) rfl) (fun _ _ => rfl)))), ?_⟩
    obtain ⟨dx, ob⟩ := hP.ob
    obtain ⟨a, ha, hta⟩ := hP.here hi
    exact ⟨_, rfl, p, _, dx, _, _, rfl, ob, T.par.c, T.par.n _ (by simp), lp_tokens, _, rfl, p, _, dx, _, _, rfl, ob, T.par.c, T.par.n _ (by simp), lp_at, L.tl, _, _, _, rfl, rfl, SqL.of hP.tk, atI_nat (by rw [List.getElem?_map, ha]; rfl), k a hta⟩
def spFail (K : PySem.W.Frag) : Sp := fun vs H _ E => ∃ (H0 : Hp) (p : Addr) (L : PLoc) (tas : List Addr) (T : List Tk) (st : PSt), vs = [.ref p] ∧ PA K H0 H p L tas T st ∧ st.at_ < T.length ∧
  Syn K H0 E (failAt T st).1 (failAt T st).2
theorem sc_fail : FnScope ["self", "token"] ["self"] (defScope s_Parser_fail) := ⟨rfl, rfl, rfl, by decide +kernel, rfl, by decide +kernel, by decide +kernel⟩
theorem ok_fail (T : ParT K mg) : FnE P w K mg base (L2.CX P w) 3 ("Parser", some "fail") ["self"] (spFail K) := by
  obtain ⟨fd, F⟩ := T.fail.d
  obtain ⟨fdP, GP, bP, kP⟩ := ok_peek (P := P) (w := w) (base := base) T
  obtain ⟨fdS, GS, bS, kS⟩ := ok_syn (P := P) (w := w) (base := base) T.l.e
  refine ⟨fd, F.ok sc_fail (fun vs H Q E h => ?_) (fun cdv A outer s H vs Q E hr h => ?_), F.bindsN fun _ _ _ _ _ _ us hl => match us, hl with | [_], _ => rfl, F.kp⟩
  · obtain ⟨H0, p, L, tas, Ts, st, rfl, _⟩ := h
    rfl
  · obtain ⟨H0, p, L, tas, Ts, st, rfl, hP, hi, k⟩ := h
    have hr1 : Room 1 _ := hr.mono (by decide)
    refine ⟨_, (pss_cons (ps_set (i := 1) sc_fail.nd rfl (.inl rfl) (pe_meth0 (pv 0) T.par.c T.peek.m GP hr1 bP .nil pass0))
      (pss_one (ps_raise rfl (takes_of rfl rfl rfl rfl) (pmk_oex T.l.e.syn.o T.l.e.syn.i T.l.e.syn.t GS hr bS .nil pass0 rfl T.l.e.syn.g (pa_cons (pe_fld (pv 1) rfl) (pa_cons (pe_fld (pv 1) rfl) pa_nil)))))), ?_⟩
    obtain ⟨dx, ob⟩ := hP.ob
    refine ⟨_, rfl, p, dx, _, rfl, ob, lp_no_peek, H0, p, L, tas, Ts, st, rfl, hP, hi, fun a hta => ?_⟩
    obtain ⟨dt, ht⟩ := hP.get hta
    refine ⟨_, rfl, a, _, dt, _, _, rfl, ht, T.l.tok.c, T.l.tok.n _ (by simp), lk_line, _, rfl, a, _, dt, _, _, rfl, ht, T.l.tok.c, T.l.tok.n _ (by simp), lk_col, fault_at rfl (by simp) fun d H2 _ sm hx => ?_⟩
    exact k d H2 (hP.same.trans sm) hx
end
end Sw

end

section
set_option maxRecDepth 100000
set_option maxHeartbeats 4000000
/-! the parser's small methods, further -/
namespace Sw
open PySem PySem.Spec PyProof.Rows L2 SwA
/-- what a method's end asks: a value and the parser's next state, or a SyntaxFault -/
structure Res {α : Type} (K : PySem.W.Frag) (H0 : Hp) (p : Addr) (L : PLoc) (tas : List Addr) (T : List Tk) (r : PR α) (Q : VK) (E : XK) (ret : α → V → Prop) : Prop where
  ok : ∀ x s1, r = .ok (x, s1) → ∀ (v : V) (H' : Hp), ret x v → PA K H0 H' p L tas T s1 → Q v H'
  er : ∀ l c, r = .error (l, c) → Syn K H0 E l c
def retT (tas : List Addr) (T : List Tk) (t : Tk) (v : V) : Prop := ∃ a, v = .ref a ∧ TI tas T a t
def retU (_ : Unit) (v : V) : Prop := v = .non
def retN (n : Nat) (v : V) : Prop := v = .int n
theorem kd_inj : ∀ {a b : Kd}, a.str = b.str → a = b := by
  intro a b
  cases a <;> cases b <;> first | exact fun _ => rfl | exact fun h => absurd h (by decide +kernel)
section
variable {P : Program} {w : World} {K : PySem.W.Frag} {mg : Str → Option Value} {base : Heap}
/-! ### found -/
def spFound (K : PySem.W.Frag) : Sp := fun vs H Q _ => ∃ (H0 : Hp) (p : Addr) (L : PLoc) (tas : List Addr) (T : List Tk) (st : PSt) (reason : Cs) (a : Addr) (t : Tk), vs = [.ref p, sV reason, .ref a] ∧ PA K H0 H p L tas T st ∧
  TI tas T a t ∧ st.faults.length ≤ 1000000 ∧ ∀ H', PA K H0 H' p L tas T (st.found reason t) → Q .non H'
theorem sc_found : FnScope ["self", "reason", "token"] ["self", "reason", "token"] (defScope s_Parser_found) := ⟨rfl, rfl, rfl, by decide +kernel, rfl, by decide +kernel, by decide +kernel⟩
theorem ok_found (T : ParT K mg) : FnE P w K mg base CX0 1 ("Parser", some "found") ["self", "reason", "token"] (spFound K) := by
  obtain ⟨fd, F⟩ := T.found.d
  refine ⟨fd, F.ok sc_found (fun vs H Q E h => ?_) (fun cdv A outer s H vs Q E hr h => ?_), F.bindsN fun _ _ _ _ _ _ us hl => match us, hl with | [_, _, _], _ => rfl, F.kp⟩
  · obtain ⟨H0, p, L, tas, Ts, st, reason, a, t, rfl, _⟩ := h
    rfl
  · obtain ⟨H0, p, L, tas, Ts, st, reason, a, t, rfl, hP, hta, hz, k⟩ := h
    refine ⟨_, PSs.nox (pss_one (ps_expr (pe_bm PySem.F.plainAttrs_list PySem.F.slot_list_append PySem.F.type_list_append mt_append (pe_fld (pv 0) rfl)
      (pa_cons (pe_tup (pa_cons (pe_fld (pv 2) rfl) (pa_cons (pe_fld (pv 2) rfl) (pa_cons (pe_callB call_len_seq (by rfl) T.l.len boot_len (pa_cons (pe_fld (pv 0) rfl) pa_nil)) (pa_cons (pv 1) pa_nil))))) pa_nil)))), ?_⟩
    obtain ⟨dx, ob⟩ := hP.ob
    obtain ⟨dt, ht⟩ := hP.get hta
    obtain ⟨fas, hf, hfs⟩ := hP.fa
    refine ⟨_, rfl, p, _, dx, _, _, rfl, ob, T.par.c, T.par.n _ (by simp), lp_faults, .inl ⟨rfl, _, SqL.of hf⟩, ?_⟩
    refine ⟨_, rfl, a, _, dt, _, _, rfl, ht, T.l.tok.c, T.l.tok.n _ (by simp), lk_line, _, rfl, a, _, dt, _, _, rfl, ht, T.l.tok.c, T.l.tok.n _ (by simp), lk_col, _, rfl, p, _, dx, _, _, rfl, ob, T.par.c, T.par.n _ (by simp), lp_faults, L.fl, _, rfl, .inl (SqL.of hf), _, rfl,
      (by show 4 ≤ sizeLine; decide), fun tu ntu => ?_⟩
    have nf : L.fl ≠ tu := ne_of_none hf ntu
    have hlen : (fas.map V.ref).length < sizeLine := by
      rw [List.length_map, hfs.len, sizeLine_eq]
      omega
    refine ⟨L.fl, fas.map V.ref, .ref tu, rfl, rfl, by rw [upd_ne nf]; exact hf, hlen, ?_⟩
    have s1 : Same H (upd H tu (.tup [.int t.line, .int t.col, .int ((fas.map V.ref).length : Nat), sV reason])) := sameUpd (Same.refl H) ntu
    have hP1 := hP.mono s1
    obtain ⟨fas1, hf1, hfs1⟩ := hP1.fa
    have e1 : (fas.map V.ref ++ [V.ref tu]) = (fas ++ [tu]).map V.ref := by rw [List.map_append]; rfl
    rw [e1]
    refine k _ (hP1.set_fl (s1 _ _ hf) ?_)
    have z : fas.length = st.faults.length := hfs.len
    refine FaultsAt.snoc (hfs.mono fun b xs q => ?_) ?_
    · have q1 := s1 _ _ q
      rw [upd_ne (ne_of q1 (s1 _ _ hf) (by intro z; cases z))]
      exact q1
    · rw [upd_ne (Ne.symm nf), upd_same, List.length_map, z, Nat.zero_add]
/-! ### take, take_word, take_keyword -/
def spTake (K : PySem.W.Frag) : Sp := fun vs H Q E => ∃ (H0 : Hp) (p : Addr) (L : PLoc) (tas : List Addr) (T : List Tk) (st : PSt) (kd : Kd), vs = [.ref p, .str kd.str] ∧ PA K H0 H p L tas T st ∧ st.at_ < T.length ∧
  Res K H0 p L tas T (take T kd st) Q E (retT tas T)
def spTakeWord (K : PySem.W.Frag) : Sp := fun vs H Q E => ∃ (H0 : Hp) (p : Addr) (L : PLoc) (tas : List Addr) (T : List Tk) (st : PSt) (wd : Cs), vs = [.ref p, sV wd] ∧ PA K H0 H p L tas T st ∧ st.at_ < T.length ∧
  Res K H0 p L tas T (takeWord T wd st) Q E (retT tas T)
def spTakeKw (K : PySem.W.Frag) : Sp := fun vs H Q E => ∃ (H0 : Hp) (p : Addr) (L : PLoc) (tas : List Addr) (T : List Tk) (st : PSt) (b : Addr) (ws : List Cs), vs = [.ref p, .ref b] ∧ PA K H0 H p L tas T st ∧ st.at_ < T.length ∧
  SqT K H b (ws.map fun w => V.str (sx w)) ∧ Res K H0 p L tas T (takeKw T ws st) Q E (retT tas T)
theorem sc_take : FnScope ["self", "kind", "token"] ["self", "kind"] (defScope s_Parser_take) := ⟨rfl, rfl, rfl, by decide +kernel, rfl, by decide +kernel, by decide +kernel⟩
theorem sc_take_word : FnScope ["self", "word", "token"] ["self", "word"] (defScope s_Parser_take_word) := ⟨rfl, rfl, rfl, by decide +kernel, rfl, by decide +kernel, by decide +kernel⟩
theorem sc_take_keyword : FnScope ["self", "words", "token"] ["self", "words"] (defScope s_Parser_take_keyword) := ⟨rfl, rfl, rfl, by decide +kernel, rfl, by decide +kernel, by decide +kernel⟩
theorem ok_take (T : ParT K mg) : FnE P w K mg base (L2.CX P w) 4 ("Parser", some "take") ["self", "kind"] (spTake K) := by
  obtain ⟨fd, F⟩ := T.take.d
  obtain ⟨fdP, GP, bP, kP⟩ := ok_peek (P := P) (w := w) (base := base) T
  obtain ⟨fdS, GS, bS, kS⟩ := ok_fail (P := P) (w := w) (base := base) T
  refine ⟨fd, F.ok sc_take (fun vs H Q E h => ?_) (fun cdv A outer s H vs Q E hr h => ?_), F.bindsN fun _ _ _ _ _ _ us hl => match us, hl with | [_, _], _ => rfl, F.kp⟩
  · obtain ⟨H0, p, L, tas, Ts, st, kd, rfl, _⟩ := h
    rfl
  · obtain ⟨H0, p, L, tas, Ts, st, kd, rfl, hP, hi, R⟩ := h
    have hr1 : Room 1 _ := hr.mono (by decide)
    refine ⟨_, (pss_cons (ps_set (i := 2) sc_take.nd rfl (.inl rfl) (pe_meth0 (pv 0) T.par.c T.peek.m GP hr1 bP .nil pass0))
      (pss_cons (ps_if (pt_cmpR op_ne (pe_fld (pv 2) rfl) (pv 1) (nomark _)) (pss_one (ps_expr (pe_meth0 (pv 0) T.par.c T.fail.m GS hr bS .nil (passes_call (takes_of rfl rfl rfl rfl) (fun _ _ _ _ h => h))))) pss_nil)
      (pss_cons (ps_fldaug (pv 0) pe_int in_add) (pss_one (ps_ret (pv 2)))))), ?_⟩
    obtain ⟨dx, ob⟩ := hP.ob
    refine ⟨_, rfl, p, dx, _, rfl, ob, lp_no_peek, H0, p, L, tas, Ts, st, rfl, hP, hi, fun a hta => ?_⟩
    obtain ⟨dt, ht⟩ := hP.get hta
    refine ⟨_, rfl, a, _, dt, _, _, rfl, ht, T.l.tok.c, T.l.tok.n _ (by simp), lk_kind, _, rfl, rfl, _, rfl, ?_⟩
    refine ite2 (fun h => ?_) (fun h => ?_)
    · have h : (peek Ts st).kind ≠ kd := fun q => by
        rw [decide_eq_true (by rw [q])] at h
        exact absurd h (by decide)
      refine ⟨_, rfl, p, dx, _, rfl, ob, lp_no_fail, H0, p, L, tas, Ts, st, rfl, hP, hi, R.er _ _ ?_⟩
      unfold take
      rw [if_neg h]
    · have h : (peek Ts st).kind = kd := Decidable.byContradiction fun q => h (by
        rw [decide_eq_false fun z => q (kd_inj (V.str.inj z))]
        rfl)
      refine ⟨_, rfl, p, _, dx, _, _, rfl, ob, T.par.c, T.par.n _ (by simp), lp_at, _, _, rfl, rfl, dx, _, ob, (by show 9 < 1000; decide), ?_⟩
      rw [put_at (st.at_ + 1) (by simp)]
      refine ⟨_, rfl, R.ok _ _ (by unfold take; rw [if_pos h]; rfl) _ _ ⟨a, rfl, hta⟩ (hP.setAt T.ne ob)⟩
theorem ok_take_word (T : ParT K mg) : FnE P w K mg base (L2.CX P w) 4 ("Parser", some "take_word") ["self", "word"] (spTakeWord K) := by
  obtain ⟨fd, F⟩ := T.take_word.d
  obtain ⟨fdP, GP, bP, kP⟩ := ok_peek (P := P) (w := w) (base := base) T
  obtain ⟨fdS, GS, bS, kS⟩ := ok_fail (P := P) (w := w) (base := base) T
  refine ⟨fd, F.ok sc_take_word (fun vs H Q E h => ?_) (fun cdv A outer s H vs Q E hr h => ?_), F.bindsN fun _ _ _ _ _ _ us hl => match us, hl with | [_, _], _ => rfl, F.kp⟩
  · obtain ⟨H0, p, L, tas, Ts, st, kd, rfl, _⟩ := h
    rfl
  · obtain ⟨H0, p, L, tas, Ts, st, wd, rfl, hP, hi, R⟩ := h
    have hr1 : Room 1 _ := hr.mono (by decide)
    refine ⟨_, (pss_cons (ps_set (i := 2) sc_take_word.nd rfl (.inl rfl) (pe_meth0 (pv 0) T.par.c T.peek.m GP hr1 bP .nil pass0))
      (pss_cons (ps_if (pt_cmpR op_ne (pe_fld (pv 2) rfl) (pv 1) (nomark _)) (pss_one (ps_expr (pe_meth0 (pv 0) T.par.c T.fail.m GS hr bS .nil (passes_call (takes_of rfl rfl rfl rfl) (fun _ _ _ _ h => h))))) pss_nil)
      (pss_cons (ps_fldaug (pv 0) pe_int in_add) (pss_one (ps_ret (pv 2)))))), ?_⟩
    obtain ⟨dx, ob⟩ := hP.ob
    refine ⟨_, rfl, p, dx, _, rfl, ob, lp_no_peek, H0, p, L, tas, Ts, st, rfl, hP, hi, fun a hta => ?_⟩
    obtain ⟨dt, ht⟩ := hP.get hta
    refine ⟨_, rfl, a, _, dt, _, _, rfl, ht, T.l.tok.c, T.l.tok.n _ (by simp), lk_text, _, rfl, rfl, _, rfl, ?_⟩
    refine ite2 (fun h => ?_) (fun h => ?_)
    · have h : (peek Ts st).text ≠ wd := fun q => by
        rw [decide_eq_true (by rw [q])] at h
        exact absurd h (by decide)
      refine ⟨_, rfl, p, dx, _, rfl, ob, lp_no_fail, H0, p, L, tas, Ts, st, rfl, hP, hi, R.er _ _ ?_⟩
      unfold takeWord
      rw [if_neg h]
    · have h : (peek Ts st).text = wd := Decidable.byContradiction fun q => h (by
        rw [decide_eq_false fun z => q (sx_inj (V.str.inj z))]
        rfl)
      refine ⟨_, rfl, p, _, dx, _, _, rfl, ob, T.par.c, T.par.n _ (by simp), lp_at, _, _, rfl, rfl, dx, _, ob, (by show 9 < 1000; decide), ?_⟩
      rw [put_at (st.at_ + 1) (by simp)]
      refine ⟨_, rfl, R.ok _ _ (by unfold takeWord; rw [if_pos h]; rfl) _ _ ⟨a, rfl, hta⟩ (hP.setAt T.ne ob)⟩
theorem ok_take_keyword (T : ParT K mg) : FnE P w K mg base (L2.CX P w) 4 ("Parser", some "take_keyword") ["self", "words"] (spTakeKw K) := by
  obtain ⟨fd, F⟩ := T.take_keyword.d
  obtain ⟨fdP, GP, bP, kP⟩ := ok_peek (P := P) (w := w) (base := base) T
  obtain ⟨fdS, GS, bS, kS⟩ := ok_fail (P := P) (w := w) (base := base) T
  obtain ⟨t1, mKW⟩ := T.l.KEYWORD
  refine ⟨fd, F.ok sc_take_keyword (fun vs H Q E h => ?_) (fun cdv A outer s H vs Q E hr h => ?_), F.bindsN fun _ _ _ _ _ _ us hl => match us, hl with | [_, _], _ => rfl, F.kp⟩
  · obtain ⟨H0, p, L, tas, Ts, st, b, ws, rfl, _⟩ := h
    rfl
  · obtain ⟨H0, p, L, tas, Ts, st, b, ws, rfl, hP, hi, hb, R⟩ := h
    have hr1 : Room 1 _ := hr.mono (by decide)
    refine ⟨_, (pss_cons (ps_set (i := 2) sc_take_keyword.nd rfl (.inl rfl) (pe_meth0 (pv 0) T.par.c T.peek.m GP hr1 bP .nil pass0))
      (pss_cons (ps_if (PW.pt (pw_or (pt_cmpR op_ne (pe_fld (pv 2) rfl) (pe_glob (v := .str "keyword") rfl mKW ⟨_, rfl⟩) (nomark _)) (pw_or1 (pt_cmpR op_notIn_seq (pe_fld (pv 2) rfl) (pv 1) rfl))))
        (pss_one (ps_expr (pe_meth0 (pv 0) T.par.c T.fail.m GS hr bS .nil (passes_call (takes_of rfl rfl rfl rfl) (fun _ _ _ _ h => h))))) pss_nil)
      (pss_cons (ps_fldaug (pv 0) pe_int in_add) (pss_one (ps_ret (pv 2)))))), ?_⟩
    obtain ⟨dx, ob⟩ := hP.ob
    refine ⟨_, rfl, p, dx, _, rfl, ob, lp_no_peek, H0, p, L, tas, Ts, st, rfl, hP, hi, fun a hta => ?_⟩
    obtain ⟨dt, ht⟩ := hP.get hta
    have bad : ¬ ((peek Ts st).kind = .keyword ∧ (peek Ts st).text ∈ ws) → Syn K H0 E (failAt Ts st).1 (failAt Ts st).2 := fun q => R.er _ _ (by
      unfold takeKw
      rw [if_neg q])
    refine ⟨_, rfl, a, _, dt, _, _, rfl, ht, T.l.tok.c, T.l.tok.n _ (by simp), lk_kind, rfl, _, rfl, ?_⟩
    refine ite2 (fun h => ?_) (fun h => ?_)
    · have h : (peek Ts st).kind ≠ .keyword := fun q => by
        rw [decide_eq_true (by rw [q]; rfl)] at h
        exact absurd h (by decide)
      exact iteT ⟨_, rfl, p, dx, _, rfl, ob, lp_no_fail, H0, p, L, tas, Ts, st, rfl, hP, hi, bad fun q => h q.1⟩
    · have h : (peek Ts st).kind = .keyword := Decidable.byContradiction fun q => h (by
        show (!decide (V.str (peek Ts st).kind.str = V.str Kd.keyword.str)) = true
        rw [decide_eq_false fun z => q (kd_inj (b := .keyword) (V.str.inj z))]
        rfl)
      refine ⟨_, rfl, a, _, dt, _, _, rfl, ht, T.l.tok.c, T.l.tok.n _ (by simp), lk_text, _, rfl, b, _, rfl, .inr hb, rfl, flat_sx ws, _, rfl, ?_⟩
      rw [inV_sx]
      refine ite2 (fun h2 => ?_) (fun h2 => ?_)
      · have h2 : (peek Ts st).text ∉ ws := fun q => by
          rw [decide_eq_true q] at h2
          exact absurd h2 (by decide)
        exact ⟨_, rfl, p, dx, _, rfl, ob, lp_no_fail, H0, p, L, tas, Ts, st, rfl, hP, hi, bad fun q => h2 q.2⟩
      · have h2 : (peek Ts st).text ∈ ws := Decidable.byContradiction fun q => h2 (by
          rw [decide_eq_false q]
          rfl)
        refine ⟨_, rfl, p, _, dx, _, _, rfl, ob, T.par.c, T.par.n _ (by simp), lp_at, _, _, rfl, rfl, dx, _, ob, (by show 9 < 1000; decide), ?_⟩
        rw [put_at (st.at_ + 1) (by simp)]
        refine ⟨_, rfl, R.ok _ _ (by unfold takeKw; rw [if_pos ⟨h, h2⟩]; rfl) _ _ ⟨a, rfl, hta⟩ (hP.setAt T.ne ob)⟩
end
end Sw

end

section
set_option maxRecDepth 100000
set_option maxHeartbeats 4000000
/-! bounds along the mirror of the parser -/
namespace Sw
open PySem
structure GoodT (T : List Tk) : Prop where
  last : ∀ (i : Nat) t, T[i]? = some t → i + 1 = T.length → t.kind = .fin ∧ t.text = []
  ne : T ≠ []
  fin : ∀ (i : Nat) t, T[i]? = some t → t.kind = .fin → i + 1 = T.length
  num : ∀ t ∈ T, t.kind = .number → (1 ≤ t.text.length ∧ t.text.length ≤ 2) ∧ t.text.all isD = true
  len : T.length ≤ 100000
structure Bd (T : List Tk) (st : PSt) : Prop where
  at_ : st.at_ < T.length
  fa : st.faults.length ≤ 2 * st.at_
  si : st.signs.length ≤ 4
  mo : st.moods.length ≤ 6
  ro : st.robots.length ≤ st.at_
  ru : st.rules.length ≤ st.at_
  pr : st.pairs.length ≤ st.at_
  sp : st.spots.length ≤ st.at_
section
variable {T : List Tk} {st s1 : PSt}
theorem peek_get (h : st.at_ < T.length) : T[st.at_]? = some (peek T st) := by
  unfold peek
  rw [List.getD_eq_getElem?_getD, List.getElem?_eq_getElem h]
  rfl
theorem GoodT.more (G : GoodT T) (h : st.at_ < T.length) (hk : (peek T st).kind ≠ .fin) : st.at_ + 1 < T.length := by
  refine Nat.lt_of_le_of_ne h fun e => hk ?_
  exact (G.last _ _ (peek_get h) e).1
theorem take_ok {k : Kd} {t : Tk} (h : take T k st = .ok (t, s1)) : s1 = st.next ∧ t = peek T st ∧ t.kind = k := by
  unfold take at h
  split at h
  · rename_i q
    cases h
    exact ⟨rfl, rfl, q⟩
  · cases h
theorem takeWord_ok {wd : Cs} {t : Tk} (h : takeWord T wd st = .ok (t, s1)) : s1 = st.next ∧ t = peek T st ∧ t.text = wd := by
  unfold takeWord at h
  split at h
  · rename_i q
    cases h
    exact ⟨rfl, rfl, q⟩
  · cases h
theorem takeKw_ok {ws : List Cs} {t : Tk} (h : takeKw T ws st = .ok (t, s1)) : s1 = st.next ∧ t = peek T st ∧ t.kind = .keyword ∧ t.text ∈ ws := by
  unfold takeKw at h
  split at h
  · rename_i q
    cases h
    exact ⟨rfl, rfl, q.1, q.2⟩
  · cases h
theorem Bd.next (B : Bd T st) (h : st.at_ + 1 < T.length) : Bd T st.next := ⟨h, by have := B.fa; show st.faults.length ≤ 2 * (st.at_ + 1); omega, B.si, B.mo, by have := B.ro; show st.robots.length ≤ st.at_ + 1; omega, by have := B.ru; show st.rules.length ≤ st.at_ + 1; omega,
  by have := B.pr; show st.pairs.length ≤ st.at_ + 1; omega, by have := B.sp; show st.spots.length ≤ st.at_ + 1; omega⟩
/-- with room for one more fault -/
theorem Bd.next1 (B : Bd T st) (h : st.at_ + 1 < T.length) : Bd T st.next ∧ st.next.faults.length + 2 ≤ 2 * st.next.at_ := ⟨B.next h, by have := B.fa; show st.faults.length + 2 ≤ 2 * (st.at_ + 1); omega⟩
theorem Bd.found (B : Bd T st) {r : Cs} {t : Tk} (h : st.faults.length + 1 ≤ 2 * st.at_) : Bd T (st.found r t) := ⟨B.at_, by show (st.faults ++ [_]).length ≤ 2 * st.at_; simp; omega, B.si, B.mo, B.ro, B.ru, B.pr, B.sp⟩
theorem bd_take (G : GoodT T) (B : Bd T st) {k : Kd} {t : Tk} (h : take T k st = .ok (t, s1)) (hk : k ≠ .fin) : Bd T s1 ∧ s1.faults.length + 2 ≤ 2 * s1.at_ ∧ s1 = st.next ∧ t ∈ T := by
  obtain ⟨rfl, rfl, e⟩ := take_ok h
  have z := B.next1 (G.more B.at_ (by rw [e]; exact hk))
  exact ⟨z.1, z.2, rfl, List.mem_of_getElem? (peek_get B.at_)⟩
theorem bd_word (G : GoodT T) (B : Bd T st) {wd : Cs} {t : Tk} (h : takeWord T wd st = .ok (t, s1)) (hk : wd ≠ []) : Bd T s1 ∧ s1.faults.length + 2 ≤ 2 * s1.at_ ∧ s1 = st.next := by
  obtain ⟨rfl, rfl, e⟩ := takeWord_ok h
  have z := B.next1 (G.more B.at_ fun q => hk (by
    rw [← e]
    exact (G.last _ _ (peek_get B.at_) (G.fin _ _ (peek_get B.at_) q)).2))
  exact ⟨z.1, z.2, rfl⟩
theorem bd_kw (G : GoodT T) (B : Bd T st) {ws : List Cs} {t : Tk} (h : takeKw T ws st = .ok (t, s1)) : Bd T s1 ∧ s1.faults.length + 2 ≤ 2 * s1.at_ ∧ s1 = st.next := by
  obtain ⟨rfl, rfl, e, _⟩ := takeKw_ok h
  have z := B.next1 (G.more B.at_ (by rw [e]; decide))
  exact ⟨z.1, z.2, rfl⟩
theorem bd_number (B : Bd T st) {names : List Cs} {t : Tk} (h : st.faults.length + 1 ≤ 2 * st.at_) : Bd T (numberOf names t st).2 ∧ (numberOf names t st).2.at_ = st.at_ ∧ (numberOf names t st).2.faults.length ≤ st.faults.length + 1 := by
  unfold numberOf
  split
  · exact ⟨B, rfl, Nat.le_succ _⟩
  · exact ⟨B.found h, rfl, by show (st.faults ++ [_]).length ≤ _; simp⟩
theorem bd_tile (G : GoodT T) (B : Bd T st) {tiles n : Nat} (h : tileOf T tiles st = .ok (n, s1)) : Bd T s1 ∧ s1.faults.length + 1 ≤ 2 * s1.at_ ∧ s1.at_ = st.at_ + 1 ∧ s1.robots = st.robots ∧ s1.spots = st.spots := by
  unfold tileOf at h
  split at h
  · cases h
  · rename_i t s2 ht
    obtain ⟨B2, f2, rfl, hm⟩ := bd_take G B ht (by decide)
    cases h
    split
    · exact ⟨B2.found (by omega), by show (st.next.faults ++ [_]).length + 1 ≤ 2 * st.next.at_; simp; omega, rfl, rfl, rfl⟩
    · exact ⟨B2, by omega, rfl, rfl, rfl⟩
theorem more_spec (G : GoodT T) : ∀ (f : Nat) (st : PSt) (acc : List Tk), Bd T st → (∀ t ∈ acc, t.kind = .name) → acc.length + 1 ≤ st.at_ →
    Bd T (moreNames T f st acc).2 ∧ (∀ t ∈ (moreNames T f st acc).1, t.kind = .name) ∧ (moreNames T f st acc).1.length + 1 ≤ (moreNames T f st acc).2.at_ ∧ st.at_ ≤ (moreNames T f st acc).2.at_ ∧
    (moreNames T f st acc).2 = { st with at_ := (moreNames T f st acc).2.at_ } ∧ (moreNames T f st acc).1.length + st.at_ = acc.length + (moreNames T f st acc).2.at_
  | 0, st, acc, B, ha, hl => ⟨B, ha, hl, Nat.le_refl _, rfl, rfl⟩
  | f + 1, st, acc, B, ha, hl => by
    unfold moreNames
    split
    · rename_i hk
      have z := more_spec G f st.next (acc ++ [peek T st]) (B.next (G.more B.at_ (by rw [hk]; decide))) (by
        intro t ht
        rcases List.mem_append.mp ht with q | q
        · exact ha t q
        · have e : t = peek T st := by simpa using q
          rw [e]; exact hk) (by show (acc ++ [_]).length + 1 ≤ st.at_ + 1; simp; omega)
      obtain ⟨z1, z2, z3, z4, z5, z6⟩ := z
      refine ⟨z1, z2, z3, Nat.le_trans (Nat.le_succ _) z4, z5, ?_⟩
      have e : (acc ++ [peek T st]).length = acc.length + 1 := by simp
      have e2 : st.next.at_ = st.at_ + 1 := rfl
      rw [e, e2] at z6
      omega
    · exact ⟨B, ha, hl, Nat.le_refl _, rfl, rfl⟩
theorem add_spec (b : Bool) (st : PSt) (t : Tk) (hn : (st.names b).length ≤ mostOf b) : (addName b st t).at_ = st.at_ ∧ (addName b st t).faults.length ≤ st.faults.length + 1 ∧ ((addName b st t).names b).length ≤ mostOf b ∧
    (addName b st t).robots = st.robots ∧ (addName b st t).rules = st.rules ∧ (addName b st t).pairs = st.pairs ∧ (addName b st t).spots = st.spots ∧ (addName b st t).names (!b) = st.names (!b) := by
  unfold addName
  split
  · refine ⟨rfl, by simp [PSt.found], ?_, rfl, rfl, rfl, rfl, rfl⟩
    exact hn
  · split
    · refine ⟨rfl, by simp [PSt.found], ?_, rfl, rfl, rfl, rfl, rfl⟩
      exact hn
    · rename_i h
      cases b
      · refine ⟨rfl, Nat.le_succ _, ?_, rfl, rfl, rfl, rfl, rfl⟩
        have h2 : st.signs.length ≠ 4 := h
        have h3 : st.signs.length ≤ 4 := hn
        show (st.signs ++ [t.text]).length ≤ 4
        simp
        omega
      · refine ⟨rfl, Nat.le_succ _, ?_, rfl, rfl, rfl, rfl, rfl⟩
        have h2 : st.moods.length ≠ 6 := h
        have h3 : st.moods.length ≤ 6 := hn
        show (st.moods ++ [t.text]).length ≤ 6
        simp
        omega
theorem adds_spec (b : Bool) : ∀ (ts : List Tk) (st : PSt), (st.names b).length ≤ mostOf b → (ts.foldl (addName b) st).at_ = st.at_ ∧ (ts.foldl (addName b) st).faults.length ≤ st.faults.length + ts.length ∧
    ((ts.foldl (addName b) st).names b).length ≤ mostOf b ∧ (ts.foldl (addName b) st).robots = st.robots ∧ (ts.foldl (addName b) st).rules = st.rules ∧ (ts.foldl (addName b) st).pairs = st.pairs ∧
    (ts.foldl (addName b) st).spots = st.spots ∧ (ts.foldl (addName b) st).names (!b) = st.names (!b)
  | [], st, h => ⟨rfl, by simp, h, rfl, rfl, rfl, rfl, rfl⟩
  | t :: ts, st, h => by
    obtain ⟨a1, a2, a3, a4, a5, a6, a7, a8⟩ := add_spec b st t h
    obtain ⟨b1, b2, b3, b4, b5, b6, b7, b8⟩ := adds_spec b ts (addName b st t) a3
    rw [List.foldl_cons]
    refine ⟨b1.trans a1, ?_, b3, b4.trans a4, b5.trans a5, b6.trans a6, b7.trans a7, b8.trans a8⟩
    simp only [List.length_cons]
    omega
theorem wordOf_ne (b : Bool) : wordOf b ≠ [] := by cases b <;> decide
theorem Bd.names (B : Bd T st) (b : Bool) : (st.names b).length ≤ mostOf b := by
  cases b
  · exact B.si
  · exact B.mo
theorem bd_names (G : GoodT T) (B : Bd T st) {b : Bool} (h : parseNames T b st = .ok ((), s1)) : Bd T s1 := by
  unfold parseNames at h
  split at h
  · cases h
  · rename_i t0 s2 h2
    obtain ⟨B2, f2, rfl⟩ := bd_word G B h2 (wordOf_ne b)
    split at h
    · cases h
    · rename_i t s3 h3
      obtain ⟨B3, f3, rfl, _⟩ := bd_take G B2 h3 (by decide)
      have hk : t.kind = .name := (take_ok h3).2.2
      obtain ⟨z1, z2, z3, z4, z5, z6⟩ := more_spec G T.length st.next.next [t] B3 (by simp [hk]) (by show 1 + 1 ≤ st.at_ + 1 + 1; omega)
      split at h
      · cases h
      · rename_i t4 s4 h4
        cases h
        obtain ⟨B4, f4, rfl⟩ := bd_word G z1 h4 (by decide)
        obtain ⟨b1, b2, b3, b4, b5, b6, b7, b8⟩ := adds_spec b (moreNames T T.length st.next.next [t]).1 (moreNames T T.length st.next.next [t]).2.next (B4.names b)
        have e : (moreNames T T.length st.next.next [t]).2.next.at_ = (moreNames T T.length st.next.next [t]).2.at_ + 1 := rfl
        have e5 : (moreNames T T.length st.next.next [t]).2.next.faults = st.faults := by
          show (moreNames T T.length st.next.next [t]).2.faults = st.faults
          rw [z5]
          rfl
        have hf := B.fa
        have e6 : st.next.next.at_ = st.at_ + 2 := rfl
        refine ⟨by rw [b1]; exact B4.at_, ?_, ?_, ?_, by rw [b4, b1]; exact B4.ro, by rw [b5, b1]; exact B4.ru, by rw [b6, b1]; exact B4.pr, by rw [b7, b1]; exact B4.sp⟩
        · rw [b1, e]
          rw [e5] at b2
          rw [e6] at z6
          simp only [List.length_cons, List.length_nil] at z6
          omega
        · cases b
          · exact b3
          · rw [show (List.foldl (addName true) (moreNames T T.length st.next.next [t]).2.next (moreNames T T.length st.next.next [t]).1).signs = _ from b8]
            exact B4.si
        · cases b
          · rw [show (List.foldl (addName false) (moreNames T T.length st.next.next [t]).2.next (moreNames T T.length st.next.next [t]).1).moods = _ from b8]
            exact B4.mo
          · exact b3
theorem putA_len {κ α : Type} [DecidableEq κ] (l : List (κ × α)) (k : κ) (v : α) : (putA l k v).length ≤ l.length + 1 := by
  unfold putA
  split <;> simp
theorem bd_robot (G : GoodT T) (B : Bd T st) {tiles : Nat} (h : parseRobot T tiles st = .ok ((), s1)) : Bd T s1 ∧ st.at_ < s1.at_ := by
  unfold parseRobot at h
  split at h
  · cases h
  · rename_i kw s2 h2
    obtain ⟨B2, f2, rfl⟩ := bd_word G B h2 (by decide)
    have B3 : Bd T (if st.next.robots.length = 3 then st.next.found rRobots kw else st.next) := by
      split
      · exact B2.found (by omega)
      · exact B2
    have a3 : (if st.next.robots.length = 3 then st.next.found rRobots kw else st.next).at_ = st.at_ + 1 := by split <;> rfl
    have r3 : (if st.next.robots.length = 3 then st.next.found rRobots kw else st.next).robots = st.robots := by split <;> rfl
    split at h
    · cases h
    · rename_i n s4 h4
      obtain ⟨B4, f4, a4, r4, _⟩ := bd_tile G B3 h4
      split at h
      · cases h
      · rename_i wy s5 h5
        obtain ⟨B5, f5, rfl⟩ := bd_kw G B4 h5
        split at h
        · cases h
        · rename_i t6 s6 h6
          obtain ⟨B6, f6, rfl⟩ := bd_word G B5 h6 (by decide)
          cases h
          have e : s4.next.next.at_ = s4.at_ + 2 := rfl
          have hr : s4.next.next.robots = st.robots := r4.trans r3
          have hB := B.ro
          refine ⟨⟨B6.at_, B6.fa, B6.si, B6.mo, ?_, B6.ru, B6.pr, B6.sp⟩, ?_⟩
          · show (s4.next.next.robots ++ [_]).length ≤ s4.next.next.at_
            rw [hr, e]
            simp
            omega
          · show st.at_ < s4.next.next.at_
            omega
theorem bd_put (G : GoodT T) (B : Bd T st) {tiles : Nat} (h : parsePut T tiles st = .ok ((), s1)) : Bd T s1 ∧ st.at_ < s1.at_ := by
  unfold parsePut at h
  split at h
  · cases h
  · rename_i kw s2 h2
    obtain ⟨B2, f2, rfl⟩ := bd_word G B h2 (by decide)
    split at h
    · cases h
    · rename_i nm s3 h3
      obtain ⟨B3, f3, rfl, _⟩ := bd_take G B2 h3 (by decide)
      obtain ⟨B4, a4, f4⟩ := bd_number B3 (names := st.next.next.signs) (t := nm) (by omega)
      have sp4 : (numberOf st.next.next.signs nm st.next.next).2.spots = st.spots := by unfold numberOf; split <;> rfl
      split at h
      · cases h
      · rename_i n s5 h5
        obtain ⟨B5, f5, a5, r5, sp5⟩ := bd_tile G B4 h5
        split at h
        · cases h
        · rename_i t6 s6 h6
          obtain ⟨B6, f6, rfl⟩ := bd_word G B5 h6 (by decide)
          cases h
          have e : s5.next.at_ = s5.at_ + 1 := rfl
          have e2 : st.next.next.at_ = st.at_ + 2 := rfl
          have hs : s5.next.spots = st.spots := sp5.trans sp4
          have hB := B.sp
          have B7 : Bd T (if (s5.next.spots.any fun kv => decide (kv.1 = n)) = true then s5.next.found rAgain (peek T (numberOf st.next.next.signs nm st.next.next).2) else s5.next) := by
            split
            · exact B6.found (by omega)
            · exact B6
          have a7 : (if (s5.next.spots.any fun kv => decide (kv.1 = n)) = true then s5.next.found rAgain (peek T (numberOf st.next.next.signs nm st.next.next).2) else s5.next).at_ = s5.at_ + 1 := by split <;> rfl
          have s7 : (if (s5.next.spots.any fun kv => decide (kv.1 = n)) = true then s5.next.found rAgain (peek T (numberOf st.next.next.signs nm st.next.next).2) else s5.next).spots = st.spots := by split <;> exact hs
          refine ⟨⟨B7.at_, B7.fa, B7.si, B7.mo, B7.ro, B7.ru, B7.pr, ?_⟩, ?_⟩
          · refine Nat.le_trans (putA_len _ _ _) ?_
            rw [s7]
            show st.spots.length + 1 ≤ _
            rw [a7]
            omega
          · show st.at_ < _
            rw [a7]
            omega
theorem bd_rule (G : GoodT T) (B : Bd T st) (h : parseRule T st = .ok ((), s1)) : Bd T s1 ∧ st.at_ < s1.at_ := by
  unfold parseRule at h
  split at h
  · cases h
  rename_i kw s2 h2
  obtain ⟨B2, f2, rfl⟩ := bd_word G B h2 (by decide)
  split at h
  · cases h
  rename_i first s3 h3
  obtain ⟨B3, f3, rfl, _⟩ := bd_take G B2 h3 (by decide)
  obtain ⟨B3', a3', f3'⟩ := bd_number B3 (names := st.next.next.moods) (t := first) (by omega)
  have r3 : (numberOf st.next.next.moods first st.next.next).2.rules = st.rules ∧ (numberOf st.next.next.moods first st.next.next).2.pairs = st.pairs := by unfold numberOf; split <;> exact ⟨rfl, rfl⟩
  split at h
  · cases h
  rename_i second s4 h4
  obtain ⟨B4, f4, rfl, _⟩ := bd_take G B3' h4 (by decide)
  generalize hq4 : (numberOf st.next.next.moods first st.next.next).2.next = q4 at *
  have e4 : q4.at_ = st.at_ + 3 := by rw [← hq4]; show (numberOf st.next.next.moods first st.next.next).2.at_ + 1 = _; rw [a3']; rfl
  have r4 : q4.rules = st.rules ∧ q4.pairs = st.pairs := by rw [← hq4]; exact r3
  obtain ⟨B4', a4', f4'⟩ := bd_number B4 (names := q4.signs) (t := second) (by omega)
  have r4' : (numberOf q4.signs second q4).2.rules = st.rules ∧ (numberOf q4.signs second q4).2.pairs = st.pairs := by unfold numberOf; split <;> exact r4
  split at h
  · cases h
  rename_i t5 s5 h5
  obtain ⟨B5, f5, rfl⟩ := bd_word G B4' h5 (by decide)
  generalize hq5 : (numberOf q4.signs second q4).2.next = q5 at *
  have e5 : q5.at_ = st.at_ + 4 := by rw [← hq5]; show (numberOf q4.signs second q4).2.at_ + 1 = _; rw [a4', e4]
  have r5 : q5.rules = st.rules ∧ q5.pairs = st.pairs := by rw [← hq5]; exact r4'
  split at h
  · cases h
  rename_i lf s6 h6
  obtain ⟨B6, f6, rfl, _⟩ := bd_take G B5 h6 (by decide)
  obtain ⟨B6', a6', f6'⟩ := bd_number B6 (names := q5.next.signs) (t := lf) (by omega)
  have r6' : (numberOf q5.next.signs lf q5.next).2.rules = st.rules ∧ (numberOf q5.next.signs lf q5.next).2.pairs = st.pairs := by unfold numberOf; split <;> exact r5
  split at h
  · cases h
  rename_i mv s7 h7
  obtain ⟨B7, f7, rfl⟩ := bd_kw G B6' h7
  generalize hq7 : (numberOf q5.next.signs lf q5.next).2.next = q7 at *
  have e7 : q7.at_ = st.at_ + 6 := by rw [← hq7]; show (numberOf q5.next.signs lf q5.next).2.at_ + 1 = _; rw [a6']; show q5.at_ + 1 + 1 = _; rw [e5]
  have r7 : q7.rules = st.rules ∧ q7.pairs = st.pairs := by rw [← hq7]; exact r6'
  split at h
  · cases h
  rename_i la s8 h8
  obtain ⟨B8, f8, rfl, _⟩ := bd_take G B7 h8 (by decide)
  obtain ⟨B8', a8', f8'⟩ := bd_number B8 (names := q7.next.moods) (t := la) (by omega)
  have r8' : (numberOf q7.next.moods la q7.next).2.rules = st.rules ∧ (numberOf q7.next.moods la q7.next).2.pairs = st.pairs := by unfold numberOf; split <;> exact r7
  split at h
  · cases h
  rename_i t9 s9 h9
  obtain ⟨B9, f9, rfl⟩ := bd_word G B8' h9 (by decide)
  generalize hq9 : (numberOf q7.next.moods la q7.next).2.next = q9 at *
  have e9 : q9.at_ = st.at_ + 8 := by rw [← hq9]; show (numberOf q7.next.moods la q7.next).2.at_ + 1 = _; rw [a8']; show q7.at_ + 1 + 1 = _; rw [e7]
  have r9 : q9.rules = st.rules ∧ q9.pairs = st.pairs := by rw [← hq9]; exact r8'
  cases h
  have hB := B.ru
  have hB2 := B.pr
  generalize hz : (if (first.text, second.text) ∈ q9.pairs then q9.found rTwice kw else q9) = z
  have Bz : Bd T z := by
    rw [← hz]
    split
    · exact B9.found (by omega)
    · exact B9
  have az : z.at_ = st.at_ + 8 := by rw [← hz]; split <;> exact e9
  have rz : z.rules = st.rules ∧ z.pairs = st.pairs := by rw [← hz]; split <;> exact r9
  refine ⟨⟨Bz.at_, Bz.fa, Bz.si, Bz.mo, Bz.ro, ?_, ?_, Bz.sp⟩, by show st.at_ < z.at_; omega⟩
  · refine Nat.le_trans (putA_len _ _ _) ?_
    show z.rules.length + 1 ≤ z.at_
    rw [rz.1, az]
    omega
  · show (if (first.text, second.text) ∈ z.pairs then z.pairs else z.pairs ++ [(first.text, second.text)]).length ≤ z.at_
    rw [az]
    split
    · rw [rz.2]; omega
    · rw [rz.2]; simp; omega
theorem bd_stmt (G : GoodT T) (B : Bd T st) {tiles : Nat} (h : parseStmt T tiles st = .ok ((), s1)) : Bd T s1 ∧ st.at_ < s1.at_ := by
  unfold parseStmt at h
  split at h
  · exact bd_robot G B h
  split at h
  · exact bd_put G B h
  split at h
  · exact bd_rule G B h
  · cases h
end
end Sw

end

section
set_option maxRecDepth 100000
set_option maxHeartbeats 4000000
/-! number_of, tile_of, the names -/
namespace Sw
open PySem PySem.Spec PyProof.Rows L2 SwA
def PLoc.nm (L : PLoc) (b : Bool) : Addr := if b then L.ml else L.sl
theorem idx_spec : ∀ {l : List Cs} {w : Cs}, w ∈ l → l[l.idxOf w]? = some w ∧ ∀ (m : Nat) z, m < l.idxOf w → l[m]? = some z → z ≠ w
  | [], w, h => by cases h
  | a :: r, w, h => by
    by_cases e : a = w
    · subst e
      have z : (a :: r).idxOf a = 0 := by simp [List.idxOf_cons]
      rw [z]
      exact ⟨rfl, fun m z hm => absurd hm (Nat.not_lt_zero m)⟩
    · have z : (a :: r).idxOf w = r.idxOf w + 1 := by
        rw [List.idxOf_cons]
        have : (a == w) = false := by simpa using e
        rw [this]
        rfl
      have hr : w ∈ r := by
        rcases List.mem_cons.mp h with q | q
        · exact absurd q.symm e
        · exact q
      obtain ⟨h1, h2⟩ := idx_spec hr
      rw [z]
      refine ⟨by simpa using h1, fun m y hm hy => ?_⟩
      cases m with
      | zero =>
        have : a = y := by simpa using hy
        rw [← this]
        exact e
      | succ m => exact h2 m y (by omega) (by simpa using hy)
section
variable {K : PySem.W.Frag} {H0 H H' : Hp} {p : Addr} {L : PLoc} {tas : List Addr} {T : List Tk} {st : PSt}
theorem PA.nmH (h : PA K H0 H p L tas T st) (b : Bool) : H (L.nm b) = some (.lst ((st.names b).map sV)) := by
  cases b
  · exact h.si
  · exact h.mo
/-- an object beside the parser is kept in mind -/
theorem PA.frame (h : PA K H0 H p L tas T st) {q : Addr} {o : HO} (hq : H q = some o) (hne : q ∉ [p, L.tl, L.fl, L.sl, L.ml, L.rl, L.rd, L.pd, L.sd]) : PA K (upd H0 q o) H p L tas T st :=
  ⟨fun b u e => by
    by_cases hb : b = q
    · rw [hb, upd_same] at e
      cases e
      rw [hb]
      exact hq
    · rw [upd_ne hb] at e
      exact h.same _ _ e, h.ob, h.tk, h.tks, h.fa, h.si, h.mo, h.ro, h.ru, h.pr, h.sp, h.nd, fun a ha => by
    rw [upd_ne fun z => hne (by rw [← z]; exact ha)]
    exact h.new a ha⟩
theorem PA.unframe {q : Addr} {o : HO} (h : PA K (upd H0 q o) H p L tas T st) (nq : H0 q = none) : PA K H0 H p L tas T st ∧ H q = some o :=
  ⟨⟨(sameUpd (Same.refl H0) nq).trans h.same, h.ob, h.tk, h.tks, h.fa, h.si, h.mo, h.ro, h.ru, h.pr, h.sp, h.nd, fun a ha => (sameUpd (o := o) (Same.refl H0) nq).free (h.new a ha)⟩, h.same _ _ upd_same⟩
theorem PA.notin (h : PA K H0 H p L tas T st) {q : Addr} (hq : H q = none) : q ∉ [p, L.tl, L.fl, L.sl, L.ml, L.rl, L.rd, L.pd, L.sd] := by
  intro z
  simp only [List.mem_cons, List.not_mem_nil, or_false] at z
  obtain ⟨dx, ob⟩ := h.ob
  obtain ⟨fas, hf, _⟩ := h.fa
  obtain ⟨ras, hr, _⟩ := h.ro
  obtain ⟨kvs, hk, _⟩ := h.ru
  rcases z with z | z | z | z | z | z | z | z | z
  · rw [z, ob] at hq; cases hq
  · rw [z, h.tk] at hq; cases hq
  · rw [z, hf] at hq; cases hq
  · rw [z, h.si] at hq; cases hq
  · rw [z, h.mo] at hq; cases hq
  · rw [z, hr] at hq; cases hq
  · rw [z, hk] at hq; cases hq
  · rw [z, h.pr] at hq; cases hq
  · rw [z, h.sp] at hq; cases hq
/-- a list beside the parser is changed -/
theorem PA.updList (h : PA K H0 H p L tas T st) {q : Addr} {xs ys : List V} (hq : H q = some (.lst xs)) (nq : H0 q = none) (hne : q ∉ [p, L.tl, L.fl, L.sl, L.ml, L.rl, L.rd, L.pd, L.sd]) : PA K H0 (upd H q (.lst ys)) p L tas T st := by
  have ne : ∀ a ∈ [p, L.tl, L.fl, L.sl, L.ml, L.rl, L.rd, L.pd, L.sd], a ≠ q := fun a ha z => hne (by rw [← z]; exact ha)
  have kt := keepT (o' := .lst ys) hq (fun xs q => by cases q)
  have kk := keepK (K := K) (o' := .lst ys) hq (fun C d fs q => by cases q)
  exact ⟨sameUpd h.same nq, (let ⟨dx, e⟩ := h.ob; ⟨dx, (upd_ne (ne _ (by simp))).trans e⟩), (upd_ne (ne _ (by simp))).trans h.tk, Paired.mapP h.tks fun a t q => kk a t q,
    (let ⟨fas, e1, e2⟩ := h.fa; ⟨fas, (upd_ne (ne _ (by simp))).trans e1, e2.mono kt⟩), (upd_ne (ne _ (by simp))).trans h.si, (upd_ne (ne _ (by simp))).trans h.mo,
    (let ⟨ras, e1, e2⟩ := h.ro; ⟨ras, (upd_ne (ne _ (by simp))).trans e1, Paired.mapP e2 fun _ _ q => kt _ _ q⟩),
    (let ⟨kvs, e1, e2⟩ := h.ru; ⟨kvs, (upd_ne (ne _ (by simp))).trans e1, Paired.mapP e2 fun _ _ q => q.mono kt⟩), (upd_ne (ne _ (by simp))).trans h.pr, (upd_ne (ne _ (by simp))).trans h.sp, h.nd, h.new⟩
end
theorem lp_no_number_of {L : PLoc} {n : Nat} : (parF L n).lookup ("number_of" : Str) = none := by kernel_rfl
theorem lp_no_tile_of {L : PLoc} {n : Nat} : (parF L n).lookup ("tile_of" : Str) = none := by kernel_rfl
theorem e_unknown : ("unknown" : Str) = sx rUnknown := by decide +kernel
theorem e_tile : ("tile" : Str) = sx rTile := by decide +kernel
theorem e_duplicate : ("duplicate" : Str) = sx rDuplicate := by decide +kernel
theorem e_semi : (";" : Str) = sx wSemi := by decide +kernel
theorem e_robot : ("robot" : Str) = sx wRobot := by decide +kernel
theorem e_robots : ("robots" : Str) = sx rRobots := by decide +kernel
theorem e_right : ("right" : Str) = sx wRight := by decide +kernel
theorem e_put : ("put" : Str) = sx wPut := by decide +kernel
theorem e_again : ("again" : Str) = sx rAgain := by decide +kernel
theorem e_when : ("when" : Str) = sx wWhen := by decide +kernel
theorem e_leave : ("leave" : Str) = sx wLeave := by decide +kernel
theorem e_twice : ("twice" : Str) = sx rTwice := by decide +kernel
theorem e_corridor : ("corridor" : Str) = sx wCorridor := by decide +kernel
theorem e_signs : ("signs" : Str) = sx wSigns := by decide +kernel
theorem e_moods : ("moods" : Str) = sx wMoods := by decide +kernel
section
variable {P : Program} {w : World} {K : PySem.W.Frag} {mg : Str → Option Value} {base : Heap}
def spNumberOf (K : PySem.W.Frag) : Sp := fun vs H Q _ => ∃ (H0 : Hp) (p : Addr) (L : PLoc) (tas : List Addr) (T : List Tk) (st : PSt) (b : Bool) (a : Addr) (t : Tk), vs = [.ref p, .ref (L.nm b), .ref a] ∧ PA K H0 H p L tas T st ∧
  TI tas T a t ∧ st.faults.length ≤ 1000000 ∧ ∀ H', PA K H0 H' p L tas T (numberOf (st.names b) t st).2 → Q (.int (numberOf (st.names b) t st).1) H'
theorem sc_number_of : FnScope ["self", "names", "token"] ["self", "names", "token"] (defScope s_Parser_number_of) := ⟨rfl, rfl, rfl, by decide +kernel, rfl, by decide +kernel, by decide +kernel⟩
theorem ok_number_of (T : ParT K mg) : FnE P w K mg base CX0 2 ("Parser", some "number_of") ["self", "names", "token"] (spNumberOf K) := by
  obtain ⟨fd, F⟩ := T.number_of.d
  obtain ⟨fdF, GF, bF, kF⟩ := ok_found (P := P) (w := w) (base := base) T
  refine ⟨fd, F.ok sc_number_of (fun vs H Q E h => ?_) (fun cdv A outer s H vs Q E hr h => ?_), F.bindsN fun _ _ _ _ _ _ us hl => match us, hl with | [_, _, _], _ => rfl, F.kp⟩
  · obtain ⟨H0, p, L, tas, Ts, st, b, a, t, rfl, _⟩ := h
    rfl
  · obtain ⟨H0, p, L, tas, Ts, st, b, a, t, rfl, hP, hta, hz, k⟩ := h
    refine ⟨_, PSs.nox (pss_cons (ps_if (pt_cmpR op_in_seq (pe_fld (pv 2) rfl) (pv 1) rfl)
        (pss_one (ps_ret (pe_bm PySem.F.plainAttrs_list PySem.F.slot_list_index PySem.F.type_list_index mt_index (pv 1) (pa_cons (pe_fld (pv 2) rfl) pa_nil)))) pss_nil)
      (pss_cons (ps_expr (pe_meth (pv 0) T.par.c T.found.m GF hr bF .nil pass0 (pa_cons pe_str (pa_cons (pv 2) pa_nil)))) (pss_one (ps_ret pe_int)))), ?_⟩
    obtain ⟨dx, ob⟩ := hP.ob
    obtain ⟨dt, ht⟩ := hP.get hta
    have hn := hP.nmH b
    refine ⟨_, rfl, a, _, dt, _, _, rfl, ht, T.l.tok.c, T.l.tok.n _ (by simp), lk_text, _, rfl, L.nm b, _, rfl, .inl (SqL.of hn), rfl, flat_sx _, _, rfl, ?_⟩
    rw [inV_sx]
    refine ite2 (fun h => ?_) (fun h => ?_)
    · have h : t.text ∈ st.names b := of_decide_eq_true h
      obtain ⟨i1, i2⟩ := idx_spec h
      have k1 := k H (by unfold numberOf; rw [if_pos h]; exact hP)
      have e : (numberOf (st.names b) t st).1 = (st.names b).idxOf t.text := by unfold numberOf; rw [if_pos h]
      rw [e] at k1
      refine ⟨_, rfl, .inl ⟨rfl, _, SqL.of hn⟩, _, rfl, a, _, dt, _, _, rfl, ht, T.l.tok.c, T.l.tok.n _ (by simp), lk_text, L.nm b, _, _, (st.names b).idxOf t.text, sV t.text, rfl, rfl, SqL.of hn, rfl, flat_sx _, by rw [List.getElem?_map, i1]; rfl, by rw [eq_str_sx]; exact decide_eq_true rfl, fun m z' hm hz' => ?_, k1⟩
      rw [List.getElem?_map] at hz'
      cases q : (st.names b)[m]? with
      | none => rw [q] at hz'; cases hz'
      | some y =>
        rw [q] at hz'
        cases hz'
        rw [eq_str_sx]
        exact decide_eq_false (i2 m y hm q)
    · have h : t.text ∉ st.names b := fun q => h (decide_eq_true q)
      refine ⟨_, rfl, p, dx, _, rfl, ob, lp_no_found, _, rfl, H0, p, L, tas, Ts, st, rUnknown, a, t, by rw [e_unknown]; rfl, hP, hta, hz, fun H' hP' => ?_⟩
      have k1 := k H' (by unfold numberOf; rw [if_neg h]; exact hP')
      have e : (numberOf (st.names b) t st).1 = 0 := by unfold numberOf; rw [if_neg h]
      rw [e] at k1
      exact k1
def spTileOf (K : PySem.W.Frag) : Sp := fun vs H Q E => ∃ (H0 : Hp) (p : Addr) (L : PLoc) (tas : List Addr) (T : List Tk) (st : PSt) (tiles : Nat), vs = [.ref p, .int tiles] ∧ PA K H0 H p L tas T st ∧ GoodT T ∧ st.at_ < T.length ∧ st.faults.length ≤ 1000000 ∧
  Res K H0 p L tas T (tileOf T tiles st) Q E retN
theorem sc_tile_of : FnScope ["self", "tiles", "token"] ["self", "tiles"] (defScope s_Parser_tile_of) := ⟨rfl, rfl, rfl, by decide +kernel, rfl, by decide +kernel, by decide +kernel⟩
theorem TI.mem {tas : List Addr} {T : List Tk} {a : Addr} {t : Tk} (h : TI tas T a t) : t ∈ T := let ⟨_, _, e⟩ := h; List.mem_of_getElem? e
theorem int_sx {w : Cs} (h : w.all isD = true) (h1 : 1 ≤ w.length) (h2 : w.length ≤ 2) : intText? (sx w) = some (numVal w : Int) := by
  have e : (sx w).cps.toList = w := rfl
  have z := PySem.intText_digits (x := sx w) (by
    rw [e]
    intro c hc
    have q := List.all_eq_true.mp h c hc
    unfold isD at q
    rw [Bool.and_eq_true] at q
    exact ⟨Nat.le_of_ble_eq_true q.1, Nat.le_of_ble_eq_true q.2⟩) (by rw [e]; intro q; rw [q] at h1; simp at h1) (by rw [len_sx]; omega)
  rw [e] at z
  exact z
theorem ok_tile_of (T : ParT K mg) : FnE P w K mg base (L2.CX P w) 5 ("Parser", some "tile_of") ["self", "tiles"] (spTileOf K) := by
  obtain ⟨fd, F⟩ := T.tile_of.d
  obtain ⟨fdF, GF, bF, kF⟩ := ok_found (P := P) (w := w) (base := base) T
  obtain ⟨fdT, GT, bT, kT⟩ := ok_take (P := P) (w := w) (base := base) T
  obtain ⟨t1, mNUM⟩ := T.l.NUMBER
  refine ⟨fd, F.ok sc_tile_of (fun vs H Q E h => ?_) (fun cdv A outer s H vs Q E hr h => ?_), F.bindsN fun _ _ _ _ _ _ us hl => match us, hl with | [_, _], _ => rfl, F.kp⟩
  · obtain ⟨H0, p, L, tas, Ts, st, tiles, rfl, _⟩ := h
    rfl
  · obtain ⟨H0, p, L, tas, Ts, st, tiles, rfl, hP, hG, hi, hz, R⟩ := h
    have hr1 : Room 1 _ := hr.mono (by decide)
    refine ⟨_, (pss_cons (ps_set (i := 2) sc_tile_of.nd rfl (.inl rfl) (pe_meth (pv 0) T.par.c T.take.m GT hr bT .nil (passes_call (takes_of rfl rfl rfl rfl) (fun _ _ _ _ h => h)) (pa_cons (pe_glob (v := .str "number") rfl mNUM ⟨_, rfl⟩) pa_nil)))
      (pss_cons (ps_if (pt_cmpR op_ge (pe_callTy call_int_str (by rfl) T.int (by decide +kernel) (pa_cons (pe_fld (pv 2) rfl) pa_nil)) (pv 1) (nomark _))
        (pss_one (ps_expr (pe_meth (pv 0) T.par.c T.found.m GF hr1 bF .nil pass0 (pa_cons pe_str (pa_cons (pv 2) pa_nil))))) pss_nil)
      (pss_one (ps_ret (pe_callTy call_int_str (by rfl) T.int (by decide +kernel) (pa_cons (pe_fld (pv 2) rfl) pa_nil)))))), ?_⟩
    obtain ⟨dx, ob⟩ := hP.ob
    refine ⟨_, rfl, p, dx, _, rfl, ob, lp_no_take, H0, p, L, tas, Ts, st, .number, rfl, hP, hi, ⟨fun t s1 ht v H1 hv hP1 => ?_, fun l c he => R.er l c (by simp only [tileOf, he])⟩⟩
    obtain ⟨a, rfl, hta⟩ := hv
    have hk := (take_ok ht).2.2
    have hs1 := (take_ok ht).1
    obtain ⟨⟨n1, n2⟩, n3⟩ := hG.num t hta.mem hk
    have hint := int_sx n3 n1 n2
    obtain ⟨dt, htk⟩ := hP1.get hta
    obtain ⟨dx1, ob1⟩ := hP1.ob
    refine ⟨_, rfl, a, _, dt, _, _, rfl, htk, T.l.tok.c, T.l.tok.n _ (by simp), lk_text, _, _, rfl, hint, by rw [len_sx]; omega, _, rfl, _, _, rfl, rfl, _, rfl, ?_⟩
    refine ite2 (fun h => ?_) (fun h => ?_)
    · have h := of_decide_eq_true h
      refine ⟨_, rfl, p, dx1, _, rfl, ob1, lp_no_found, _, rfl, H0, p, L, tas, Ts, s1, rTile, a, t, by rw [e_tile]; rfl, hP1, hta, by rw [hs1]; exact hz, fun H2 hP2 => ?_⟩
      obtain ⟨dt2, htk2⟩ := hP2.get hta
      refine ⟨_, rfl, a, _, dt2, _, _, rfl, htk2, T.l.tok.c, T.l.tok.n _ (by simp), lk_text, _, _, rfl, hint, by rw [len_sx]; omega, ?_⟩
      exact R.ok (numVal t.text) _ (by simp only [tileOf, ht, if_pos (show tiles ≤ numVal t.text by omega)]) _ _ rfl hP2
    · have h : ¬ (tiles : Int) ≤ (numVal t.text : Nat) := fun q => h (decide_eq_true q)
      refine ⟨_, rfl, a, _, dt, _, _, rfl, htk, T.l.tok.c, T.l.tok.n _ (by simp), lk_text, _, _, rfl, hint, by rw [len_sx]; omega, ?_⟩
      exact R.ok (numVal t.text) _ (by simp only [tileOf, ht, if_neg (show ¬ tiles ≤ numVal t.text by omega)]) _ _ rfl hP1
end
end Sw

end

section
set_option maxRecDepth 100000
set_option maxHeartbeats 4000000
/-! parse_names -/
namespace Sw
open PySem PySem.Spec PyProof.Rows L2 SwA
theorem Paired_idx {α β : Type} {F : α → β → Prop} : ∀ {l : List α} {m : List β} {i : Nat} {a : α}, Paired F l m → l[i]? = some a → ∃ b, m[i]? = some b ∧ F a b
  | _, _, i, _, .nil, h => by simp at h
  | _, _, 0, _, .cons x r, h => by simp at h; subst h; exact ⟨_, rfl, x⟩
  | _, _, i + 1, _, .cons x r, h => by
    obtain ⟨b, e, f⟩ := Paired_idx r (i := i) (by simpa using h)
    exact ⟨b, by simpa using e, f⟩
section
variable {P : Program} {w : World} {K : PySem.W.Frag} {mg : Str → Option Value} {base : Heap}
def spParseNames (K : PySem.W.Frag) : Sp := fun vs H Q E => ∃ (H0 : Hp) (p : Addr) (L : PLoc) (tas : List Addr) (T : List Tk) (st : PSt) (b : Bool), vs = [.ref p, sV (wordOf b), .ref (L.nm b), .int (mostOf b)] ∧ PA K H0 H p L tas T st ∧ GoodT T ∧ Bd T st ∧
  Res K H0 p L tas T (parseNames T b st) Q E retU
theorem sc_parse_names : FnScope ["self", "word", "names", "most", "tokens", "token"] ["self", "word", "names", "most"] (defScope s_Parser_parse_names) := ⟨rfl, rfl, rfl, by decide +kernel, rfl, by decide +kernel, by decide +kernel⟩
theorem ok_parse_names (T : ParT K mg) : FnE P w K mg base (L2.CX P w) 5 ("Parser", some "parse_names") ["self", "word", "names", "most"] (spParseNames K) := by
  obtain ⟨fd, F⟩ := T.parse_names.d
  obtain ⟨fdP, GP, bP, kP⟩ := ok_peek (P := P) (w := w) (base := base) T
  obtain ⟨fdF, GF, bF, kF⟩ := ok_found (P := P) (w := w) (base := base) T
  obtain ⟨fdT, GT, bT, kT⟩ := ok_take (P := P) (w := w) (base := base) T
  obtain ⟨fdW, GW, bW, kW⟩ := ok_take_word (P := P) (w := w) (base := base) T
  obtain ⟨t1, mNAME⟩ := T.l.NAME
  refine ⟨fd, F.ok sc_parse_names (fun vs H Q E h => ?_) (fun cdv A outer s H vs Q E hr h => ?_), F.bindsN fun _ _ _ _ _ _ us hl => match us, hl with | [_, _, _, _], _ => rfl, F.kp⟩
  · obtain ⟨H0, p, L, tas, Ts, st, b, rfl, _⟩ := h
    rfl
  · obtain ⟨H0, p, L, tas, Ts, st, b, rfl, hP, hG, hB, R⟩ := h
    have hr1 : Room 1 _ := hr.mono (by decide)
    refine ⟨_, (pss_cons (ps_expr (pe_meth (pv 0) T.par.c T.take_word.m GW hr bW .nil (passes_call (takes_of rfl rfl rfl rfl) (fun _ _ _ _ h => h)) (pa_cons (pv 1) pa_nil)))
      (pss_cons (ps_set (i := 4) sc_parse_names.nd rfl (.inl rfl) (pe_lst (pa_cons (pe_meth (pv 0) T.par.c T.take.m GT hr bT .nil (passes_call (takes_of rfl rfl rfl rfl) (fun _ _ _ _ h => h)) (pa_cons (pe_glob (v := .str "name") rfl mNAME ⟨_, rfl⟩) pa_nil)) pa_nil)))
      (pss_cons (ps_while (passes_of rfl) (pt_cmpR op_eq (pe_fld (pe_meth0 (pv 0) T.par.c T.peek.m GP hr1 bP .nil pass0) rfl) (pe_glob (v := .str "name") rfl mNAME ⟨_, rfl⟩) (nomark _))
        (pss_one (ps_expr (pe_bm PySem.F.plainAttrs_list PySem.F.slot_list_append PySem.F.type_list_append mt_append (pv 4) (pa_cons (pe_meth (pv 0) T.par.c T.take.m GT hr bT .nil (passes_call (takes_of rfl rfl rfl rfl) (fun _ _ _ _ h => h)) (pa_cons (pe_glob (v := .str "name") rfl mNAME ⟨_, rfl⟩) pa_nil)) pa_nil)))))
      (pss_cons (ps_expr (pe_meth (pv 0) T.par.c T.take_word.m GW hr bW .nil (passes_call (takes_of rfl rfl rfl rfl) (fun _ _ _ _ h => h)) (pa_cons pe_str pa_nil)))
      (pss_one (ps_for (passes_of rfl) rfl (pi_list (pv 4)) (pg_name (i := 5) sc_parse_names.nd rfl (.inl rfl))
        (pss_one (ps_if (pt_cmpR op_in_seq (pe_fld (pv 5) rfl) (pv 2) rfl)
          (pss_one (ps_expr (pe_meth (pv 0) T.par.c T.found.m GF hr1 bF .nil pass0 (pa_cons pe_str (pa_cons (pv 5) pa_nil)))))
          (pss_one (ps_if (pt_cmpR op_eq (pe_callB call_len_seq (by rfl) T.l.len boot_len (pa_cons (pv 2) pa_nil)) (pv 3) (nomark _))
            (pss_one (ps_expr (pe_meth (pv 0) T.par.c T.found.m GF hr1 bF .nil pass0 (pa_cons (pv 1) (pa_cons (pv 5) pa_nil)))))
            (pss_one (ps_expr (pe_bm PySem.F.plainAttrs_list PySem.F.slot_list_append PySem.F.type_list_append mt_append (pv 2) (pa_cons (pe_fld (pv 5) rfl) pa_nil)))))))))))))), ?_⟩
    obtain ⟨dx, ob⟩ := hP.ob
    refine ⟨_, rfl, p, dx, _, rfl, ob, lp_no_take_word, _, rfl, H0, p, L, tas, Ts, st, wordOf b, rfl, hP, hB.at_, ⟨fun t0 s1 h1 v H1 hv hP1 => ?_, fun l c he => R.er l c (by simp only [parseNames, he])⟩⟩
    clear hv
    obtain ⟨B1, f1, e1⟩ := bd_word hG hB h1 (wordOf_ne b)
    obtain ⟨dx1, ob1⟩ := hP1.ob
    refine ⟨_, rfl, p, dx1, _, rfl, ob1, lp_no_take, H0, p, L, tas, Ts, s1, .name, rfl, hP1, B1.at_, ⟨fun t s2 h2 v H2 hv hP2 => ?_, fun l c he => R.er l c (by simp only [parseNames, h1, he])⟩⟩
    obtain ⟨a, rfl, hta⟩ := hv
    obtain ⟨B2, f2, e2, _⟩ := bd_take hG B1 h2 (by decide)
    have hk2 := (take_ok h2).2.2
    refine ⟨(by show 1 ≤ sizeLine; decide), fun q nq => ?_⟩
    have hne := hP2.notin nq
    have nq0 : H0 q = none := hP2.same.free nq
    have hP2' := hP2.mono (sameUpd (o := .lst [.ref a]) (Same.refl H2) nq)
    have as2 : 2 ≤ s2.at_ := by
      rw [e2, e1]
      show 2 ≤ st.at_ + 1 + 1
      omega
    refine ⟨fun m σ H => ∃ (f : Nat) (acc : List Tk) (aas : List Addr) (s : PSt), m + s.at_ = Ts.length ∧ σ = [some (.ref p), some (sV (wordOf b)), some (.ref (L.nm b)), some (.int (mostOf b)), some (.ref q), none] ∧
      H q = some (.lst (aas.map V.ref)) ∧ Paired (TI tas Ts) aas acc ∧ PA K H0 H p L tas Ts s ∧ Bd Ts s ∧ Ts.length ≤ f + s.at_ ∧ moreNames Ts Ts.length s2 [t] = moreNames Ts f s acc ∧ acc.length + 1 ≤ s.at_,
      ⟨Ts.length - s2.at_, Ts.length, [t], [a], s2, Nat.sub_add_cancel (Nat.le_of_lt B2.at_), rfl, upd_same, .cons hta .nil, hP2', B2, Nat.le_add_right _ _, rfl, as2⟩, ?_⟩
    rintro m σ H3 ⟨f, acc, aas, s, hm, rfl, hq, hpa, hP3, B3, hf, hmn, hac⟩
    obtain ⟨dx3, ob3⟩ := hP3.ob
    have hlen := hG.len
    have B3at := B3.at_
    refine ⟨_, rfl, p, dx3, _, rfl, ob3, lp_no_peek, H0, p, L, tas, Ts, s, rfl, hP3, B3.at_, fun a3 hta3 => ?_⟩
    obtain ⟨dt3, ht3⟩ := hP3.get hta3
    refine ⟨a3, _, dt3, _, _, rfl, ht3, T.l.tok.c, T.l.tok.n _ (by simp), lk_kind, rfl, _, rfl, ?_⟩
    obtain ⟨f', rfl⟩ : ∃ f', f = f' + 1 := ⟨f - 1, by omega⟩
    refine ite2 (fun h => ?_) (fun h => ?_)
    · have h : (peek Ts s).kind = .name := kd_inj (b := .name) (V.str.inj (of_decide_eq_true h))
      refine ⟨_, fun _ _ n => n, ?_⟩
      refine ⟨_, rfl, .inl ⟨rfl, _, SqL.of hq⟩, _, rfl, p, dx3, _, rfl, ob3, lp_no_take, upd H0 q (.lst (aas.map V.ref)), p, L, tas, Ts, s, .name, rfl, hP3.frame hq hne, B3.at_, ⟨fun t' s' h' v H' hv hP' => ?_, fun l c he => ?_⟩⟩
      · obtain ⟨a', rfl, hta'⟩ := hv
        obtain ⟨hP'', hq'⟩ := hP'.unframe nq0
        obtain ⟨B', f'', e', _⟩ := bd_take hG B3 h' (by decide)
        have ht' := (take_ok h').2.1
        have hlt : (aas.map V.ref).length < sizeLine := by
          rw [List.length_map, hpa.length, sizeLine_eq]
          omega
        have ea : s'.at_ = s.at_ + 1 := by rw [e']; rfl
        refine ⟨q, _, _, rfl, rfl, hq', hlt, m - 1, by omega, f', acc ++ [t'], aas ++ [a'], s', by omega, rfl, by rw [upd_same, List.map_append]; rfl, Paired_snoc hpa hta', hP''.updList hq' nq0 hne, B', by omega, ?_, by simp; omega⟩
        rw [hmn]
        conv => lhs; unfold moreNames
        rw [if_pos h, e', ht']
      · exfalso
        unfold take at he
        rw [if_pos h] at he
        cases he
    · have h : ¬ (peek Ts s).kind = .name := fun q => h (decide_eq_true (by rw [q]; rfl))
      have hmn2 : moreNames Ts Ts.length s2 [t] = (acc, s) := by
        rw [hmn]
        unfold moreNames
        rw [if_neg h]
      have em1 : (moreNames Ts Ts.length s2 [t]).1 = acc := by rw [hmn2]
      have em2 : (moreNames Ts Ts.length s2 [t]).2 = s := by rw [hmn2]
      refine ⟨_, rfl, p, dx3, _, rfl, ob3, lp_no_take_word, upd H0 q (.lst (aas.map V.ref)), p, L, tas, Ts, s, wSemi, by rw [e_semi]; rfl, hP3.frame hq hne, B3.at_, ⟨fun t4 s4 h4 v H4 hv hP4 => ?_, fun l c he => ?_⟩⟩
      · clear hv
        obtain ⟨hP4', hq4⟩ := hP4.unframe nq0
        obtain ⟨B4, f4, e4⟩ := bd_word hG B3 h4 (by decide)
        have hfin : parseNames Ts b st = .ok ((), acc.foldl (addName b) s4) := by
          simp only [parseNames, h1, h2, em1, em2, h4]
        refine ⟨_, rfl, q, rfl, ⟨_, SqL.of hq4⟩, for_list (K := K) (a := q) (xs := aas.map V.ref) (fun i σ H => ∃ o5 : Option V, σ = [some (.ref p), some (sV (wordOf b)), some (.ref (L.nm b)), some (.int (mostOf b)), some (.ref q), o5] ∧
          H q = some (.lst (aas.map V.ref)) ∧ PA K H0 H p L tas Ts ((acc.take i).foldl (addName b) s4)) ⟨none, rfl, hq4, hP4'⟩ (fun i σ H _ hh => ?_) ?_ ?_⟩
        · obtain ⟨o5, rfl, hq5, _⟩ := hh
          exact SqL.of hq5
        · rintro i x σ H5 hx ⟨o5, rfl, hq5, hP5⟩
          rw [List.getElem?_map] at hx
          cases hai : aas[i]? with
          | none => rw [hai] at hx; cases hx
          | some ai =>
            rw [hai] at hx
            cases hx
            obtain ⟨ti, hti, hTI⟩ := Paired_idx hpa hai
            have hstep : (acc.take (i + 1)).foldl (addName b) s4 = addName b ((acc.take i).foldl (addName b) s4) ti := by
              rw [List.take_succ, hti, List.foldl_append]
              rfl
            rw [hstep]
            obtain ⟨c1, c2, c3, _⟩ := adds_spec b (acc.take i) s4 (B4.names b)
            generalize hs5 : (acc.take i).foldl (addName b) s4 = s5 at *
            have hfl : s5.faults.length ≤ 1000000 := by
              have z1 := B4.fa
              have z2 := B4.at_
              have z3 : (acc.take i).length ≤ acc.length := by rw [List.length_take]; omega
              omega
            obtain ⟨dx5, ob5⟩ := hP5.ob
            obtain ⟨dt5, ht5⟩ := hP5.get hTI
            have hn5 := hP5.nmH b
            refine ⟨_, rfl, ai, _, dt5, _, _, rfl, ht5, T.l.tok.c, T.l.tok.n _ (by simp), lk_text, _, rfl, L.nm b, _, rfl, .inl (SqL.of hn5), rfl, flat_sx _, _, rfl, ?_⟩
            rw [inV_sx]
            refine ite2 (fun h => ?_) (fun h => ?_)
            · have h : ti.text ∈ s5.names b := of_decide_eq_true h
              refine ⟨_, rfl, p, dx5, _, rfl, ob5, lp_no_found, _, rfl, upd H0 q (.lst (aas.map V.ref)), p, L, tas, Ts, s5, rDuplicate, ai, ti, by rw [e_duplicate]; rfl, hP5.frame hq5 hne, hTI, hfl, fun H6 hP6 => ?_⟩
              obtain ⟨hP6', hq6⟩ := hP6.unframe nq0
              refine ⟨_, rfl, hq6, ?_⟩
              unfold addName
              rw [if_pos h]
              exact hP6'
            · have h : ti.text ∉ s5.names b := fun q => h (decide_eq_true q)
              refine ⟨_, rfl, L.nm b, _, rfl, .inl (SqL.of hn5), _, rfl, rfl, _, rfl, ?_⟩
              rw [List.length_map]
              refine ite2 (fun h2 => ?_) (fun h2 => ?_)
              · have h2 : (s5.names b).length = mostOf b := by
                  have z := V.int.inj (of_decide_eq_true h2)
                  exact Int.ofNat_inj.mp z
                refine ⟨_, rfl, p, dx5, _, rfl, ob5, lp_no_found, _, rfl, _, rfl, upd H0 q (.lst (aas.map V.ref)), p, L, tas, Ts, s5, wordOf b, ai, ti, rfl, hP5.frame hq5 hne, hTI, hfl, fun H6 hP6 => ?_⟩
                obtain ⟨hP6', hq6⟩ := hP6.unframe nq0
                refine ⟨_, rfl, hq6, ?_⟩
                unfold addName
                rw [if_neg h, if_pos h2]
                exact hP6'
              · have h2 : ¬ (s5.names b).length = mostOf b := fun q => h2 (decide_eq_true (by rw [q]))
                have hlt : ((s5.names b).map sV).length < sizeLine := by
                  rw [List.length_map, sizeLine_eq]
                  have : mostOf b ≤ 6 := by cases b <;> decide
                  omega
                have hqn : q ≠ L.nm b := fun z => hne (by
                  rw [z]
                  cases b
                  · simp [PLoc.nm]
                  · simp [PLoc.nm])
                refine ⟨_, rfl, .inl ⟨rfl, _, SqL.of hn5⟩, _, rfl, ai, _, dt5, _, _, rfl, ht5, T.l.tok.c, T.l.tok.n _ (by simp), lk_text, L.nm b, _, _, rfl, rfl, hn5, hlt, ?_⟩
                have em : ((s5.names b).map sV ++ [sV ti.text]) = (s5.names b ++ [ti.text]).map sV := by rw [List.map_append]; rfl
                refine ⟨_, rfl, by rw [upd_ne hqn]; exact hq5, ?_⟩
                rw [em]
                unfold addName
                rw [if_neg h, if_neg h2]
                cases b
                · exact hP5.set_sl hn5 trivial
                · exact hP5.set_ml hn5 trivial
        · rintro σ H6 ⟨o5, rfl, hq6, hP6⟩
          rw [List.length_map] at hP6
          have ea : aas.length = acc.length := hpa.length
          rw [ea, List.take_length] at hP6
          exact R.ok () _ hfin _ _ rfl hP6
      · refine (R.er l c ?_).mono (sameUpd (Same.refl H0) nq0)
        simp only [parseNames, h1, h2, em2, he]
end
end Sw

end

section
set_option maxRecDepth 100000
set_option maxHeartbeats 4000000
/-! parse_robot, parse_put, parse_rule -/
namespace Sw
open PySem PySem.Spec PyProof.Rows L2 SwA
/-! ### the dicts -/
theorem key_inl {a b : Nat} : ((.inl (a : Int) : Key) = .inl (b : Int)) ↔ a = b := ⟨fun h => by injection h with h; omega, fun h => by rw [h]⟩
theorem keyT_inj {a b : Nat × Nat} : keyT a = keyT b ↔ a = b := by
  constructor
  · intro h
    unfold keyT at h
    injection h with h1 h2
    injection h2 with h2 _
    have e1 := key_inl.mp h1
    have e2 := key_inl.mp h2
    exact Prod.ext e1 e2
  · intro h; rw [h]
theorem pairK_inj {a b : Cs × Cs} : (pairK a).1 = (pairK b).1 ↔ a = b := by
  constructor
  · intro h
    unfold pairK at h
    injection h with h1 h2
    injection h2 with h2 _
    injection h1 with h1
    injection h2 with h2
    exact Prod.ext (sx_inj h1) (sx_inj h2)
  · intro h; rw [h]
theorem spots_any (l : List (Nat × Nat)) (n : Nat) : (valV (l.map spotK) (.inl (n : Int) : Key)).isSome = l.any fun kv => decide (kv.1 = n) := by
  rw [← valV_any]
  rw [List.any_map]
  congr 1
  funext kv
  show decide ((.inl (kv.1 : Int) : Key) = .inl (n : Int)) = decide (kv.1 = n)
  rw [Bool.eq_iff_iff, decide_eq_true_iff, decide_eq_true_iff, key_inl]
theorem spots_put (l : List (Nat × Nat)) (n v : Nat) : putK (l.map spotK) (.inl (n : Int) : Key) (.int v) = (putA l n v).map spotK := by
  unfold putK putA
  rw [valV_any, spots_any]
  split
  · rw [List.map_map, List.map_map]
    refine List.map_congr_left fun kv _ => ?_
    show (if (spotK kv).1 = .inl (n : Int) then ((spotK kv).1, V.int v) else spotK kv) = spotK (if kv.1 = n then (kv.1, v) else kv)
    by_cases e : kv.1 = n
    · rw [if_pos e, if_pos (by show (.inl (kv.1 : Int) : Key) = _; rw [e])]
      rfl
    · rw [if_neg e, if_neg (show ¬ (spotK kv).1 = .inl (n : Int) from fun q => e (key_inl.mp q))]
  · rw [List.map_append]
    rfl
theorem pairs_some (l : List (Cs × Cs)) (q : Cs × Cs) : (valV (l.map pairK) (pairK q).1).isSome = decide (q ∈ l) := by
  rw [← valV_any, List.any_map]
  rw [Bool.eq_iff_iff, List.any_eq_true, decide_eq_true_iff]
  constructor
  · rintro ⟨x, hx, e⟩
    have e := of_decide_eq_true e
    have e2 : (pairK x).1 = (pairK q).1 := e
    rw [pairK_inj] at e2
    rw [← e2]
    exact hx
  · intro h
    exact ⟨q, h, decide_eq_true rfl⟩
theorem pairs_put (l : List (Cs × Cs)) (q : Cs × Cs) : putK (l.map pairK) (pairK q).1 (.bl true) = (if q ∈ l then l else l ++ [q]).map pairK := by
  unfold putK
  rw [valV_any, pairs_some]
  by_cases h : q ∈ l
  · rw [if_pos (decide_eq_true h), if_pos h, List.map_map]
    refine List.map_congr_left fun x _ => ?_
    show (if (pairK x).1 = (pairK q).1 then ((pairK x).1, V.bl true) else pairK x) = pairK x
    split <;> rfl
  · rw [if_neg (fun z => h (of_decide_eq_true z)), if_neg h, List.map_append]
    rfl
theorem rules_any {H : Hp} {k : Nat × Nat} : ∀ {rs : List ((Nat × Nat) × Rule)} {kvs : List (List Key × V)}, Paired (RuleAt H) rs kvs → (kvs.any fun kv => decide (kv.1 = keyT k)) = rs.any fun kv => decide (kv.1 = k)
  | _, _, .nil => rfl
  | _, _, .cons (a := r) (b := kv) h t => by
    rw [List.any_cons, List.any_cons, rules_any t]
    congr 1
    rw [h.1, Bool.eq_iff_iff, decide_eq_true_iff, decide_eq_true_iff, keyT_inj]
theorem rules_put {H : Hp} {k : Nat × Nat} {r : Rule} {t : Addr} (ht : H t = some (.tup [.int r.left, sV r.move, .int r.later])) {rs : List ((Nat × Nat) × Rule)} {kvs : List (List Key × V)} (h : Paired (RuleAt H) rs kvs) :
    Paired (RuleAt H) (putA rs k r) (putK kvs (keyT k) (.ref t)) := by
  unfold putA putK
  rw [rules_any h]
  split
  · rename_i hany
    clear hany
    induction h with
    | nil => exact .nil
    | @cons r0 kv l m h t ih =>
      refine .cons ?_ ih
      dsimp only
      by_cases e : r0.1 = k
      · rw [if_pos e, if_pos (by rw [h.1, e])]
        exact ⟨h.1, _, rfl, ht⟩
      · rw [if_neg e, if_neg (by rw [h.1]; exact fun q => e (keyT_inj.mp q))]
        exact h
  · exact Paired_snoc h ⟨rfl, t, rfl, ht⟩
theorem Paired_len {α β : Type} {F : α → β → Prop} {l : List α} {m : List β} (h : Paired F l m) : l.length = m.length := h.length
theorem lp_no_parse_names {L : PLoc} {n : Nat} : (parF L n).lookup ("parse_names" : Str) = none := by kernel_rfl
theorem lp_no_parse_robot {L : PLoc} {n : Nat} : (parF L n).lookup ("parse_robot" : Str) = none := by kernel_rfl
theorem lp_no_parse_put {L : PLoc} {n : Nat} : (parF L n).lookup ("parse_put" : Str) = none := by kernel_rfl
theorem lp_no_parse_rule {L : PLoc} {n : Nat} : (parF L n).lookup ("parse_rule" : Str) = none := by kernel_rfl
theorem lp_no_parse_plan {L : PLoc} {n : Nat} : (parF L n).lookup ("parse_plan" : Str) = none := by kernel_rfl
section
variable {P : Program} {w : World} {K : PySem.W.Frag} {mg : Str → Option Value} {base : Heap}
def spParseRobot (K : PySem.W.Frag) : Sp := fun vs H Q E => ∃ (H0 : Hp) (p : Addr) (L : PLoc) (tas : List Addr) (T : List Tk) (st : PSt) (tiles : Nat), vs = [.ref p, .int tiles] ∧ PA K H0 H p L tas T st ∧ GoodT T ∧ Bd T st ∧
  Res K H0 p L tas T (parseRobot T tiles st) Q E retU
theorem sc_parse_robot : FnScope ["self", "tiles", "keyword", "tile", "way"] ["self", "tiles"] (defScope s_Parser_parse_robot) := ⟨rfl, rfl, rfl, by decide +kernel, rfl, by decide +kernel, by decide +kernel⟩
theorem ok_parse_robot (T : ParT K mg) : FnE P w K mg base (L2.CX P w) 6 ("Parser", some "parse_robot") ["self", "tiles"] (spParseRobot K) := by
  obtain ⟨fd, F⟩ := T.parse_robot.d
  obtain ⟨fdF, GF, bF, kF⟩ := ok_found (P := P) (w := w) (base := base) T
  obtain ⟨fdT, GT, bT, kT⟩ := ok_tile_of (P := P) (w := w) (base := base) T
  obtain ⟨fdW, GW, bW, kW⟩ := ok_take_word (P := P) (w := w) (base := base) T
  obtain ⟨fdK, GK, bK, kK⟩ := ok_take_keyword (P := P) (w := w) (base := base) T
  obtain ⟨t1, mMAX⟩ := T.MAX_ROBOTS
  refine ⟨fd, F.ok sc_parse_robot (fun vs H Q E h => ?_) (fun cdv A outer s H vs Q E hr h => ?_), F.bindsN fun _ _ _ _ _ _ us hl => match us, hl with | [_, _], _ => rfl, F.kp⟩
  · obtain ⟨H0, p, L, tas, Ts, st, tiles, rfl, _⟩ := h
    rfl
  · obtain ⟨H0, p, L, tas, Ts, st, tiles, rfl, hP, hG, hB, R⟩ := h
    have hr1 : Room 1 _ := hr.mono (by decide)
    have hr4 : Room 4 _ := hr.mono (by decide)
    refine ⟨_, (pss_cons (ps_set (i := 2) sc_parse_robot.nd rfl (.inl rfl) (pe_meth (pv 0) T.par.c T.take_word.m GW hr4 bW .nil (passes_call (takes_of rfl rfl rfl rfl) (fun _ _ _ _ h => h)) (pa_cons pe_str pa_nil)))
      (C8.pss_cut (ps_if (pt_cmpR op_eq (pe_callB call_len_seq (by rfl) T.l.len boot_len (pa_cons (pe_fld (pv 0) rfl) pa_nil)) (pe_glob (v := .int 3) rfl mMAX ⟨_, rfl⟩) (nomark _))
        (pss_one (ps_expr (pe_meth (pv 0) T.par.c T.found.m GF hr1 bF .nil pass0 (pa_cons pe_str (pa_cons (pv 2) pa_nil))))) pss_nil)
      (pss_cons (ps_set (i := 3) sc_parse_robot.nd rfl (.inl rfl) (pe_meth (pv 0) T.par.c T.tile_of.m GT hr bT .nil (passes_call (takes_of rfl rfl rfl rfl) (fun _ _ _ _ h => h)) (pa_cons (pv 1) pa_nil)))
      (pss_cons (ps_set (i := 4) sc_parse_robot.nd rfl (.inl rfl) (pe_meth (pv 0) T.par.c T.take_keyword.m GK hr4 bK .nil (passes_call (takes_of rfl rfl rfl rfl) (fun _ _ _ _ h => h)) (pa_cons (pe_glob (v := .ref (He.ga K nWays)) rfl T.WAYS rfl) pa_nil)))
      (pss_cons (ps_expr (pe_meth (pv 0) T.par.c T.take_word.m GW hr4 bW .nil (passes_call (takes_of rfl rfl rfl rfl) (fun _ _ _ _ h => h)) (pa_cons pe_str pa_nil)))
      (pss_one (ps_expr (pe_bm PySem.F.plainAttrs_list PySem.F.slot_list_append PySem.F.type_list_append mt_append (pe_fld (pv 0) rfl)
        (pa_cons (pe_tup (pa_cons (pv 3) (pa_cons (pe_cmpR op_eq (pe_fld (pv 4) rfl) pe_str (nomark _)) pa_nil))) pa_nil))))))))), ?_⟩
    obtain ⟨dx, ob⟩ := hP.ob
    refine ⟨_, rfl, p, dx, _, rfl, ob, lp_no_take_word, H0, p, L, tas, Ts, st, wRobot, by rw [e_robot]; rfl, hP, hB.at_, ⟨fun kw s1 h1 v H1 hv hP1 => ?_, fun l c he => R.er l c (by simp only [parseRobot, he])⟩⟩
    obtain ⟨a1, rfl, hta1⟩ := hv
    obtain ⟨B1, f1, e1⟩ := bd_word hG hB h1 (by decide)
    have hlen := hG.len
    have hat := B1.at_
    have hB1f := B1.fa
    obtain ⟨ras, hra, hras⟩ := hP1.ro
    obtain ⟨dx1, ob1⟩ := hP1.ob
    have B2 : Bd Ts (if s1.robots.length = 3 then s1.found rRobots kw else s1) := by
      split
      · exact B1.found (by omega)
      · exact B1
    refine ⟨fun σ' H' => σ' = [some (.ref p), some (.int tiles), some (.ref a1), none, none] ∧ PA K H0 H' p L tas Ts (if s1.robots.length = 3 then s1.found rRobots kw else s1), ?_, ?_⟩
    · refine ⟨_, rfl, p, _, dx1, _, _, rfl, ob1, T.par.c, T.par.n _ (by simp), lp_robots, L.rl, _, rfl, .inl (SqL.of hra), rfl, _, rfl, ?_⟩
      rw [List.length_map, hras.length]
      refine ite2 (fun h => ?_) (fun h => ?_)
      · have h : s1.robots.length = 3 := Int.ofNat_inj.mp (V.int.inj (of_decide_eq_true h))
        refine ⟨_, rfl, p, dx1, _, rfl, ob1, lp_no_found, _, rfl, H0, p, L, tas, Ts, s1, rRobots, a1, kw, by rw [e_robots]; rfl, hP1, hta1, by omega, fun H2 hP2 => ⟨rfl, ?_⟩⟩
        rw [if_pos h]
        exact hP2
      · have h : ¬ s1.robots.length = 3 := fun q => h (decide_eq_true (by rw [q]; rfl))
        refine ⟨rfl, ?_⟩
        rw [if_neg h]
        exact hP1
    · rintro σ' H2 ⟨rfl, hP2⟩
      generalize hs2 : (if s1.robots.length = 3 then s1.found rRobots kw else s1) = s2 at *
      obtain ⟨dx2, ob2⟩ := hP2.ob
      have B2f := B2.fa
      have B2a := B2.at_
      refine ⟨_, rfl, p, dx2, _, rfl, ob2, lp_no_tile_of, _, rfl, H0, p, L, tas, Ts, s2, tiles, rfl, hP2, hG, B2.at_, by omega, ⟨fun n s3 h3 v H3 hv hP3 => ?_, fun l c he => R.er l c (by simp only [parseRobot, h1, hs2, he])⟩⟩
      obtain rfl : v = .int n := hv
      obtain ⟨B3, f3, a3, r3, _⟩ := bd_tile hG B2 h3
      obtain ⟨dx3, ob3⟩ := hP3.ob
      refine ⟨_, rfl, p, dx3, _, rfl, ob3, lp_no_take_keyword, H0, p, L, tas, Ts, s3, He.ga K nWays, ways, rfl, hP3, B3.at_, T.ways H3, ⟨fun wy s4 h4 v H4 hv hP4 => ?_, fun l c he => R.er l c (by simp only [parseRobot, h1, hs2, h3, he])⟩⟩
      obtain ⟨a4, rfl, hta4⟩ := hv
      obtain ⟨B4, f4, e4⟩ := bd_kw hG B3 h4
      obtain ⟨dx4, ob4⟩ := hP4.ob
      refine ⟨_, rfl, p, dx4, _, rfl, ob4, lp_no_take_word, H0, p, L, tas, Ts, s4, wSemi, by rw [e_semi]; rfl, hP4, B4.at_, ⟨fun t5 s5 h5 v H5 hv hP5 => ?_, fun l c he => R.er l c (by simp only [parseRobot, h1, hs2, h3, h4, he])⟩⟩
      clear hv
      obtain ⟨B5, f5, e5⟩ := bd_word hG B4 h5 (by decide)
      obtain ⟨dx5, ob5⟩ := hP5.ob
      obtain ⟨dt, ht⟩ := hP5.get hta4
      obtain ⟨ras5, hra5, hras5⟩ := hP5.ro
      have B5r := B5.ro
      have B5a := B5.at_
      refine ⟨_, rfl, p, _, dx5, _, _, rfl, ob5, T.par.c, T.par.n _ (by simp), lp_robots, .inl ⟨rfl, _, SqL.of hra5⟩, _, rfl, _, rfl, a4, _, dt, _, _, rfl, ht, T.l.tok.c, T.l.tok.n _ (by simp), lk_text, rfl, (by show 2 ≤ sizeLine; decide), fun tu ntu => ?_⟩
      have nrl : L.rl ≠ tu := ne_of_none hra5 ntu
      have ed : decide (V.str (sx wy.text) = V.str "right") = decide (wy.text = wRight) := by
        rw [e_right, Bool.eq_iff_iff, decide_eq_true_iff, decide_eq_true_iff]
        exact ⟨fun q => sx_inj (V.str.inj q), fun q => by rw [q]⟩
      rw [ed]
      refine ⟨L.rl, _, _, rfl, rfl, by rw [upd_ne nrl]; exact hra5, by rw [List.length_map, hras5.length, sizeLine_eq]; omega, ?_⟩
      have sm := sameUpd (o := .tup [.int n, .bl (decide (wy.text = wRight))]) (Same.refl H5) ntu
      have hP6 := hP5.mono sm
      have em : (ras5.map V.ref ++ [V.ref tu]) = (ras5 ++ [tu]).map V.ref := by rw [List.map_append]; rfl
      rw [em]
      have hP7 := hP6.set_rl (ras := ras5 ++ [tu]) (rs := s5.robots ++ [(n, decide (wy.text = wRight))]) (sm _ _ hra5) (Paired_snoc (Paired.mapP hras5 fun a r q => keepT (sm _ _ hra5) (fun xs q => by cases q) _ _ (sm _ _ q)) (by
        show (upd _ L.rl _) tu = _
        rw [upd_ne (Ne.symm nrl), upd_same]))
      exact R.ok () _ (by simp only [parseRobot, h1, hs2, h3, h4, h5]) _ _ rfl hP7
end
end Sw

end

section
set_option maxRecDepth 100000
set_option maxHeartbeats 4000000
/-! parse_put, parse_rule -/
namespace Sw
open PySem PySem.Spec PyProof.Rows L2 SwA
section
variable {P : Program} {w : World} {K : PySem.W.Frag} {mg : Str → Option Value} {base : Heap}
def spParsePut (K : PySem.W.Frag) : Sp := fun vs H Q E => ∃ (H0 : Hp) (p : Addr) (L : PLoc) (tas : List Addr) (T : List Tk) (st : PSt) (tiles : Nat), vs = [.ref p, .int tiles] ∧ PA K H0 H p L tas T st ∧ GoodT T ∧ Bd T st ∧
  Res K H0 p L tas T (parsePut T tiles st) Q E retU
theorem sc_parse_put : FnScope ["self", "tiles", "sign", "token", "tile"] ["self", "tiles"] (defScope s_Parser_parse_put) := ⟨rfl, rfl, rfl, by decide +kernel, rfl, by decide +kernel, by decide +kernel⟩
theorem ok_parse_put (T : ParT K mg) : FnE P w K mg base (L2.CX P w) 6 ("Parser", some "parse_put") ["self", "tiles"] (spParsePut K) := by
  obtain ⟨fd, F⟩ := T.parse_put.d
  obtain ⟨fdP, GP, bP, kP⟩ := ok_peek (P := P) (w := w) (base := base) T
  obtain ⟨fdF, GF, bF, kF⟩ := ok_found (P := P) (w := w) (base := base) T
  obtain ⟨fdN, GN, bN, kN⟩ := ok_number_of (P := P) (w := w) (base := base) T
  obtain ⟨fdA, GA, bA, kA⟩ := ok_take (P := P) (w := w) (base := base) T
  obtain ⟨fdT, GT, bT, kT⟩ := ok_tile_of (P := P) (w := w) (base := base) T
  obtain ⟨fdW, GW, bW, kW⟩ := ok_take_word (P := P) (w := w) (base := base) T
  obtain ⟨t1, mNAME⟩ := T.l.NAME
  refine ⟨fd, F.ok sc_parse_put (fun vs H Q E h => ?_) (fun cdv A outer s H vs Q E hr h => ?_), F.bindsN fun _ _ _ _ _ _ us hl => match us, hl with | [_, _], _ => rfl, F.kp⟩
  · obtain ⟨H0, p, L, tas, Ts, st, tiles, rfl, _⟩ := h
    rfl
  · obtain ⟨H0, p, L, tas, Ts, st, tiles, rfl, hP, hG, hB, R⟩ := h
    have hr1 : Room 1 _ := hr.mono (by decide)
    have hr2 : Room 2 _ := hr.mono (by decide)
    have hr4 : Room 4 _ := hr.mono (by decide)
    have hu := hu_of hr
    refine ⟨_, (pss_cons (ps_expr (pe_meth (pv 0) T.par.c T.take_word.m GW hr4 bW .nil (passes_call (takes_of rfl rfl rfl rfl) (fun _ _ _ _ h => h)) (pa_cons pe_str pa_nil)))
      (pss_cons (ps_set (i := 2) sc_parse_put.nd rfl (.inl rfl) (pe_meth (pv 0) T.par.c T.number_of.m GN hr2 bN .nil pass0 (pa_cons (pe_fld (pv 0) rfl)
        (pa_cons (pe_meth (pv 0) T.par.c T.take.m GA hr4 bA .nil (passes_call (takes_of rfl rfl rfl rfl) (fun _ _ _ _ h => h)) (pa_cons (pe_glob (v := .str "name") rfl mNAME ⟨_, rfl⟩) pa_nil)) pa_nil))))
      (pss_cons (ps_set (i := 3) sc_parse_put.nd rfl (.inl rfl) (pe_meth0 (pv 0) T.par.c T.peek.m GP hr1 bP .nil pass0))
      (pss_cons (ps_set (i := 4) sc_parse_put.nd rfl (.inl rfl) (pe_meth (pv 0) T.par.c T.tile_of.m GT hr bT .nil (passes_call (takes_of rfl rfl rfl rfl) (fun _ _ _ _ h => h)) (pa_cons (pv 1) pa_nil)))
      (pss_cons (ps_expr (pe_meth (pv 0) T.par.c T.take_word.m GW hr4 bW .nil (passes_call (takes_of rfl rfl rfl rfl) (fun _ _ _ _ h => h)) (pa_cons pe_str pa_nil)))
      (C8.pss_cut (ps_if (pt_cmp (pc_din hu (pv 4) (pe_fld (pv 0) rfl)))
        (pss_one (ps_expr (pe_meth (pv 0) T.par.c T.found.m GF hr1 bF .nil pass0 (pa_cons pe_str (pa_cons (pv 3) pa_nil))))) pss_nil)
      (pss_one (ps_dput hu (pe_fld (pv 0) rfl) (pv 4) (pv 2) rfl)))))))), ?_⟩
    obtain ⟨dx, ob⟩ := hP.ob
    have hlen := hG.len
    refine ⟨_, rfl, p, dx, _, rfl, ob, lp_no_take_word, H0, p, L, tas, Ts, st, wPut, by rw [e_put]; rfl, hP, hB.at_, ⟨fun kw s1 h1 v H1 hv hP1 => ?_, fun l c he => R.er l c (by simp only [parsePut, he])⟩⟩
    clear hv
    obtain ⟨B1, f1, e1⟩ := bd_word hG hB h1 (by decide)
    obtain ⟨dx1, ob1⟩ := hP1.ob
    have B1a := B1.at_
    refine ⟨_, rfl, p, dx1, _, rfl, ob1, lp_no_number_of, _, rfl, p, _, dx1, _, _, rfl, ob1, T.par.c, T.par.n _ (by simp), lp_signs, _, rfl, p, dx1, _, rfl, ob1, lp_no_take, H0, p, L, tas, Ts, s1, .name, rfl, hP1, B1.at_,
      ⟨fun nm s2 h2 v H2 hv hP2 => ?_, fun l c he => R.er l c (by simp only [parsePut, h1, he])⟩⟩
    obtain ⟨a2, rfl, hta2⟩ := hv
    obtain ⟨B2, f2, e2, _⟩ := bd_take hG B1 h2 (by decide)
    have B2f := B2.fa
    have B2a := B2.at_
    refine ⟨H0, p, L, tas, Ts, s2, false, a2, nm, rfl, hP2, hta2, by omega, fun H3 hP3 => ?_⟩
    have en : (s2.names false) = s2.signs := rfl
    rw [en] at hP3
    rw [en]
    obtain ⟨B3, a3, f3⟩ := bd_number B2 (names := s2.signs) (t := nm) (by omega)
    generalize hs3 : (numberOf s2.signs nm s2).2 = s3 at *
    generalize hn3 : (numberOf s2.signs nm s2).1 = n3 at *
    obtain ⟨dx3, ob3⟩ := hP3.ob
    refine ⟨_, rfl, p, dx3, _, rfl, ob3, lp_no_peek, H0, p, L, tas, Ts, s3, rfl, hP3, B3.at_, fun a4 hta4 => ?_⟩
    have B3f := B3.fa
    have B3a := B3.at_
    refine ⟨_, rfl, p, dx3, _, rfl, ob3, lp_no_tile_of, _, rfl, H0, p, L, tas, Ts, s3, tiles, rfl, hP3, hG, B3.at_, by omega, ⟨fun n s5 h5 v H5 hv hP5 => ?_, fun l c he => R.er l c (by simp only [parsePut, h1, h2, hs3, he])⟩⟩
    obtain rfl : v = .int n := hv
    obtain ⟨B5, f5, a5, r5, sp5⟩ := bd_tile hG B3 h5
    obtain ⟨dx5, ob5⟩ := hP5.ob
    refine ⟨_, rfl, p, dx5, _, rfl, ob5, lp_no_take_word, H0, p, L, tas, Ts, s5, wSemi, by rw [e_semi]; rfl, hP5, B5.at_, ⟨fun t6 s6 h6 v H6 hv hP6 => ?_, fun l c he => R.er l c (by simp only [parsePut, h1, h2, hs3, h5, he])⟩⟩
    clear hv
    obtain ⟨B6, f6, e6⟩ := bd_word hG B5 h6 (by decide)
    obtain ⟨dx6, ob6⟩ := hP6.ob
    have B6f := B6.fa
    have B6a := B6.at_
    have hfin : parsePut Ts tiles st = .ok ((), { (if (s6.spots.any fun kv => decide (kv.1 = n)) = true then s6.found rAgain (peek Ts s3) else s6) with
        spots := putA (if (s6.spots.any fun kv => decide (kv.1 = n)) = true then s6.found rAgain (peek Ts s3) else s6).spots n n3 }) := by
      simp only [parsePut, h1, h2, hs3, h5, h6, hn3]
    refine ⟨fun σ' H' => σ' = [some (.ref p), some (.int tiles), some (.int n3), some (.ref a4), some (.int n)] ∧ PA K H0 H' p L tas Ts (if (s6.spots.any fun kv => decide (kv.1 = n)) = true then s6.found rAgain (peek Ts s3) else s6), ?_, ?_⟩
    · refine ⟨_, rfl, _, rfl, p, _, dx6, _, _, rfl, ob6, T.par.c, T.par.n _ (by simp), lp_spots, L.sd, _, rfl, DGet.k (k := Sum.inl (n : Int)) hP6.sp, _, rfl, ?_⟩
      rw [spots_any]
      refine ite2 (fun h => ?_) (fun h => ?_)
      · refine ⟨_, rfl, p, dx6, _, rfl, ob6, lp_no_found, _, rfl, H0, p, L, tas, Ts, s6, rAgain, a4, _, by rw [e_again]; rfl, hP6, hta4, by omega, fun H7 hP7 => ⟨rfl, ?_⟩⟩
        rw [if_pos h]
        exact hP7
      · refine ⟨rfl, ?_⟩
        rw [if_neg h]
        exact hP6
    · rintro σ' H7 ⟨rfl, hP7⟩
      have hsp : (if (s6.spots.any fun kv => decide (kv.1 = n)) = true then s6.found rAgain (peek Ts s3) else s6).spots = s6.spots := by split <;> rfl
      generalize hs7 : (if (s6.spots.any fun kv => decide (kv.1 = n)) = true then s6.found rAgain (peek Ts s3) else s6) = s7 at *
      obtain ⟨dx7, ob7⟩ := hP7.ob
      have B6s := B6.sp
      refine ⟨_, rfl, _, rfl, p, _, dx7, _, _, rfl, ob7, T.par.c, T.par.n _ (by simp), lp_spots, _, rfl, L.sd, _, rfl, DPut.k (k := Sum.inl (n : Int)) hP7.sp (by rw [List.length_map, hsp, sizeLine_eq]; omega), ?_⟩
      rw [spots_put]
      exact R.ok () _ hfin _ _ rfl (hP7.set_sd hP7.sp trivial)
def spParseRule (K : PySem.W.Frag) : Sp := fun vs H Q E => ∃ (H0 : Hp) (p : Addr) (L : PLoc) (tas : List Addr) (T : List Tk) (st : PSt), vs = [.ref p] ∧ PA K H0 H p L tas T st ∧ GoodT T ∧ Bd T st ∧
  Res K H0 p L tas T (parseRule T st) Q E retU
theorem sc_parse_rule : FnScope ["self", "keyword", "first", "mood", "second", "sign", "left", "move", "later"] ["self"] (defScope s_Parser_parse_rule) := ⟨rfl, rfl, rfl, by decide +kernel, rfl, by decide +kernel, by decide +kernel⟩
theorem ok_parse_rule (T : ParT K mg) : FnE P w K mg base (L2.CX P w) 6 ("Parser", some "parse_rule") ["self"] (spParseRule K) := by
  obtain ⟨fd, F⟩ := T.parse_rule.d
  obtain ⟨fdF, GF, bF, kF⟩ := ok_found (P := P) (w := w) (base := base) T
  obtain ⟨fdN, GN, bN, kN⟩ := ok_number_of (P := P) (w := w) (base := base) T
  obtain ⟨fdA, GA, bA, kA⟩ := ok_take (P := P) (w := w) (base := base) T
  obtain ⟨fdW, GW, bW, kW⟩ := ok_take_word (P := P) (w := w) (base := base) T
  obtain ⟨fdK, GK, bK, kK⟩ := ok_take_keyword (P := P) (w := w) (base := base) T
  obtain ⟨t1, mNAME⟩ := T.l.NAME
  refine ⟨fd, F.ok sc_parse_rule (fun vs H Q E h => ?_) (fun cdv A outer s H vs Q E hr h => ?_), F.bindsN fun _ _ _ _ _ _ us hl => match us, hl with | [_], _ => rfl, F.kp⟩
  · obtain ⟨H0, p, L, tas, Ts, st, rfl, _⟩ := h
    rfl
  · obtain ⟨H0, p, L, tas, Ts, st, rfl, hP, hG, hB, R⟩ := h
    have hr1 : Room 1 _ := hr.mono (by decide)
    have hr2 : Room 2 _ := hr.mono (by decide)
    have hr4 : Room 4 _ := hr.mono (by decide)
    have hu := hu_of hr
    refine ⟨_, (pss_cons (ps_set (i := 1) sc_parse_rule.nd rfl (.inl rfl) (pe_meth (pv 0) T.par.c T.take_word.m GW hr4 bW .nil (passes_call (takes_of rfl rfl rfl rfl) (fun _ _ _ _ h => h)) (pa_cons pe_str pa_nil)))
      (pss_cons (ps_set (i := 2) sc_parse_rule.nd rfl (.inl rfl) (pe_meth (pv 0) T.par.c T.take.m GA hr4 bA .nil (passes_call (takes_of rfl rfl rfl rfl) (fun _ _ _ _ h => h)) (pa_cons (pe_glob (v := .str "name") rfl mNAME ⟨_, rfl⟩) pa_nil)))
      (pss_cons (ps_set (i := 3) sc_parse_rule.nd rfl (.inl rfl) (pe_meth (pv 0) T.par.c T.number_of.m GN hr2 bN .nil pass0 (pa_cons (pe_fld (pv 0) rfl) (pa_cons (pv 2) pa_nil))))
      (pss_cons (ps_set (i := 4) sc_parse_rule.nd rfl (.inl rfl) (pe_meth (pv 0) T.par.c T.take.m GA hr4 bA .nil (passes_call (takes_of rfl rfl rfl rfl) (fun _ _ _ _ h => h)) (pa_cons (pe_glob (v := .str "name") rfl mNAME ⟨_, rfl⟩) pa_nil)))
      (pss_cons (ps_set (i := 5) sc_parse_rule.nd rfl (.inl rfl) (pe_meth (pv 0) T.par.c T.number_of.m GN hr2 bN .nil pass0 (pa_cons (pe_fld (pv 0) rfl) (pa_cons (pv 4) pa_nil))))
      (pss_cons (ps_expr (pe_meth (pv 0) T.par.c T.take_word.m GW hr4 bW .nil (passes_call (takes_of rfl rfl rfl rfl) (fun _ _ _ _ h => h)) (pa_cons pe_str pa_nil)))
      (pss_cons (ps_set (i := 6) sc_parse_rule.nd rfl (.inl rfl) (pe_meth (pv 0) T.par.c T.number_of.m GN hr2 bN .nil pass0 (pa_cons (pe_fld (pv 0) rfl)
        (pa_cons (pe_meth (pv 0) T.par.c T.take.m GA hr4 bA .nil (passes_call (takes_of rfl rfl rfl rfl) (fun _ _ _ _ h => h)) (pa_cons (pe_glob (v := .str "name") rfl mNAME ⟨_, rfl⟩) pa_nil)) pa_nil))))
      (pss_cons (ps_set (i := 7) sc_parse_rule.nd rfl (.inl rfl) (pe_meth (pv 0) T.par.c T.take_keyword.m GK hr4 bK .nil (passes_call (takes_of rfl rfl rfl rfl) (fun _ _ _ _ h => h)) (pa_cons (pe_glob (v := .ref (He.ga K "MOVES")) rfl T.MOVES rfl) pa_nil)))
      (pss_cons (ps_set (i := 8) sc_parse_rule.nd rfl (.inl rfl) (pe_meth (pv 0) T.par.c T.number_of.m GN hr2 bN .nil pass0 (pa_cons (pe_fld (pv 0) rfl)
        (pa_cons (pe_meth (pv 0) T.par.c T.take.m GA hr4 bA .nil (passes_call (takes_of rfl rfl rfl rfl) (fun _ _ _ _ h => h)) (pa_cons (pe_glob (v := .str "name") rfl mNAME ⟨_, rfl⟩) pa_nil)) pa_nil))))
      (pss_cons (ps_expr (pe_meth (pv 0) T.par.c T.take_word.m GW hr4 bW .nil (passes_call (takes_of rfl rfl rfl rfl) (fun _ _ _ _ h => h)) (pa_cons pe_str pa_nil)))
      (C8.pss_cut (ps_if (pt_cmp (pc_din hu (pe_tup (pa_cons (pe_fld (pv 2) rfl) (pa_cons (pe_fld (pv 4) rfl) pa_nil))) (pe_fld (pv 0) rfl)))
        (pss_one (ps_expr (pe_meth (pv 0) T.par.c T.found.m GF hr1 bF .nil pass0 (pa_cons pe_str (pa_cons (pv 1) pa_nil))))) pss_nil)
      (pss_cons (ps_dput hu (pe_fld (pv 0) rfl) (pe_tup (pa_cons (pe_fld (pv 2) rfl) (pa_cons (pe_fld (pv 4) rfl) pa_nil))) pe_bl rfl)
      (pss_one (ps_dput hu (pe_fld (pv 0) rfl) (pe_tup (pa_cons (pv 3) (pa_cons (pv 5) pa_nil))) (pe_tup (pa_cons (pv 6) (pa_cons (pe_fld (pv 7) rfl) (pa_cons (pv 8) pa_nil)))) rfl)))))))))))))), ?_⟩
    obtain ⟨dx, ob⟩ := hP.ob
    have hlen := hG.len
    refine ⟨_, rfl, p, dx, _, rfl, ob, lp_no_take_word, H0, p, L, tas, Ts, st, wWhen, by rw [e_when]; rfl, hP, hB.at_, ⟨fun kw s1 h1 v H1 hv hP1 => ?_, fun l c he => R.er l c (by simp only [parseRule, he])⟩⟩
    obtain ⟨akw, rfl, htakw⟩ := hv
    obtain ⟨B1, f1, e1⟩ := bd_word hG hB h1 (by decide)
    obtain ⟨dx1, ob1⟩ := hP1.ob
    refine ⟨_, rfl, p, dx1, _, rfl, ob1, lp_no_take, H0, p, L, tas, Ts, s1, .name, rfl, hP1, B1.at_, ⟨fun first s2 h2 v H2 hv hP2 => ?_, fun l c he => R.er l c (by simp only [parseRule, h1, he])⟩⟩
    obtain ⟨af, rfl, htaf⟩ := hv
    obtain ⟨B2, f2, e2, _⟩ := bd_take hG B1 h2 (by decide)
    obtain ⟨dx2, ob2⟩ := hP2.ob
    have B2f := B2.fa
    have B2a := B2.at_
    refine ⟨_, rfl, p, dx2, _, rfl, ob2, lp_no_number_of, _, rfl, p, _, dx2, _, _, rfl, ob2, T.par.c, T.par.n _ (by simp), lp_moods, _, rfl, H0, p, L, tas, Ts, s2, true, af, first, rfl, hP2, htaf, by omega, fun H3 hP3 => ?_⟩
    have en2 : (s2.names true) = s2.moods := rfl
    rw [en2] at hP3
    rw [en2]
    obtain ⟨B3, a3, f3⟩ := bd_number B2 (names := s2.moods) (t := first) (by omega)
    generalize hs3 : (numberOf s2.moods first s2).2 = s3 at *
    generalize hmood : (numberOf s2.moods first s2).1 = mood at *
    obtain ⟨dx3, ob3⟩ := hP3.ob
    refine ⟨_, rfl, p, dx3, _, rfl, ob3, lp_no_take, H0, p, L, tas, Ts, s3, .name, rfl, hP3, B3.at_, ⟨fun second s4 h4 v H4 hv hP4 => ?_, fun l c he => R.er l c (by simp only [parseRule, h1, h2, hs3, he])⟩⟩
    obtain ⟨as, rfl, htas⟩ := hv
    obtain ⟨B4, f4, e4, _⟩ := bd_take hG B3 h4 (by decide)
    obtain ⟨dx4, ob4⟩ := hP4.ob
    have B4f := B4.fa
    have B4a := B4.at_
    refine ⟨_, rfl, p, dx4, _, rfl, ob4, lp_no_number_of, _, rfl, p, _, dx4, _, _, rfl, ob4, T.par.c, T.par.n _ (by simp), lp_signs, _, rfl, H0, p, L, tas, Ts, s4, false, as, second, rfl, hP4, htas, by omega, fun H5 hP5 => ?_⟩
    have en4 : (s4.names false) = s4.signs := rfl
    rw [en4] at hP5
    rw [en4]
    obtain ⟨B5, a5, f5⟩ := bd_number B4 (names := s4.signs) (t := second) (by omega)
    generalize hs5 : (numberOf s4.signs second s4).2 = s5 at *
    generalize hsign : (numberOf s4.signs second s4).1 = sign at *
    obtain ⟨dx5, ob5⟩ := hP5.ob
    refine ⟨_, rfl, p, dx5, _, rfl, ob5, lp_no_take_word, H0, p, L, tas, Ts, s5, wLeave, by rw [e_leave]; rfl, hP5, B5.at_, ⟨fun t6 s6 h6 v H6 hv hP6 => ?_, fun l c he => R.er l c (by simp only [parseRule, h1, h2, hs3, h4, hs5, he])⟩⟩
    clear hv
    obtain ⟨B6, f6, e6⟩ := bd_word hG B5 h6 (by decide)
    obtain ⟨dx6, ob6⟩ := hP6.ob
    refine ⟨_, rfl, p, dx6, _, rfl, ob6, lp_no_number_of, _, rfl, p, _, dx6, _, _, rfl, ob6, T.par.c, T.par.n _ (by simp), lp_signs, _, rfl, p, dx6, _, rfl, ob6, lp_no_take, H0, p, L, tas, Ts, s6, .name, rfl, hP6, B6.at_,
      ⟨fun lf s7 h7 v H7 hv hP7 => ?_, fun l c he => R.er l c (by simp only [parseRule, h1, h2, hs3, h4, hs5, h6, he])⟩⟩
    obtain ⟨alf, rfl, htalf⟩ := hv
    obtain ⟨B7, f7, e7, _⟩ := bd_take hG B6 h7 (by decide)
    have B7f := B7.fa
    have B7a := B7.at_
    refine ⟨H0, p, L, tas, Ts, s7, false, alf, lf, rfl, hP7, htalf, by omega, fun H8 hP8 => ?_⟩
    have en7 : (s7.names false) = s7.signs := rfl
    rw [en7] at hP8
    rw [en7]
    obtain ⟨B8, a8, f8⟩ := bd_number B7 (names := s7.signs) (t := lf) (by omega)
    generalize hs8 : (numberOf s7.signs lf s7).2 = s8 at *
    generalize hleft : (numberOf s7.signs lf s7).1 = left at *
    obtain ⟨dx8, ob8⟩ := hP8.ob
    refine ⟨_, rfl, p, dx8, _, rfl, ob8, lp_no_take_keyword, H0, p, L, tas, Ts, s8, He.ga K "MOVES", moves, rfl, hP8, B8.at_, T.moves H8, ⟨fun mv s9 h9 v H9 hv hP9 => ?_, fun l c he => R.er l c (by simp only [parseRule, h1, h2, hs3, h4, hs5, h6, h7, hs8, he])⟩⟩
    obtain ⟨amv, rfl, htamv⟩ := hv
    obtain ⟨B9, f9, e9⟩ := bd_kw hG B8 h9
    obtain ⟨dx9, ob9⟩ := hP9.ob
    refine ⟨_, rfl, p, dx9, _, rfl, ob9, lp_no_number_of, _, rfl, p, _, dx9, _, _, rfl, ob9, T.par.c, T.par.n _ (by simp), lp_moods, _, rfl, p, dx9, _, rfl, ob9, lp_no_take, H0, p, L, tas, Ts, s9, .name, rfl, hP9, B9.at_,
      ⟨fun la s10 h10 v H10 hv hP10 => ?_, fun l c he => R.er l c (by simp only [parseRule, h1, h2, hs3, h4, hs5, h6, h7, hs8, h9, he])⟩⟩
    obtain ⟨ala, rfl, htala⟩ := hv
    obtain ⟨B10, f10, e10, _⟩ := bd_take hG B9 h10 (by decide)
    have B10f := B10.fa
    have B10a := B10.at_
    refine ⟨H0, p, L, tas, Ts, s10, true, ala, la, rfl, hP10, htala, by omega, fun H11 hP11 => ?_⟩
    have en10 : (s10.names true) = s10.moods := rfl
    rw [en10] at hP11
    rw [en10]
    obtain ⟨B11, a11, f11⟩ := bd_number B10 (names := s10.moods) (t := la) (by omega)
    generalize hs11 : (numberOf s10.moods la s10).2 = s11 at *
    generalize hlater : (numberOf s10.moods la s10).1 = later at *
    obtain ⟨dx11, ob11⟩ := hP11.ob
    refine ⟨_, rfl, p, dx11, _, rfl, ob11, lp_no_take_word, H0, p, L, tas, Ts, s11, wSemi, by rw [e_semi]; rfl, hP11, B11.at_, ⟨fun t12 s12 h12 v H12 hv hP12 => ?_, fun l c he => R.er l c (by simp only [parseRule, h1, h2, hs3, h4, hs5, h6, h7, hs8, h9, h10, hs11, he])⟩⟩
    clear hv
    obtain ⟨B12, f12, e12⟩ := bd_word hG B11 h12 (by decide)
    have B12f := B12.fa
    have B12a := B12.at_
    have B12p := B12.pr
    have B12r := B12.ru
    have hfin := fun (r : PR Unit) (e : parseRule Ts st = r) => e
    obtain ⟨dx12, ob12⟩ := hP12.ob
    obtain ⟨dtf, htf⟩ := hP12.get htaf
    obtain ⟨dts, hts⟩ := hP12.get htas
    generalize hz : (if (first.text, second.text) ∈ s12.pairs then s12.found rTwice kw else s12) = z
    have hfin : parseRule Ts st = .ok ((), { ({ z with pairs := if (first.text, second.text) ∈ z.pairs then z.pairs else z.pairs ++ [(first.text, second.text)] } : PSt) with
        rules := putA z.rules (mood, sign) ⟨left, mv.text, later⟩ }) := by
      simp only [parseRule, h1, h2, hs3, h4, hs5, h6, h7, hs8, h9, h10, hs11, h12, hmood, hsign, hleft, hlater, hz]
    have zp : z.pairs = s12.pairs ∧ z.rules = s12.rules := by rw [← hz]; split <;> exact ⟨rfl, rfl⟩
    refine ⟨fun σ' H' => σ' = [some (.ref p), some (.ref akw), some (.ref af), some (.int mood), some (.ref as), some (.int sign), some (.int left), some (.ref amv), some (.int later)] ∧ PA K H0 H' p L tas Ts z, ?_, ?_⟩
    · refine ⟨_, rfl, af, _, dtf, _, _, rfl, htf, T.l.tok.c, T.l.tok.n _ (by simp), lk_text, _, rfl, as, _, dts, _, _, rfl, hts, T.l.tok.c, T.l.tok.n _ (by simp), lk_text, (by show 2 ≤ sizeLine; decide), fun tu ntu => ?_⟩
      have sm := sameUpd (o := .tup [sV first.text, sV second.text]) (Same.refl H12) ntu
      have hP13 := hP12.mono sm
      refine ⟨_, rfl, p, _, dx12, _, _, rfl, sm _ _ ob12, T.par.c, T.par.n _ (by simp), lp_pairs, L.pd, _, rfl, DGet.t (k := (pairK (first.text, second.text)).1) hP13.pr upd_same, _, rfl, ?_⟩
      rw [pairs_some]
      refine ite2 (fun h => ?_) (fun h => ?_)
      · have h := of_decide_eq_true h
        refine ⟨_, rfl, p, dx12, _, rfl, sm _ _ ob12, lp_no_found, _, rfl, H0, p, L, tas, Ts, s12, rTwice, akw, kw, by rw [e_twice]; rfl, hP13, htakw, by omega, fun H14 hP14 => ⟨rfl, ?_⟩⟩
        rw [← hz, if_pos h]
        exact hP14
      · have h : ¬ (first.text, second.text) ∈ s12.pairs := fun q => h (decide_eq_true q)
        refine ⟨rfl, ?_⟩
        rw [← hz, if_neg h]
        exact hP13
    · rintro σ' H13 ⟨rfl, hP13⟩
      obtain ⟨dx13, ob13⟩ := hP13.ob
      obtain ⟨dtf, htf⟩ := hP13.get htaf
      obtain ⟨dts, hts⟩ := hP13.get htas
      refine ⟨_, rfl, p, _, dx13, _, _, rfl, ob13, T.par.c, T.par.n _ (by simp), lp_pairs, _, rfl, af, _, dtf, _, _, rfl, htf, T.l.tok.c, T.l.tok.n _ (by simp), lk_text, _, rfl, as, _, dts, _, _, rfl, hts, T.l.tok.c, T.l.tok.n _ (by simp), lk_text, (by show 2 ≤ sizeLine; decide), fun tu ntu => ?_⟩
      have sm := sameUpd (o := .tup [sV first.text, sV second.text]) (Same.refl H13) ntu
      have hP14 := hP13.mono sm
      refine ⟨L.pd, _, rfl, DPut.t (k := (pairK (first.text, second.text)).1) hP14.pr upd_same (by rw [List.length_map, zp.1, sizeLine_eq]; omega), ?_⟩
      rw [pairs_put]
      have hP15 := hP14.set_pd (ps := if (first.text, second.text) ∈ z.pairs then z.pairs else z.pairs ++ [(first.text, second.text)]) hP14.pr trivial
      generalize hH15 : upd (upd H13 tu (.tup [sV first.text, sV second.text])) L.pd (.dT ((if (first.text, second.text) ∈ z.pairs then z.pairs else z.pairs ++ [(first.text, second.text)]).map pairK)) = H15 at *
      obtain ⟨dx15, ob15⟩ := hP15.ob
      obtain ⟨dtm, htm⟩ := hP15.get htamv
      refine ⟨_, rfl, _, rfl, amv, _, dtm, _, _, rfl, htm, T.l.tok.c, T.l.tok.n _ (by simp), lk_text, _, rfl, (by show 3 ≤ sizeLine; decide), fun tv ntv => ?_⟩
      have sm2 := sameUpd (o := .tup [.int left, sV mv.text, .int later]) (Same.refl H15) ntv
      refine ⟨_, rfl, p, _, dx15, _, _, rfl, sm2 _ _ ob15, T.par.c, T.par.n _ (by simp), lp_rules, _, rfl, _, rfl, (by show 2 ≤ sizeLine; decide), fun tk ntk => ?_⟩
      have sm3 := sm2.trans (sameUpd (o := .tup [.int mood, .int sign]) (Same.refl _) ntk)
      have hP16 := hP15.mono sm3
      obtain ⟨kvs, hkv, hkvs⟩ := hP16.ru
      have htv : (upd (upd H15 tv (.tup [.int left, sV mv.text, .int later])) tk (.tup [.int mood, .int sign])) tv = some (.tup [.int left, sV mv.text, .int later]) := by
        rw [upd_ne (ne_of_none upd_same ntk), upd_same]
      have hkl : z.rules.length = kvs.length := hkvs.length
      refine ⟨L.rd, _, rfl, DPut.t (k := keyT (mood, sign)) hkv upd_same (by rw [← hkl, zp.2, sizeLine_eq]; omega), ?_⟩
      refine R.ok () _ hfin _ _ rfl (hP16.set_rd hkv ?_)
      have z1 := rules_put (k := (mood, sign)) (r := ⟨left, mv.text, later⟩) htv hkvs
      exact Paired.mapP z1 fun r kv q => q.mono (keepT hkv fun xs q => by cases q)
end
end Sw

end

section
set_option maxRecDepth 100000
set_option maxHeartbeats 4000000
/-! Parser.__init__ -/
namespace Sw
open PySem PySem.Spec PyProof.Rows L2 SwA
theorem put_par (L : PLoc) : putF "spots" (.ref L.sd) (putF "pairs" (.ref L.pd) (putF "rules" (.ref L.rd) (putF "robots" (.ref L.rl) (putF "moods" (.ref L.ml) (putF "signs" (.ref L.sl) (putF "faults" (.ref L.fl) (putF "at" (.int 0) (putF "tokens" (.ref L.tl) [])))))))) = parF L 0 := by kernel_rfl
section
variable {P : Program} {w : World} {K : PySem.W.Frag} {mg : Str → Option Value} {base : Heap}
def spParInit (K : PySem.W.Frag) : Sp := fun vs H Q _ => ∃ (H0 : Hp) (p dx tl : Addr) (tas : List Addr) (T : List Tk), vs = [.ref p, .ref tl] ∧ H p = some (.ins (He.ga K "Parser") dx []) ∧ H tl = some (.lst (tas.map V.ref)) ∧ TksAt K H tas T ∧
  Same H0 H ∧ H0 p = none ∧ H0 tl = none ∧ ∀ (L : PLoc) (H' : Hp), PA K H0 H' p L tas T st0 → Q .non H'
theorem sc_par_init : FnScope ["self", "tokens"] ["self", "tokens"] (defScope s_Parser_init) := ⟨rfl, rfl, rfl, by decide +kernel, rfl, by decide +kernel, by decide +kernel⟩
theorem ok_par_init (T : ParT K mg) : FnE P w K mg base CX0 1 ("Parser", some "__init__") ["self", "tokens"] (spParInit K) := by
  obtain ⟨fd, F⟩ := T.init
  refine ⟨fd, F.ok sc_par_init (fun vs H Q E h => ?_) (fun cdv A outer s H vs Q E hr h => ?_), F.bindsN fun _ _ _ _ _ _ us hl => match us, hl with | [_, _], _ => rfl, F.kp⟩
  · obtain ⟨H0, p, dx, tl, tas, Ts, rfl, _⟩ := h
    rfl
  · obtain ⟨H0, p, dx, tl, tas, Ts, rfl, hp, htl, htk, sm, n0p, n0t, k⟩ := h
    refine ⟨_, PSs.nox (pss_cons (ps_fld (pv 0) (pv 1) rfl) (pss_cons (ps_fld (pv 0) pe_int rfl) (pss_cons (ps_fld (pv 0) (pe_lst pa_nil) rfl) (pss_cons (ps_fld (pv 0) (pe_lst pa_nil) rfl) (pss_cons (ps_fld (pv 0) (pe_lst pa_nil) rfl)
      (pss_cons (ps_fld (pv 0) (pe_lst pa_nil) rfl) (pss_cons (ps_fld (pv 0) pe_dnewT rfl) (pss_cons (ps_fld (pv 0) pe_dnewT rfl) (pss_one (ps_fld (pv 0) pe_dnewK rfl)))))))))), ?_⟩
    have kk0 : ∀ (Hc : Hp) (fs fs' : List (Str × V)), Hc p = some (.ins (He.ga K "Parser") dx fs) → TksAt K Hc tas Ts → TksAt K (upd Hc p (.ins (He.ga K "Parser") dx fs')) tas Ts := fun Hc fs fs' e h => Paired.mapP h fun a t q => keepK (K := K) e (fun C d gs z => by cases z; exact T.ne) a t q
    have ptl : tl ≠ p := ne_of htl hp (by intro z; cases z)
    refine ⟨_, rfl, _, rfl, p, _, dx, _, rfl, hp, T.par.c, T.par.n _ (by simp), lnZ ln0, ?_⟩
    refine ⟨_, rfl, p, _, dx, _, rfl, upd_same, T.par.c, T.par.n _ (by simp), lnZ (lnS ln0), ?_⟩
    rw [upd_upd]
    have at_p := @upd_same H p (.ins (He.ga K "Parser") dx (putF "at" (.int 0) (putF "tokens" (.ref tl) [])))
    have at_tl : (upd H p (.ins (He.ga K "Parser") dx (putF "at" (.int 0) (putF "tokens" (.ref tl) [])))) tl = some (.lst (tas.map V.ref)) := by rw [upd_ne ptl]; exact htl
    have tks := kk0 H _ (putF "at" (.int 0) (putF "tokens" (.ref tl) [])) hp htk
    have sm1 : Same H0 (upd H p (.ins (He.ga K "Parser") dx (putF "at" (.int 0) (putF "tokens" (.ref tl) [])))) := sameUpd sm n0p
    generalize upd H p (.ins (He.ga K "Parser") dx (putF "at" (.int 0) (putF "tokens" (.ref tl) []))) = H2 at *
    refine ⟨(by show 0 ≤ sizeLine; decide), fun fl n_fl => ?_⟩
    have n0_fl : H0 fl = none := sm1.free n_fl
    have p_fl : p ≠ fl := ne_of_none at_p n_fl
    have tl_fl : tl ≠ fl := ne_of_none at_tl n_fl
    refine ⟨_, rfl, p, _, dx, _, rfl, (upd_ne p_fl).trans at_p, T.par.c, T.par.n _ (by simp), lnZ (lnS (lnS ln0)), ?_⟩
    replace tks := kk0 _ _ (putF "faults" (.ref fl) (putF "at" (.int 0) (putF "tokens" (.ref tl) []))) ((upd_ne (o := .lst []) p_fl).trans at_p) (tks.same (sameUpd (o := .lst []) (Same.refl _) n_fl))
    replace at_p := @upd_same (upd H2 fl (.lst [])) p (.ins (He.ga K "Parser") dx (putF "faults" (.ref fl) (putF "at" (.int 0) (putF "tokens" (.ref tl) []))))
    replace at_tl := ((upd_ne (H := upd H2 fl (.lst [])) (o := .ins (He.ga K "Parser") dx (putF "faults" (.ref fl) (putF "at" (.int 0) (putF "tokens" (.ref tl) [])))) ptl).trans (upd_ne (o := .lst []) tl_fl)).trans at_tl
    have at_fl : (upd (upd H2 fl (.lst [])) p (.ins (He.ga K "Parser") dx (putF "faults" (.ref fl) (putF "at" (.int 0) (putF "tokens" (.ref tl) []))))) fl = some (.lst []) := (upd_ne (Ne.symm p_fl)).trans upd_same
    replace sm1 : Same H0 (upd (upd H2 fl (.lst [])) p (.ins (He.ga K "Parser") dx (putF "faults" (.ref fl) (putF "at" (.int 0) (putF "tokens" (.ref tl) []))))) := sameUpd (sameUpd sm1 n0_fl) n0p
    generalize upd (upd H2 fl (.lst [])) p (.ins (He.ga K "Parser") dx (putF "faults" (.ref fl) (putF "at" (.int 0) (putF "tokens" (.ref tl) [])))) = H3 at *
    refine ⟨(by show 0 ≤ sizeLine; decide), fun sl n_sl => ?_⟩
    have n0_sl : H0 sl = none := sm1.free n_sl
    have p_sl : p ≠ sl := ne_of_none at_p n_sl
    have tl_sl : tl ≠ sl := ne_of_none at_tl n_sl
    have fl_sl : fl ≠ sl := ne_of_none at_fl n_sl
    refine ⟨_, rfl, p, _, dx, _, rfl, (upd_ne p_sl).trans at_p, T.par.c, T.par.n _ (by simp), lnZ (lnS (lnS (lnS ln0))), ?_⟩
    replace tks := kk0 _ _ (putF "signs" (.ref sl) (putF "faults" (.ref fl) (putF "at" (.int 0) (putF "tokens" (.ref tl) [])))) ((upd_ne (o := .lst []) p_sl).trans at_p) (tks.same (sameUpd (o := .lst []) (Same.refl _) n_sl))
    replace at_p := @upd_same (upd H3 sl (.lst [])) p (.ins (He.ga K "Parser") dx (putF "signs" (.ref sl) (putF "faults" (.ref fl) (putF "at" (.int 0) (putF "tokens" (.ref tl) [])))))
    replace at_tl := ((upd_ne (H := upd H3 sl (.lst [])) (o := .ins (He.ga K "Parser") dx (putF "signs" (.ref sl) (putF "faults" (.ref fl) (putF "at" (.int 0) (putF "tokens" (.ref tl) []))))) ptl).trans (upd_ne (o := .lst []) tl_sl)).trans at_tl
    replace at_fl := ((upd_ne (H := upd H3 sl (.lst [])) (o := .ins (He.ga K "Parser") dx (putF "signs" (.ref sl) (putF "faults" (.ref fl) (putF "at" (.int 0) (putF "tokens" (.ref tl) []))))) (Ne.symm p_fl)).trans (upd_ne (o := .lst []) fl_sl)).trans at_fl
    have at_sl : (upd (upd H3 sl (.lst [])) p (.ins (He.ga K "Parser") dx (putF "signs" (.ref sl) (putF "faults" (.ref fl) (putF "at" (.int 0) (putF "tokens" (.ref tl) [])))))) sl = some (.lst []) := (upd_ne (Ne.symm p_sl)).trans upd_same
    replace sm1 : Same H0 (upd (upd H3 sl (.lst [])) p (.ins (He.ga K "Parser") dx (putF "signs" (.ref sl) (putF "faults" (.ref fl) (putF "at" (.int 0) (putF "tokens" (.ref tl) [])))))) := sameUpd (sameUpd sm1 n0_sl) n0p
    generalize upd (upd H3 sl (.lst [])) p (.ins (He.ga K "Parser") dx (putF "signs" (.ref sl) (putF "faults" (.ref fl) (putF "at" (.int 0) (putF "tokens" (.ref tl) []))))) = H4 at *
    refine ⟨(by show 0 ≤ sizeLine; decide), fun ml n_ml => ?_⟩
    have n0_ml : H0 ml = none := sm1.free n_ml
    have p_ml : p ≠ ml := ne_of_none at_p n_ml
    have tl_ml : tl ≠ ml := ne_of_none at_tl n_ml
    have fl_ml : fl ≠ ml := ne_of_none at_fl n_ml
    have sl_ml : sl ≠ ml := ne_of_none at_sl n_ml
    refine ⟨_, rfl, p, _, dx, _, rfl, (upd_ne p_ml).trans at_p, T.par.c, T.par.n _ (by simp), lnZ (lnS (lnS (lnS (lnS ln0)))), ?_⟩
    replace tks := kk0 _ _ (putF "moods" (.ref ml) (putF "signs" (.ref sl) (putF "faults" (.ref fl) (putF "at" (.int 0) (putF "tokens" (.ref tl) []))))) ((upd_ne (o := .lst []) p_ml).trans at_p) (tks.same (sameUpd (o := .lst []) (Same.refl _) n_ml))
    replace at_p := @upd_same (upd H4 ml (.lst [])) p (.ins (He.ga K "Parser") dx (putF "moods" (.ref ml) (putF "signs" (.ref sl) (putF "faults" (.ref fl) (putF "at" (.int 0) (putF "tokens" (.ref tl) []))))))
    replace at_tl := ((upd_ne (H := upd H4 ml (.lst [])) (o := .ins (He.ga K "Parser") dx (putF "moods" (.ref ml) (putF "signs" (.ref sl) (putF "faults" (.ref fl) (putF "at" (.int 0) (putF "tokens" (.ref tl) [])))))) ptl).trans (upd_ne (o := .lst []) tl_ml)).trans at_tl
    replace at_fl := ((upd_ne (H := upd H4 ml (.lst [])) (o := .ins (He.ga K "Parser") dx (putF "moods" (.ref ml) (putF "signs" (.ref sl) (putF "faults" (.ref fl) (putF "at" (.int 0) (putF "tokens" (.ref tl) [])))))) (Ne.symm p_fl)).trans (upd_ne (o := .lst []) fl_ml)).trans at_fl
    replace at_sl := ((upd_ne (H := upd H4 ml (.lst [])) (o := .ins (He.ga K "Parser") dx (putF "moods" (.ref ml) (putF "signs" (.ref sl) (putF "faults" (.ref fl) (putF "at" (.int 0) (putF "tokens" (.ref tl) [])))))) (Ne.symm p_sl)).trans (upd_ne (o := .lst []) sl_ml)).trans at_sl
    have at_ml : (upd (upd H4 ml (.lst [])) p (.ins (He.ga K "Parser") dx (putF "moods" (.ref ml) (putF "signs" (.ref sl) (putF "faults" (.ref fl) (putF "at" (.int 0) (putF "tokens" (.ref tl) []))))))) ml = some (.lst []) := (upd_ne (Ne.symm p_ml)).trans upd_same
    replace sm1 : Same H0 (upd (upd H4 ml (.lst [])) p (.ins (He.ga K "Parser") dx (putF "moods" (.ref ml) (putF "signs" (.ref sl) (putF "faults" (.ref fl) (putF "at" (.int 0) (putF "tokens" (.ref tl) []))))))) := sameUpd (sameUpd sm1 n0_ml) n0p
    generalize upd (upd H4 ml (.lst [])) p (.ins (He.ga K "Parser") dx (putF "moods" (.ref ml) (putF "signs" (.ref sl) (putF "faults" (.ref fl) (putF "at" (.int 0) (putF "tokens" (.ref tl) [])))))) = H5 at *
    refine ⟨(by show 0 ≤ sizeLine; decide), fun rl n_rl => ?_⟩
    have n0_rl : H0 rl = none := sm1.free n_rl
    have p_rl : p ≠ rl := ne_of_none at_p n_rl
    have tl_rl : tl ≠ rl := ne_of_none at_tl n_rl
    have fl_rl : fl ≠ rl := ne_of_none at_fl n_rl
    have sl_rl : sl ≠ rl := ne_of_none at_sl n_rl
    have ml_rl : ml ≠ rl := ne_of_none at_ml n_rl
    refine ⟨_, rfl, p, _, dx, _, rfl, (upd_ne p_rl).trans at_p, T.par.c, T.par.n _ (by simp), lnZ (lnS (lnS (lnS (lnS (lnS ln0))))), ?_⟩
    replace tks := kk0 _ _ (putF "robots" (.ref rl) (putF "moods" (.ref ml) (putF "signs" (.ref sl) (putF "faults" (.ref fl) (putF "at" (.int 0) (putF "tokens" (.ref tl) [])))))) ((upd_ne (o := .lst []) p_rl).trans at_p) (tks.same (sameUpd (o := .lst []) (Same.refl _) n_rl))
    replace at_p := @upd_same (upd H5 rl (.lst [])) p (.ins (He.ga K "Parser") dx (putF "robots" (.ref rl) (putF "moods" (.ref ml) (putF "signs" (.ref sl) (putF "faults" (.ref fl) (putF "at" (.int 0) (putF "tokens" (.ref tl) [])))))))
    replace at_tl := ((upd_ne (H := upd H5 rl (.lst [])) (o := .ins (He.ga K "Parser") dx (putF "robots" (.ref rl) (putF "moods" (.ref ml) (putF "signs" (.ref sl) (putF "faults" (.ref fl) (putF "at" (.int 0) (putF "tokens" (.ref tl) []))))))) ptl).trans (upd_ne (o := .lst []) tl_rl)).trans at_tl
    replace at_fl := ((upd_ne (H := upd H5 rl (.lst [])) (o := .ins (He.ga K "Parser") dx (putF "robots" (.ref rl) (putF "moods" (.ref ml) (putF "signs" (.ref sl) (putF "faults" (.ref fl) (putF "at" (.int 0) (putF "tokens" (.ref tl) []))))))) (Ne.symm p_fl)).trans (upd_ne (o := .lst []) fl_rl)).trans at_fl
    replace at_sl := ((upd_ne (H := upd H5 rl (.lst [])) (o := .ins (He.ga K "Parser") dx (putF "robots" (.ref rl) (putF "moods" (.ref ml) (putF "signs" (.ref sl) (putF "faults" (.ref fl) (putF "at" (.int 0) (putF "tokens" (.ref tl) []))))))) (Ne.symm p_sl)).trans (upd_ne (o := .lst []) sl_rl)).trans at_sl
    replace at_ml := ((upd_ne (H := upd H5 rl (.lst [])) (o := .ins (He.ga K "Parser") dx (putF "robots" (.ref rl) (putF "moods" (.ref ml) (putF "signs" (.ref sl) (putF "faults" (.ref fl) (putF "at" (.int 0) (putF "tokens" (.ref tl) []))))))) (Ne.symm p_ml)).trans (upd_ne (o := .lst []) ml_rl)).trans at_ml
    have at_rl : (upd (upd H5 rl (.lst [])) p (.ins (He.ga K "Parser") dx (putF "robots" (.ref rl) (putF "moods" (.ref ml) (putF "signs" (.ref sl) (putF "faults" (.ref fl) (putF "at" (.int 0) (putF "tokens" (.ref tl) [])))))))) rl = some (.lst []) := (upd_ne (Ne.symm p_rl)).trans upd_same
    replace sm1 : Same H0 (upd (upd H5 rl (.lst [])) p (.ins (He.ga K "Parser") dx (putF "robots" (.ref rl) (putF "moods" (.ref ml) (putF "signs" (.ref sl) (putF "faults" (.ref fl) (putF "at" (.int 0) (putF "tokens" (.ref tl) [])))))))) := sameUpd (sameUpd sm1 n0_rl) n0p
    generalize upd (upd H5 rl (.lst [])) p (.ins (He.ga K "Parser") dx (putF "robots" (.ref rl) (putF "moods" (.ref ml) (putF "signs" (.ref sl) (putF "faults" (.ref fl) (putF "at" (.int 0) (putF "tokens" (.ref tl) []))))))) = H6 at *
    intro rd n_rd
    have n0_rd : H0 rd = none := sm1.free n_rd
    have p_rd : p ≠ rd := ne_of_none at_p n_rd
    have tl_rd : tl ≠ rd := ne_of_none at_tl n_rd
    have fl_rd : fl ≠ rd := ne_of_none at_fl n_rd
    have sl_rd : sl ≠ rd := ne_of_none at_sl n_rd
    have ml_rd : ml ≠ rd := ne_of_none at_ml n_rd
    have rl_rd : rl ≠ rd := ne_of_none at_rl n_rd
    refine ⟨_, rfl, p, _, dx, _, rfl, (upd_ne p_rd).trans at_p, T.par.c, T.par.n _ (by simp), lnZ (lnS (lnS (lnS (lnS (lnS (lnS ln0)))))), ?_⟩
    replace tks := kk0 _ _ (putF "rules" (.ref rd) (putF "robots" (.ref rl) (putF "moods" (.ref ml) (putF "signs" (.ref sl) (putF "faults" (.ref fl) (putF "at" (.int 0) (putF "tokens" (.ref tl) []))))))) ((upd_ne (o := .dT []) p_rd).trans at_p) (tks.same (sameUpd (o := .dT []) (Same.refl _) n_rd))
    replace at_p := @upd_same (upd H6 rd (.dT [])) p (.ins (He.ga K "Parser") dx (putF "rules" (.ref rd) (putF "robots" (.ref rl) (putF "moods" (.ref ml) (putF "signs" (.ref sl) (putF "faults" (.ref fl) (putF "at" (.int 0) (putF "tokens" (.ref tl) []))))))))
    replace at_tl := ((upd_ne (H := upd H6 rd (.dT [])) (o := .ins (He.ga K "Parser") dx (putF "rules" (.ref rd) (putF "robots" (.ref rl) (putF "moods" (.ref ml) (putF "signs" (.ref sl) (putF "faults" (.ref fl) (putF "at" (.int 0) (putF "tokens" (.ref tl) [])))))))) ptl).trans (upd_ne (o := .dT []) tl_rd)).trans at_tl
    replace at_fl := ((upd_ne (H := upd H6 rd (.dT [])) (o := .ins (He.ga K "Parser") dx (putF "rules" (.ref rd) (putF "robots" (.ref rl) (putF "moods" (.ref ml) (putF "signs" (.ref sl) (putF "faults" (.ref fl) (putF "at" (.int 0) (putF "tokens" (.ref tl) [])))))))) (Ne.symm p_fl)).trans (upd_ne (o := .dT []) fl_rd)).trans at_fl
    replace at_sl := ((upd_ne (H := upd H6 rd (.dT [])) (o := .ins (He.ga K "Parser") dx (putF "rules" (.ref rd) (putF "robots" (.ref rl) (putF "moods" (.ref ml) (putF "signs" (.ref sl) (putF "faults" (.ref fl) (putF "at" (.int 0) (putF "tokens" (.ref tl) [])))))))) (Ne.symm p_sl)).trans (upd_ne (o := .dT []) sl_rd)).trans at_sl
    replace at_ml := ((upd_ne (H := upd H6 rd (.dT [])) (o := .ins (He.ga K "Parser") dx (putF "rules" (.ref rd) (putF "robots" (.ref rl) (putF "moods" (.ref ml) (putF "signs" (.ref sl) (putF "faults" (.ref fl) (putF "at" (.int 0) (putF "tokens" (.ref tl) [])))))))) (Ne.symm p_ml)).trans (upd_ne (o := .dT []) ml_rd)).trans at_ml
    replace at_rl := ((upd_ne (H := upd H6 rd (.dT [])) (o := .ins (He.ga K "Parser") dx (putF "rules" (.ref rd) (putF "robots" (.ref rl) (putF "moods" (.ref ml) (putF "signs" (.ref sl) (putF "faults" (.ref fl) (putF "at" (.int 0) (putF "tokens" (.ref tl) [])))))))) (Ne.symm p_rl)).trans (upd_ne (o := .dT []) rl_rd)).trans at_rl
    have at_rd : (upd (upd H6 rd (.dT [])) p (.ins (He.ga K "Parser") dx (putF "rules" (.ref rd) (putF "robots" (.ref rl) (putF "moods" (.ref ml) (putF "signs" (.ref sl) (putF "faults" (.ref fl) (putF "at" (.int 0) (putF "tokens" (.ref tl) []))))))))) rd = some (.dT []) := (upd_ne (Ne.symm p_rd)).trans upd_same
    replace sm1 : Same H0 (upd (upd H6 rd (.dT [])) p (.ins (He.ga K "Parser") dx (putF "rules" (.ref rd) (putF "robots" (.ref rl) (putF "moods" (.ref ml) (putF "signs" (.ref sl) (putF "faults" (.ref fl) (putF "at" (.int 0) (putF "tokens" (.ref tl) []))))))))) := sameUpd (sameUpd sm1 n0_rd) n0p
    generalize upd (upd H6 rd (.dT [])) p (.ins (He.ga K "Parser") dx (putF "rules" (.ref rd) (putF "robots" (.ref rl) (putF "moods" (.ref ml) (putF "signs" (.ref sl) (putF "faults" (.ref fl) (putF "at" (.int 0) (putF "tokens" (.ref tl) [])))))))) = H7 at *
    intro pd n_pd
    have n0_pd : H0 pd = none := sm1.free n_pd
    have p_pd : p ≠ pd := ne_of_none at_p n_pd
    have tl_pd : tl ≠ pd := ne_of_none at_tl n_pd
    have fl_pd : fl ≠ pd := ne_of_none at_fl n_pd
    have sl_pd : sl ≠ pd := ne_of_none at_sl n_pd
    have ml_pd : ml ≠ pd := ne_of_none at_ml n_pd
    have rl_pd : rl ≠ pd := ne_of_none at_rl n_pd
    have rd_pd : rd ≠ pd := ne_of_none at_rd n_pd
    refine ⟨_, rfl, p, _, dx, _, rfl, (upd_ne p_pd).trans at_p, T.par.c, T.par.n _ (by simp), lnZ (lnS (lnS (lnS (lnS (lnS (lnS (lnS ln0))))))), ?_⟩
    replace tks := kk0 _ _ (putF "pairs" (.ref pd) (putF "rules" (.ref rd) (putF "robots" (.ref rl) (putF "moods" (.ref ml) (putF "signs" (.ref sl) (putF "faults" (.ref fl) (putF "at" (.int 0) (putF "tokens" (.ref tl) [])))))))) ((upd_ne (o := .dT []) p_pd).trans at_p) (tks.same (sameUpd (o := .dT []) (Same.refl _) n_pd))
    replace at_p := @upd_same (upd H7 pd (.dT [])) p (.ins (He.ga K "Parser") dx (putF "pairs" (.ref pd) (putF "rules" (.ref rd) (putF "robots" (.ref rl) (putF "moods" (.ref ml) (putF "signs" (.ref sl) (putF "faults" (.ref fl) (putF "at" (.int 0) (putF "tokens" (.ref tl) [])))))))))
    replace at_tl := ((upd_ne (H := upd H7 pd (.dT [])) (o := .ins (He.ga K "Parser") dx (putF "pairs" (.ref pd) (putF "rules" (.ref rd) (putF "robots" (.ref rl) (putF "moods" (.ref ml) (putF "signs" (.ref sl) (putF "faults" (.ref fl) (putF "at" (.int 0) (putF "tokens" (.ref tl) []))))))))) ptl).trans (upd_ne (o := .dT []) tl_pd)).trans at_tl
    replace at_fl := ((upd_ne (H := upd H7 pd (.dT [])) (o := .ins (He.ga K "Parser") dx (putF "pairs" (.ref pd) (putF "rules" (.ref rd) (putF "robots" (.ref rl) (putF "moods" (.ref ml) (putF "signs" (.ref sl) (putF "faults" (.ref fl) (putF "at" (.int 0) (putF "tokens" (.ref tl) []))))))))) (Ne.symm p_fl)).trans (upd_ne (o := .dT []) fl_pd)).trans at_fl
    replace at_sl := ((upd_ne (H := upd H7 pd (.dT [])) (o := .ins (He.ga K "Parser") dx (putF "pairs" (.ref pd) (putF "rules" (.ref rd) (putF "robots" (.ref rl) (putF "moods" (.ref ml) (putF "signs" (.ref sl) (putF "faults" (.ref fl) (putF "at" (.int 0) (putF "tokens" (.ref tl) []))))))))) (Ne.symm p_sl)).trans (upd_ne (o := .dT []) sl_pd)).trans at_sl
    replace at_ml := ((upd_ne (H := upd H7 pd (.dT [])) (o := .ins (He.ga K "Parser") dx (putF "pairs" (.ref pd) (putF "rules" (.ref rd) (putF "robots" (.ref rl) (putF "moods" (.ref ml) (putF "signs" (.ref sl) (putF "faults" (.ref fl) (putF "at" (.int 0) (putF "tokens" (.ref tl) []))))))))) (Ne.symm p_ml)).trans (upd_ne (o := .dT []) ml_pd)).trans at_ml
    replace at_rl := ((upd_ne (H := upd H7 pd (.dT [])) (o := .ins (He.ga K "Parser") dx (putF "pairs" (.ref pd) (putF "rules" (.ref rd) (putF "robots" (.ref rl) (putF "moods" (.ref ml) (putF "signs" (.ref sl) (putF "faults" (.ref fl) (putF "at" (.int 0) (putF "tokens" (.ref tl) []))))))))) (Ne.symm p_rl)).trans (upd_ne (o := .dT []) rl_pd)).trans at_rl
    replace at_rd := ((upd_ne (H := upd H7 pd (.dT [])) (o := .ins (He.ga K "Parser") dx (putF "pairs" (.ref pd) (putF "rules" (.ref rd) (putF "robots" (.ref rl) (putF "moods" (.ref ml) (putF "signs" (.ref sl) (putF "faults" (.ref fl) (putF "at" (.int 0) (putF "tokens" (.ref tl) []))))))))) (Ne.symm p_rd)).trans (upd_ne (o := .dT []) rd_pd)).trans at_rd
    have at_pd : (upd (upd H7 pd (.dT [])) p (.ins (He.ga K "Parser") dx (putF "pairs" (.ref pd) (putF "rules" (.ref rd) (putF "robots" (.ref rl) (putF "moods" (.ref ml) (putF "signs" (.ref sl) (putF "faults" (.ref fl) (putF "at" (.int 0) (putF "tokens" (.ref tl) [])))))))))) pd = some (.dT []) := (upd_ne (Ne.symm p_pd)).trans upd_same
    replace sm1 : Same H0 (upd (upd H7 pd (.dT [])) p (.ins (He.ga K "Parser") dx (putF "pairs" (.ref pd) (putF "rules" (.ref rd) (putF "robots" (.ref rl) (putF "moods" (.ref ml) (putF "signs" (.ref sl) (putF "faults" (.ref fl) (putF "at" (.int 0) (putF "tokens" (.ref tl) [])))))))))) := sameUpd (sameUpd sm1 n0_pd) n0p
    generalize upd (upd H7 pd (.dT [])) p (.ins (He.ga K "Parser") dx (putF "pairs" (.ref pd) (putF "rules" (.ref rd) (putF "robots" (.ref rl) (putF "moods" (.ref ml) (putF "signs" (.ref sl) (putF "faults" (.ref fl) (putF "at" (.int 0) (putF "tokens" (.ref tl) []))))))))) = H8 at *
    intro sd n_sd
    have n0_sd : H0 sd = none := sm1.free n_sd
    have p_sd : p ≠ sd := ne_of_none at_p n_sd
    have tl_sd : tl ≠ sd := ne_of_none at_tl n_sd
    have fl_sd : fl ≠ sd := ne_of_none at_fl n_sd
    have sl_sd : sl ≠ sd := ne_of_none at_sl n_sd
    have ml_sd : ml ≠ sd := ne_of_none at_ml n_sd
    have rl_sd : rl ≠ sd := ne_of_none at_rl n_sd
    have rd_sd : rd ≠ sd := ne_of_none at_rd n_sd
    have pd_sd : pd ≠ sd := ne_of_none at_pd n_sd
    refine ⟨_, rfl, p, _, dx, _, rfl, (upd_ne p_sd).trans at_p, T.par.c, T.par.n _ (by simp), lnZ (lnS (lnS (lnS (lnS (lnS (lnS (lnS (lnS ln0)))))))), ?_⟩
    replace tks := kk0 _ _ (putF "spots" (.ref sd) (putF "pairs" (.ref pd) (putF "rules" (.ref rd) (putF "robots" (.ref rl) (putF "moods" (.ref ml) (putF "signs" (.ref sl) (putF "faults" (.ref fl) (putF "at" (.int 0) (putF "tokens" (.ref tl) []))))))))) ((upd_ne (o := .dK []) p_sd).trans at_p) (tks.same (sameUpd (o := .dK []) (Same.refl _) n_sd))
    replace at_p := @upd_same (upd H8 sd (.dK [])) p (.ins (He.ga K "Parser") dx (putF "spots" (.ref sd) (putF "pairs" (.ref pd) (putF "rules" (.ref rd) (putF "robots" (.ref rl) (putF "moods" (.ref ml) (putF "signs" (.ref sl) (putF "faults" (.ref fl) (putF "at" (.int 0) (putF "tokens" (.ref tl) []))))))))))
    replace at_tl := ((upd_ne (H := upd H8 sd (.dK [])) (o := .ins (He.ga K "Parser") dx (putF "spots" (.ref sd) (putF "pairs" (.ref pd) (putF "rules" (.ref rd) (putF "robots" (.ref rl) (putF "moods" (.ref ml) (putF "signs" (.ref sl) (putF "faults" (.ref fl) (putF "at" (.int 0) (putF "tokens" (.ref tl) [])))))))))) ptl).trans (upd_ne (o := .dK []) tl_sd)).trans at_tl
    replace at_fl := ((upd_ne (H := upd H8 sd (.dK [])) (o := .ins (He.ga K "Parser") dx (putF "spots" (.ref sd) (putF "pairs" (.ref pd) (putF "rules" (.ref rd) (putF "robots" (.ref rl) (putF "moods" (.ref ml) (putF "signs" (.ref sl) (putF "faults" (.ref fl) (putF "at" (.int 0) (putF "tokens" (.ref tl) [])))))))))) (Ne.symm p_fl)).trans (upd_ne (o := .dK []) fl_sd)).trans at_fl
    replace at_sl := ((upd_ne (H := upd H8 sd (.dK [])) (o := .ins (He.ga K "Parser") dx (putF "spots" (.ref sd) (putF "pairs" (.ref pd) (putF "rules" (.ref rd) (putF "robots" (.ref rl) (putF "moods" (.ref ml) (putF "signs" (.ref sl) (putF "faults" (.ref fl) (putF "at" (.int 0) (putF "tokens" (.ref tl) [])))))))))) (Ne.symm p_sl)).trans (upd_ne (o := .dK []) sl_sd)).trans at_sl
    replace at_ml := ((upd_ne (H := upd H8 sd (.dK [])) (o := .ins (He.ga K "Parser") dx (putF "spots" (.ref sd) (putF "pairs" (.ref pd) (putF "rules" (.ref rd) (putF "robots" (.ref rl) (putF "moods" (.ref ml) (putF "signs" (.ref sl) (putF "faults" (.ref fl) (putF "at" (.int 0) (putF "tokens" (.ref tl) [])))))))))) (Ne.symm p_ml)).trans (upd_ne (o := .dK []) ml_sd)).trans at_ml
    replace at_rl := ((upd_ne (H := upd H8 sd (.dK [])) (o := .ins (He.ga K "Parser") dx (putF "spots" (.ref sd) (putF "pairs" (.ref pd) (putF "rules" (.ref rd) (putF "robots" (.ref rl) (putF "moods" (.ref ml) (putF "signs" (.ref sl) (putF "faults" (.ref fl) (putF "at" (.int 0) (putF "tokens" (.ref tl) [])))))))))) (Ne.symm p_rl)).trans (upd_ne (o := .dK []) rl_sd)).trans at_rl
    replace at_rd := ((upd_ne (H := upd H8 sd (.dK [])) (o := .ins (He.ga K "Parser") dx (putF "spots" (.ref sd) (putF "pairs" (.ref pd) (putF "rules" (.ref rd) (putF "robots" (.ref rl) (putF "moods" (.ref ml) (putF "signs" (.ref sl) (putF "faults" (.ref fl) (putF "at" (.int 0) (putF "tokens" (.ref tl) [])))))))))) (Ne.symm p_rd)).trans (upd_ne (o := .dK []) rd_sd)).trans at_rd
    replace at_pd := ((upd_ne (H := upd H8 sd (.dK [])) (o := .ins (He.ga K "Parser") dx (putF "spots" (.ref sd) (putF "pairs" (.ref pd) (putF "rules" (.ref rd) (putF "robots" (.ref rl) (putF "moods" (.ref ml) (putF "signs" (.ref sl) (putF "faults" (.ref fl) (putF "at" (.int 0) (putF "tokens" (.ref tl) [])))))))))) (Ne.symm p_pd)).trans (upd_ne (o := .dK []) pd_sd)).trans at_pd
    have at_sd : (upd (upd H8 sd (.dK [])) p (.ins (He.ga K "Parser") dx (putF "spots" (.ref sd) (putF "pairs" (.ref pd) (putF "rules" (.ref rd) (putF "robots" (.ref rl) (putF "moods" (.ref ml) (putF "signs" (.ref sl) (putF "faults" (.ref fl) (putF "at" (.int 0) (putF "tokens" (.ref tl) []))))))))))) sd = some (.dK []) := (upd_ne (Ne.symm p_sd)).trans upd_same
    replace sm1 : Same H0 (upd (upd H8 sd (.dK [])) p (.ins (He.ga K "Parser") dx (putF "spots" (.ref sd) (putF "pairs" (.ref pd) (putF "rules" (.ref rd) (putF "robots" (.ref rl) (putF "moods" (.ref ml) (putF "signs" (.ref sl) (putF "faults" (.ref fl) (putF "at" (.int 0) (putF "tokens" (.ref tl) []))))))))))) := sameUpd (sameUpd sm1 n0_sd) n0p
    generalize upd (upd H8 sd (.dK [])) p (.ins (He.ga K "Parser") dx (putF "spots" (.ref sd) (putF "pairs" (.ref pd) (putF "rules" (.ref rd) (putF "robots" (.ref rl) (putF "moods" (.ref ml) (putF "signs" (.ref sl) (putF "faults" (.ref fl) (putF "at" (.int 0) (putF "tokens" (.ref tl) [])))))))))) = H9 at *
    refine k ⟨tl, fl, sl, ml, rl, rd, pd, sd⟩ H9 ⟨sm1, ⟨dx, at_p.trans (congrArg (fun z => some (HO.ins (He.ga K "Parser") dx z)) (put_par ⟨tl, fl, sl, ml, rl, rd, pd, sd⟩))⟩, at_tl, tks, ⟨[], at_fl, trivial⟩, at_sl, at_ml, ⟨[], at_rl, .nil⟩, ⟨[], at_rd, .nil⟩, at_pd, at_sd, ?_, ?_⟩
    · simp only [List.nodup_cons, List.mem_cons, List.not_mem_nil, or_false, not_or]
      exact ⟨⟨Ne.symm ptl, p_fl, p_sl, p_ml, p_rl, p_rd, p_pd, p_sd⟩, ⟨tl_fl, tl_sl, tl_ml, tl_rl, tl_rd, tl_pd, tl_sd⟩, ⟨fl_sl, fl_ml, fl_rl, fl_rd, fl_pd, fl_sd⟩, ⟨sl_ml, sl_rl, sl_rd, sl_pd, sl_sd⟩, ⟨ml_rl, ml_rd, ml_pd, ml_sd⟩, ⟨rl_rd, rl_pd, rl_sd⟩, ⟨rd_pd, rd_sd⟩, pd_sd, not_false, List.nodup_nil⟩
    · intro a ha
      simp only [List.mem_cons, List.not_mem_nil, or_false] at ha
      rcases ha with rfl | rfl | rfl | rfl | rfl | rfl | rfl | rfl | rfl <;> assumption
end
end Sw

end

section
set_option maxRecDepth 100000
set_option maxHeartbeats 4000000
/-! parse_plan, load -/
namespace Sw
open PySem PySem.Spec PyProof.Rows L2 SwA
structure LoadT (K : PySem.W.Frag) (mg : Str → Option Value) : Prop where
  p : ParT K mg
  plan : MkC K mg "Plan" planF
  d_plan : FD K ("Plan", some "__init__") "__init__" "Plan.__init__" s_Plan_init
  d_load : FD K ("load", none) "load" "load" s_load
  g_load : mg "load" = some (.ref (He.ga K "load"))
/-- a plan's object -/
def PlanAt (K : PySem.W.Frag) (H : Hp) (a : Addr) (pl : Plan) : Prop := ∃ (dx sa ma fa ra rd : Addr) (ras : List Addr),
  H a = some (.ins (He.ga K "Plan") dx [("signs", .ref sa), ("moods", .ref ma), ("floor", .ref fa), ("robots", .ref ra), ("rules", .ref rd)]) ∧ TupN H sa (pl.signs.map sV) ∧ TupN H ma (pl.moods.map sV) ∧
  H fa = some (.tup (pl.floor.map fun n : Nat => V.int n)) ∧ H ra = some (.tup (ras.map V.ref)) ∧ Paired (RobAt H) ras pl.robots ∧ RulesAt H rd pl.rules
theorem PlanAt.same {K : PySem.W.Frag} {H H' : Hp} {a : Addr} {pl : Plan} (s : Same H H') (h : PlanAt K H a pl) : PlanAt K H' a pl := by
  obtain ⟨dx, sa, ma, fa, ra, rd, ras, e1, e2, e3, e4, e5, e6, kvs, e7, e8⟩ := h
  exact ⟨dx, sa, ma, fa, ra, rd, ras, s _ _ e1, e2.mono fun _ z => s _ _ z, e3.mono fun _ z => s _ _ z, s _ _ e4, s _ _ e5, Paired.mapP e6 fun _ _ q => s _ _ q, kvs, s _ _ e7, Paired.mapP e8 fun _ _ q => q.mono fun _ _ z => s _ _ z⟩
theorem put_plan (a b c d e : V) : putF "rules" e (putF "robots" d (putF "floor" c (putF "moods" b (putF "signs" a [])))) = ([("signs", a), ("moods", b), ("floor", c), ("robots", d), ("rules", e)] : List (Str × V)) := by kernel_rfl
theorem spots_get (l : List (Nat × Nat)) (i : Nat) : (valV (l.map spotK) (.inl ((0 : Int) + (i : Nat)) : Key)).getD (.int 0) = .int ((getA l i).getD 0 : Nat) := by
  rw [Int.zero_add]
  induction l with
  | nil => rfl
  | cons a r ih =>
    by_cases e : a.1 = i
    · rw [List.map_cons, valV_pos (show (spotK a).1 = .inl (i : Int) by show (.inl (a.1 : Int) : Key) = _; rw [e])]
      unfold getA
      rw [List.find?_cons, decide_eq_true e]
      rfl
    · rw [List.map_cons, valV_neg (show ¬ (spotK a).1 = .inl (i : Int) from fun q => e (key_inl.mp q)), ih]
      unfold getA
      rw [List.find?_cons, decide_eq_false e]
/-! ### the tokens are good -/
theorem mem_tw {p : Nat → Bool} {x : Nat} : ∀ {l : Cs}, x ∈ l.takeWhile p → p x = true
  | [], h => by cases h
  | c :: r, h => by
    cases e : p c with
    | false => rw [List.takeWhile_cons, e] at h; cases h
    | true =>
      rw [List.takeWhile_cons, e] at h
      rcases List.mem_cons.mp h with q | q
      · rw [q]; exact e
      · exact mem_tw q
theorem readTok_kind {line col : Nat} {rest : Cs} {t : Tk} (h : readTok line col rest = some t) : t.kind ≠ .fin ∧ (t.kind = .number → (1 ≤ t.text.length ∧ t.text.length ≤ 2) ∧ t.text.all isD = true) := by
  unfold readTok at h
  split at h
  · cases h
  · rename_i c r
    split at h
    · cases h
      exact ⟨(fun q => by cases q), (fun q => by cases q)⟩
    · split at h
      · rename_i hd
        split at h
        · cases h
        · rename_i hn
          cases h
          refine ⟨(fun q => by cases q), fun _ => ⟨⟨?_, by show ((c :: r).takeWhile isD).length ≤ 2; omega⟩, ?_⟩⟩
          · simp [List.takeWhile_cons, hd]
          · rw [List.all_eq_true]
            intro x hx
            exact mem_tw hx
      · split at h
        · cases h
          exact ⟨(fun q => by cases q), (fun q => by cases q)⟩
        · split at h
          · cases h
            exact ⟨(fun q => by cases q), (fun q => by cases q)⟩
          · cases h
def TkG (t : Tk) : Prop := t.kind ≠ .fin ∧ (t.kind = .number → (1 ≤ t.text.length ∧ t.text.length ≤ 2) ∧ t.text.all isD = true)
theorem lexRow_good (line : Nat) : ∀ (f col : Nat) (rest : Cs) (ts : List Tk), lexRow line f col rest = .ok ts → (∀ t ∈ ts, TkG t) ∧ ts.length ≤ rest.length
  | f, col, [], ts, h => by
    have e : ts = [] := by cases f <;> (injection h with h; exact h.symm)
    subst e
    exact ⟨by simp, Nat.le_refl _⟩
  | 0, col, c :: r, ts, h => by
    injection h with h
    subst h
    exact ⟨by simp, Nat.zero_le _⟩
  | f + 1, col, c :: r, ts, h => by
    unfold lexRow at h
    split at h
    · have z := lexRow_good line f (col + 1) r ts h
      exact ⟨z.1, Nat.le_succ_of_le z.2⟩
    · split at h
      · cases h
      · rename_i t ht
        split at h
        · cases h
        · rename_i us hu
          cases h
          have z := lexRow_good line f _ _ us hu
          have l := readTok_len ht
          rw [List.length_drop] at z
          refine ⟨fun x hx => ?_, ?_⟩
          · rcases List.mem_cons.mp hx with q | q
            · rw [q]; exact readTok_kind ht
            · exact z.1 x q
          · simp only [List.length_cons] at z l ⊢
            omega
theorem lexRows_good : ∀ (rows : List Cs) (line : Nat) (ts : List Tk), lexRows line rows = .ok ts → (∀ t ∈ ts, TkG t) ∧ ts.length ≤ (rows.map List.length).sum
  | [], line, ts, h => by
    injection h with h
    subst h
    exact ⟨by simp, by simp⟩
  | row :: rest, line, ts, h => by
    unfold lexRows at h
    split at h
    · cases h
    · rename_i us hu
      split at h
      · cases h
      · rename_i vs hv
        cases h
        have z1 := lexRow_good line _ _ _ us hu
        have z2 := lexRows_good rest (line + 1) vs hv
        refine ⟨fun x hx => ?_, ?_⟩
        · rcases List.mem_append.mp hx with q | q
          · exact z1.1 x q
          · exact z2.1 x q
        · rw [List.length_append, List.map_cons, List.sum_cons]
          omega
theorem tokenize_good {text : Cs} {T : List Tk} (hl : text.length ≤ 90000) (h : tokenize text = .ok T) : GoodT T := by
  unfold tokenize at h
  split at h
  · cases h
  · rename_i ts ht
    cases h
    obtain ⟨g, gl⟩ := lexRows_good _ _ _ ht
    have gl2 := Nat.le_trans gl (rows_sum text)
    have get : ∀ (i : Nat) t, (ts ++ [(⟨.fin, [], (rowsOf text).length, 0⟩ : Tk)])[i]? = some t → (i < ts.length ∧ t ∈ ts) ∨ (i = ts.length ∧ t = ⟨.fin, [], (rowsOf text).length, 0⟩) := by
      intro i t e
      by_cases hi : i < ts.length
      · rw [List.getElem?_append_left hi] at e
        exact .inl ⟨hi, List.mem_of_getElem? e⟩
      · rw [List.getElem?_append_right (Nat.le_of_not_lt hi)] at e
        cases hd : i - ts.length with
        | zero =>
          rw [hd] at e
          exact .inr ⟨by omega, (Option.some.inj e).symm⟩
        | succ n =>
          rw [hd] at e
          simp at e
    refine ⟨fun i t e hi => ?_, by simp, fun i t e hk => ?_, fun t ht hk => ?_, by simp; omega⟩
    · rw [List.length_append] at hi
      rcases get i t e with q | q
      · have : [(⟨.fin, [], (rowsOf text).length, 0⟩ : Tk)].length = 1 := rfl
        omega
      · rw [q.2]
        exact ⟨rfl, rfl⟩
    · rcases get i t e with q | q
      · exact absurd hk (g t q.2).1
      · rw [q.1, List.length_append]
        rfl
    · rcases List.mem_append.mp ht with q | q
      · exact (g t q).2 hk
      · have e : t = ⟨.fin, [], (rowsOf text).length, 0⟩ := by simpa using q
        rw [e] at hk
        cases hk
theorem numVal_le {w : Cs} (h : w.all isD = true) (h2 : w.length ≤ 2) : numVal w ≤ 99 := by
  have d : ∀ c, isD c = true → c - 48 ≤ 9 := fun c hc => by
    unfold isD at hc
    rw [Bool.and_eq_true] at hc
    have := Nat.le_of_ble_eq_true hc.2
    omega
  match w, h, h2 with
  | [], _, _ => simp [numVal]
  | [a], h, _ =>
    simp only [List.all_cons, List.all_nil, Bool.and_true] at h
    have := d a h
    simp [numVal]
    omega
  | [a, b], h, _ =>
    simp only [List.all_cons, List.all_nil, Bool.and_true, Bool.and_eq_true] at h
    have h1 := d a h.1
    have h2 := d b h.2
    simp [numVal]
    omega
section
variable {P : Program} {w : World} {K : PySem.W.Frag} {mg : Str → Option Value} {base : Heap}
theorem sc_plan : FnScope ["self", "signs", "moods", "floor", "robots", "rules"] ["self", "signs", "moods", "floor", "robots", "rules"] (defScope s_Plan_init) := ⟨rfl, rfl, rfl, by decide +kernel, rfl, by decide +kernel, by decide +kernel⟩
theorem ok_plan (T : LoadT K mg) : FnE P w K mg base CX0 1 ("Plan", some "__init__") ["self", "signs", "moods", "floor", "robots", "rules"] (spInit (He.ga K "Plan") planF) := by
  obtain ⟨fd, F⟩ := T.d_plan
  refine ⟨fd, F.ok sc_plan (fun vs H Q E h => ?_) (fun cdv A outer s H vs Q E hr h => ?_), F.bindsN fun _ _ _ _ _ _ us hl => match us, hl with | [_, _, _, _, _, _], _ => rfl, F.kp⟩
  · obtain ⟨a, dx, args, rfl, e, _⟩ := h
    simp [e]
  · obtain ⟨p, dx, args, rfl, e, hp, k⟩ := h
    obtain ⟨v1, v2, v3, v4, v5, rfl⟩ : ∃ v1 v2 v3 v4 v5, args = [v1, v2, v3, v4, v5] := by
      match args, e with
      | [v1, v2, v3, v4, v5], _ => exact ⟨v1, v2, v3, v4, v5, rfl⟩
    refine ⟨_, PSs.nox (pss_cons (ps_fld (pv 0) (pv 1) rfl) (pss_cons (ps_fld (pv 0) (pv 2) rfl) (pss_cons (ps_fld (pv 0) (pv 3) rfl) (pss_cons (ps_fld (pv 0) (pv 4) rfl) (pss_one (ps_fld (pv 0) (pv 5) rfl)))))), ?_⟩
    refine ⟨_, rfl, _, rfl, p, _, dx, _, rfl, hp, T.plan.c, T.plan.n _ (by simp), lnZ ln0, ?_⟩
    refine ⟨_, rfl, _, rfl, p, _, dx, _, rfl, upd_same, T.plan.c, T.plan.n _ (by simp), lnZ (lnS ln0), ?_⟩
    refine ⟨_, rfl, _, rfl, p, _, dx, _, rfl, upd_same, T.plan.c, T.plan.n _ (by simp), lnZ (lnS (lnS ln0)), ?_⟩
    refine ⟨_, rfl, _, rfl, p, _, dx, _, rfl, upd_same, T.plan.c, T.plan.n _ (by simp), lnZ (lnS (lnS (lnS ln0))), ?_⟩
    refine ⟨_, rfl, _, rfl, p, _, dx, _, rfl, upd_same, T.plan.c, T.plan.n _ (by simp), lnZ (lnS (lnS (lnS (lnS ln0)))), ?_⟩
    refine k _ ?_ fun b hb => by rw [upd_ne hb, upd_ne hb, upd_ne hb, upd_ne hb, upd_ne hb]
    rw [upd_same, put_plan]
    rfl
def spParsePlan (K : PySem.W.Frag) : Sp := fun vs H Q E => ∃ (H0 : Hp) (p : Addr) (L : PLoc) (tas : List Addr) (T : List Tk), vs = [.ref p] ∧ PA K H0 H p L tas T st0 ∧ GoodT T ∧
  (∀ n s, parsePlan T = .ok (n, s) → s.faults = [] ∧ ∀ (a : Addr) (H' : Hp), H0 a = none → Same H0 H' → PlanAt K H' a (planOf n s) → Q (.ref a) H') ∧ (∀ l c, parsePlan T = .error (l, c) → Syn K H0 E l c)
abbrev ppN : List Str := ["self", "token", "tiles", "line", "column", "number", "reason", "floor", "tile"]
theorem sc_parse_plan : FnScope ppN ["self"] (defScope s_Parser_parse_plan) := ⟨rfl, rfl, rfl, by decide +kernel, rfl, by decide +kernel, by decide +kernel⟩
theorem ok_parse_plan (T : LoadT K mg) : FnE P w K mg base (L2.CX P w) 7 ("Parser", some "parse_plan") ["self"] (spParsePlan K) := by
  obtain ⟨fd, F⟩ := T.p.parse_plan.d
  obtain ⟨fdP, GP, bP, kP⟩ := ok_peek (P := P) (w := w) (base := base) T.p
  obtain ⟨fdF, GF, bF, kF⟩ := ok_found (P := P) (w := w) (base := base) T.p
  obtain ⟨fdX, GX, bX, kX⟩ := ok_fail (P := P) (w := w) (base := base) T.p
  obtain ⟨fdA, GA, bA, kA⟩ := ok_take (P := P) (w := w) (base := base) T.p
  obtain ⟨fdW, GW, bW, kW⟩ := ok_take_word (P := P) (w := w) (base := base) T.p
  obtain ⟨fdN, GN, bN, kN⟩ := ok_parse_names (P := P) (w := w) (base := base) T.p
  obtain ⟨fdR, GR, bR, kR⟩ := ok_parse_robot (P := P) (w := w) (base := base) T.p
  obtain ⟨fdU, GU, bU, kU⟩ := ok_parse_put (P := P) (w := w) (base := base) T.p
  obtain ⟨fdL, GL, bL, kL⟩ := ok_parse_rule (P := P) (w := w) (base := base) T.p
  obtain ⟨fdI, GI, bI, kI⟩ := ok_plan (P := P) (w := w) (base := base) T
  obtain ⟨t1, mNUM⟩ := T.p.l.NUMBER
  obtain ⟨t2, mEND⟩ := T.p.l.END
  obtain ⟨t3, mMT⟩ := T.p.MAX_TILES
  obtain ⟨t4, mMS⟩ := T.p.MAX_SIGNS
  obtain ⟨t5, mMM⟩ := T.p.MAX_MOODS
  refine ⟨fd, F.ok sc_parse_plan (fun vs H Q E h => ?_) (fun cdv A outer s H vs Q E hr h => ?_), F.bindsN fun _ _ _ _ _ _ us hl => match us, hl with | [_], _ => rfl, F.kp⟩
  · obtain ⟨H0, p, L, tas, Ts, rfl, _⟩ := h
    rfl
  · obtain ⟨H0, p, L, tas, Ts, rfl, hP, hG, hok, her⟩ := h
    have hr1 : Room 1 _ := hr.mono (by decide)
    have hr2 : Room 2 _ := hr.mono (by decide)
    have hr3 : Room 3 _ := hr.mono (by decide)
    have hr4 : Room 4 _ := hr.mono (by decide)
    have hr5 : Room 5 _ := hr.mono (by decide)
    have hu := hu_of hr
    refine ⟨_, (pss_cons (ps_expr (pe_meth (pv 0) T.p.par.c T.p.take_word.m GW hr4 bW .nil (passes_call (takes_of rfl rfl rfl rfl) (fun _ _ _ _ h => h)) (pa_cons pe_str pa_nil)))
      (pss_cons (ps_set (i := 1) sc_parse_plan.nd rfl (.inl rfl) (pe_meth (pv 0) T.p.par.c T.p.take.m GA hr4 bA .nil (passes_call (takes_of rfl rfl rfl rfl) (fun _ _ _ _ h => h)) (pa_cons (pe_glob (v := .str "number") rfl mNUM ⟨_, rfl⟩) pa_nil)))
      (pss_cons (ps_set (i := 2) sc_parse_plan.nd rfl (.inl rfl) (pe_callTy call_int_str (by rfl) T.p.int (by decide +kernel) (pa_cons (pe_fld (pv 1) rfl) pa_nil)))
      (pss_cons (ps_expr (pe_meth (pv 0) T.p.par.c T.p.take_word.m GW hr4 bW .nil (passes_call (takes_of rfl rfl rfl rfl) (fun _ _ _ _ h => h)) (pa_cons pe_str pa_nil)))
      (C8.pss_cut (ps_if (pt_not (pt_chain op_le op_le pe_int (pv 2) (pe_glob (v := .int 16) rfl mMT ⟨_, rfl⟩)))
        (pss_one (ps_expr (pe_meth (pv 0) T.p.par.c T.p.found.m GF hr1 bF .nil pass0 (pa_cons pe_str (pa_cons (pv 1) pa_nil))))) pss_nil)
      (pss_cons (ps_expr (pe_meth (pv 0) T.p.par.c T.p.parse_names.m GN hr5 bN .nil (passes_call (takes_of rfl rfl rfl rfl) (fun _ _ _ _ h => h)) (pa_cons pe_str (pa_cons (pe_fld (pv 0) rfl) (pa_cons (pe_glob (v := .int 4) rfl mMS ⟨_, rfl⟩) pa_nil)))))
      (pss_cons (ps_expr (pe_meth (pv 0) T.p.par.c T.p.parse_names.m GN hr5 bN .nil (passes_call (takes_of rfl rfl rfl rfl) (fun _ _ _ _ h => h)) (pa_cons pe_str (pa_cons (pe_fld (pv 0) rfl) (pa_cons (pe_glob (v := .int 6) rfl mMM ⟨_, rfl⟩) pa_nil)))))
      (pss_cons (ps_expr (pe_meth (pv 0) T.p.par.c T.p.parse_robot.m GR hr bR .nil (passes_call (takes_of rfl rfl rfl rfl) (fun _ _ _ _ h => h)) (pa_cons (pv 2) pa_nil)))
      (pss_cons (ps_while (passes_of rfl) (pt_cmpR op_ne (pe_fld (pe_meth0 (pv 0) T.p.par.c T.p.peek.m GP hr1 bP .nil pass0) rfl) (pe_glob (v := .str "end") rfl mEND ⟨_, rfl⟩) (nomark _))
        (pss_one (ps_match (pe_fld (pe_meth0 (pv 0) T.p.par.c T.p.peek.m GP hr1 bP .nil pass0) rfl)
          (pms_str (pss_one (ps_expr (pe_meth (pv 0) T.p.par.c T.p.parse_robot.m GR hr bR .nil (passes_call (takes_of rfl rfl rfl rfl) (fun _ _ _ _ h => h)) (pa_cons (pv 2) pa_nil))))
          (pms_str (pss_one (ps_expr (pe_meth (pv 0) T.p.par.c T.p.parse_put.m GU hr bU .nil (passes_call (takes_of rfl rfl rfl rfl) (fun _ _ _ _ h => h)) (pa_cons (pv 2) pa_nil))))
          (pms_str (pss_one (ps_expr (pe_meth0 (pv 0) T.p.par.c T.p.parse_rule.m GL hr bL .nil (passes_call (takes_of rfl rfl rfl rfl) (fun _ _ _ _ h => h)))))
          (pms_any (pss_one (ps_expr (pe_meth0 (pv 0) T.p.par.c T.p.fail.m GX hr3 bX .nil (passes_call (takes_of rfl rfl rfl rfl) (fun _ _ _ _ h => h))))))))))))
      (pss_cons (ps_if (pt_cmpR (op_neD hr.units) (pe_fld (pv 0) rfl) (pe_lst pa_nil) (nomark _)) pss_never pss_nil)
      (pss_cons (ps_set (i := 7) sc_parse_plan.nd rfl (.inl rfl) (pe_callTy call_tuple_of (by rfl) T.p.tuple (by decide +kernel) (pa_cons
        (pe_lc (own := [("tile", 8)]) (g := gName 8) (tt := tYes) (te := tDGet2 (tFld K (tVar 0) "spots") (tVar 8) (tC (.int 0))) rfl sc_parse_plan.nd (pi_range1 (by rfl) T.p.range (pa_cons (pv 2) pa_nil)) (blkOk_by (own := [("tile", 8)]) (N := ppN) (sc := defScope s_Parser_parse_plan) (by decide +kernel))
          (fun _ _ _ _ _ => pg_name (i := 8) sc_parse_plan.nd rfl (Or.inl rfl)) (fun _ _ _ _ _ => pts_nil) (fun _ _ _ _ _ => pe_dget2 hu (pe_fld (pv 0) rfl) (pv 8) pe_int ⟨rfl, rfl, rfl, rfl⟩)) pa_nil)))
      (pss_one (ps_ret (pe_make T.plan.m GI hr2 rfl T.plan.g bI .nil pass0 (pa_cons (pe_tupleOfN (by rfl) T.p.tuple (pe_fld (pv 0) rfl))
        (pa_cons (pe_tupleOfN (by rfl) T.p.tuple (pe_fld (pv 0) rfl)) (pa_cons (pv 7)
        (pa_cons (pe_callTy call_tuple_of (by rfl) T.p.tuple (by decide +kernel) (pa_cons (pe_fld (pv 0) rfl) pa_nil)) (pa_cons (pe_fld (pv 0) rfl) pa_nil))))))))))))))))))), ?_⟩
    obtain ⟨dx, ob⟩ := hP.ob
    have hlen := hG.len
    have hB0 : Bd Ts st0 := ⟨by
      show 0 < Ts.length
      exact List.length_pos_iff.mpr hG.ne, Nat.le_refl _, Nat.zero_le _, Nat.zero_le _, Nat.le_refl _, Nat.le_refl _, Nat.le_refl _, Nat.le_refl _⟩
    refine ⟨_, rfl, p, dx, _, rfl, ob, lp_no_take_word, H0, p, L, tas, Ts, st0, wCorridor, by rw [e_corridor]; rfl, hP, hB0.at_, ⟨fun kw s1 h1 v H1 hv hP1 => ?_, fun l c he => her l c (by simp only [parsePlan, he])⟩⟩
    clear hv
    obtain ⟨B1, f1, e1⟩ := bd_word hG hB0 h1 (by decide)
    obtain ⟨dx1, ob1⟩ := hP1.ob
    refine ⟨_, rfl, p, dx1, _, rfl, ob1, lp_no_take, H0, p, L, tas, Ts, s1, .number, rfl, hP1, B1.at_, ⟨fun tk s2 h2 v H2 hv hP2 => ?_, fun l c he => her l c (by simp only [parsePlan, h1, he])⟩⟩
    obtain ⟨a2, rfl, hta2⟩ := hv
    obtain ⟨B2, f2, e2, _⟩ := bd_take hG B1 h2 (by decide)
    obtain ⟨dx2, ob2⟩ := hP2.ob
    obtain ⟨dt2, ht2⟩ := hP2.get hta2
    obtain ⟨⟨n1, n2⟩, n3⟩ := hG.num tk hta2.mem (take_ok h2).2.2
    have hint := int_sx n3 n1 n2
    have hn99 := numVal_le n3 n2
    refine ⟨_, rfl, a2, _, dt2, _, _, rfl, ht2, T.p.l.tok.c, T.p.l.tok.n _ (by simp), lk_text, _, _, rfl, hint, by rw [len_sx]; omega, ?_⟩
    refine ⟨_, rfl, p, dx2, _, rfl, ob2, lp_no_take_word, H0, p, L, tas, Ts, s2, wSemi, by rw [e_semi]; rfl, hP2, B2.at_, ⟨fun t3 s3 h3 v H3 hv hP3 => ?_, fun l c he => her l c (by simp only [parsePlan, h1, h2, he])⟩⟩
    clear hv
    obtain ⟨B3, f3, e3⟩ := bd_word hG B2 h3 (by decide)
    obtain ⟨dx3, ob3⟩ := hP3.ob
    have B3f := B3.fa
    have B3a := B3.at_
    generalize hq : (if 1 ≤ numVal tk.text ∧ numVal tk.text ≤ 16 then s3 else s3.found wCorridor tk) = q3
    have Bq : Bd Ts q3 := by
      rw [← hq]
      split
      · exact B3
      · exact B3.found (by omega)
    generalize hn : numVal tk.text = n at *
    refine ⟨fun σ' H' => σ' = [some (.ref p), some (.ref a2), some (.int n), none, none, none, none, none, none] ∧ PA K H0 H' p L tas Ts q3, ?_, ?_⟩
    · refine ⟨_, rfl, _, _, rfl, rfl, _, rfl, ?_⟩
      have bad : ¬ (1 ≤ n ∧ n ≤ 16) → tDrop (tMeth (He.ga K "Parser") "found" (spFound K) [] E0 (tVar 0) (tCons (tC (.str "corridor")) (tCons (tVar 1) tNil))) { nx := fun σ' H' => σ' = [some (.ref p), some (.ref a2), some (.int n), none, none, none, none, none, none] ∧ PA K H0 H' p L tas Ts q3, rt := Q } [some (.ref p), some (.ref a2), some (.int n), none, none, none, none, none, none] H3 := fun hb => by
        refine ⟨_, rfl, p, dx3, _, rfl, ob3, lp_no_found, _, rfl, H0, p, L, tas, Ts, s3, wCorridor, a2, tk, by rw [e_corridor]; rfl, hP3, hta2, by omega, fun H4 hP4 => ⟨rfl, ?_⟩⟩
        rw [← hq, if_neg hb]
        exact hP4
      refine ite2 (fun h4 => ?_) (fun h4 => ?_)
      · have h4 := of_decide_eq_true h4
        refine ⟨_, _, rfl, rfl, _, rfl, ?_⟩
        refine ite2 (fun h5 => ?_) (fun h5 => ?_)
        · have h5 : ¬ ((n : Nat) : Int) ≤ 16 := fun z => by
            rw [decide_eq_true z] at h5
            exact absurd h5 (by decide)
          exact bad (by omega)
        · have h5 : ((n : Nat) : Int) ≤ 16 := Decidable.byContradiction fun z => h5 (by rw [decide_eq_false z]; rfl)
          refine ⟨rfl, ?_⟩
          rw [← hq, if_pos (by omega)]
          exact hP3
      · have h4 : ¬ (1 : Int) ≤ ((n : Nat) : Int) := fun z => h4 (decide_eq_true z)
        exact ⟨_, rfl, iteT (bad (by omega))⟩
    · rintro σ' H4 ⟨rfl, hP4⟩
      obtain ⟨dx4, ob4⟩ := hP4.ob
      refine ⟨_, rfl, p, dx4, _, rfl, ob4, lp_no_parse_names, _, rfl, p, _, dx4, _, _, rfl, ob4, T.p.par.c, T.p.par.n _ (by simp), lp_signs, H0, p, L, tas, Ts, q3, false, by rw [e_signs]; rfl, hP4, hG, Bq, ⟨fun u s4 h4 v H5 hv hP5 => ?_, fun l c he => her l c (by simp only [parsePlan, h1, h2, h3, hn, hq, he])⟩⟩
      clear hv
      have B4 := bd_names hG Bq h4
      obtain ⟨dx5, ob5⟩ := hP5.ob
      refine ⟨_, rfl, p, dx5, _, rfl, ob5, lp_no_parse_names, _, rfl, p, _, dx5, _, _, rfl, ob5, T.p.par.c, T.p.par.n _ (by simp), lp_moods, H0, p, L, tas, Ts, s4, true, by rw [e_moods]; rfl, hP5, hG, B4, ⟨fun u5 s5 h5 v H6 hv hP6 => ?_, fun l c he => her l c (by simp only [parsePlan, h1, h2, h3, hn, hq, h4, he])⟩⟩
      clear hv
      have B5 := bd_names hG B4 h5
      obtain ⟨dx6, ob6⟩ := hP6.ob
      refine ⟨_, rfl, p, dx6, _, rfl, ob6, lp_no_parse_robot, _, rfl, H0, p, L, tas, Ts, s5, n, rfl, hP6, hG, B5, ⟨fun u6 s6 h6 v H7 hv hP7 => ?_, fun l c he => her l c (by simp only [parsePlan, h1, h2, h3, hn, hq, h4, h5, he])⟩⟩
      clear hv
      have B6 := (bd_robot hG B5 h6).1
      have hpre : ∀ r, parseStmts Ts n Ts.length s6 = r → parsePlan Ts = (match r with | .error e => .error e | .ok (_, s7) => .ok (n, s7)) := by
        intro r hr
        simp only [parsePlan, h1, h2, h3, hn, hq, h4, h5, h6, hr]
        all_goals (rcases r with _ | ⟨_, _⟩ <;> rfl)
      refine ⟨fun m σ H => ∃ (f : Nat) (s : PSt), m + s.at_ = Ts.length ∧ σ = [some (.ref p), some (.ref a2), some (.int n), none, none, none, none, none, none] ∧ PA K H0 H p L tas Ts s ∧ Bd Ts s ∧ Ts.length ≤ f + s.at_ ∧
        parseStmts Ts n Ts.length s6 = parseStmts Ts n f s, ⟨Ts.length - s6.at_, Ts.length, s6, Nat.sub_add_cancel (Nat.le_of_lt B6.at_), rfl, hP7, B6, Nat.le_add_right _ _, rfl⟩, ?_⟩
      rintro m σ H8 ⟨f, s8, hm, rfl, hP8, B8, hf, hst⟩
      have B8a := B8.at_
      obtain ⟨f', rfl⟩ : ∃ f', f = f' + 1 := ⟨f - 1, by omega⟩
      obtain ⟨dx8, ob8⟩ := hP8.ob
      refine ⟨_, rfl, p, dx8, _, rfl, ob8, lp_no_peek, H0, p, L, tas, Ts, s8, rfl, hP8, B8.at_, fun a8 hta8 => ?_⟩
      obtain ⟨dt8, ht8⟩ := hP8.get hta8
      refine ⟨a8, _, dt8, _, _, rfl, ht8, T.p.l.tok.c, T.p.l.tok.n _ (by simp), lk_kind, rfl, _, rfl, ?_⟩
      refine ite2 (fun h => ?_) (fun h => ?_)
      · have hk : (peek Ts s8).kind ≠ .fin := fun z => by
          rw [decide_eq_true (by rw [z]; rfl)] at h
          exact absurd h (by decide)
        have hstep : ∀ r, parseStmt Ts n s8 = r → parseStmts Ts n (f' + 1) s8 = (match r with | .error e => .error e | .ok (_, s1) => parseStmts Ts n f' s1) := by
          intro r hr
          simp only [parseStmts, if_neg hk, hr]
          all_goals (rcases r with _ | ⟨_, _⟩ <;> rfl)
        refine ⟨_, fun _ _ nn => nn, ?_⟩
        refine ⟨_, rfl, p, dx8, _, rfl, ob8, lp_no_peek, H0, p, L, tas, Ts, s8, rfl, hP8, B8.at_, fun a9 hta9 => ?_⟩
        obtain ⟨dt9, ht9⟩ := hP8.get hta9
        refine ⟨a9, _, dt9, _, _, rfl, ht9, T.p.l.tok.c, T.p.l.tok.n _ (by simp), lk_text, ?_⟩
        have goon : ∀ (s9 : PSt) (H9 : Hp), parseStmt Ts n s8 = .ok ((), s9) → PA K H0 H9 p L tas Ts s9 → ∃ m', m' < m ∧ ∃ (f : Nat) (s : PSt), m' + s.at_ = Ts.length ∧ [some (V.ref p), some (.ref a2), some (.int n), none, none, none, none, none, none] = [some (.ref p), some (.ref a2), some (.int n), none, none, none, none, none, none] ∧ PA K H0 H9 p L tas Ts s ∧ Bd Ts s ∧ Ts.length ≤ f + s.at_ ∧
            parseStmts Ts n Ts.length s6 = parseStmts Ts n f s := fun s9 H9 h9 hP9 => by
          obtain ⟨B9, lt9⟩ := bd_stmt hG B8 h9
          have B9a := B9.at_
          exact ⟨Ts.length - s9.at_, by omega, f', s9, by omega, rfl, hP9, B9, by omega, by rw [hst, hstep _ h9]⟩
        have goer : ∀ l c, parseStmt Ts n s8 = .error (l, c) → Syn K H0 E l c := fun l c he => her l c (by rw [hpre _ (hst.trans (hstep _ he))])
        refine ⟨_, rfl, fun z => ?_, fun z => ?_⟩
        · have z : (peek Ts s8).text = wRobot := sx_inj (by rw [← e_robot]; exact z)
          have hs : parseStmt Ts n s8 = parseRobot Ts n s8 := by simp only [parseStmt, if_pos z]
          refine ⟨_, rfl, p, dx8, _, rfl, ob8, lp_no_parse_robot, _, rfl, H0, p, L, tas, Ts, s8, n, rfl, hP8, hG, B8, ⟨fun u s9 h9 v H9 hv hP9 => goon s9 H9 (by rw [hs]; exact h9) hP9, fun l c he => goer l c (by rw [hs]; exact he)⟩⟩
        · have z1 : ¬ (peek Ts s8).text = wRobot := fun y => z (by rw [y, e_robot])
          refine ⟨_, rfl, fun z => ?_, fun z => ?_⟩
          · have z : (peek Ts s8).text = wPut := sx_inj (by rw [← e_put]; exact z)
            have hs : parseStmt Ts n s8 = parsePut Ts n s8 := by simp only [parseStmt, if_neg z1, if_pos z]
            refine ⟨_, rfl, p, dx8, _, rfl, ob8, lp_no_parse_put, _, rfl, H0, p, L, tas, Ts, s8, n, rfl, hP8, hG, B8, ⟨fun u s9 h9 v H9 hv hP9 => goon s9 H9 (by rw [hs]; exact h9) hP9, fun l c he => goer l c (by rw [hs]; exact he)⟩⟩
          · have z2 : ¬ (peek Ts s8).text = wPut := fun y => z (by rw [y, e_put])
            refine ⟨_, rfl, fun z => ?_, fun z => ?_⟩
            · have z : (peek Ts s8).text = wWhen := sx_inj (by rw [← e_when]; exact z)
              have hs : parseStmt Ts n s8 = parseRule Ts s8 := by simp only [parseStmt, if_neg z1, if_neg z2, if_pos z]
              refine ⟨_, rfl, p, dx8, _, rfl, ob8, lp_no_parse_rule, H0, p, L, tas, Ts, s8, rfl, hP8, hG, B8, ⟨fun u s9 h9 v H9 hv hP9 => goon s9 H9 (by rw [hs]; exact h9) hP9, fun l c he => goer l c (by rw [hs]; exact he)⟩⟩
            · have z3 : ¬ (peek Ts s8).text = wWhen := fun y => z (by rw [y, e_when])
              refine ⟨_, rfl, p, dx8, _, rfl, ob8, lp_no_fail, H0, p, L, tas, Ts, s8, rfl, hP8, B8.at_, goer _ _ ?_⟩
              simp only [parseStmt, if_neg z1, if_neg z2, if_neg z3]
      · have hk : (peek Ts s8).kind = .fin := Decidable.byContradiction fun z => h (by
          show (!decide (V.str (peek Ts s8).kind.str = V.str Kd.fin.str)) = true
          rw [decide_eq_false fun y => z (kd_inj (b := .fin) (V.str.inj y))]
          rfl)
        have hres : parsePlan Ts = .ok (n, s8) := by
          rw [hpre (.ok ((), s8)) (by rw [hst]; simp only [parseStmts, if_pos hk])]
        obtain ⟨hno, hQ⟩ := hok n s8 hres
        obtain ⟨fas, hfa, hfas⟩ := hP8.fa
        rw [hno] at hfas
        have hfas : fas = [] := by
          have := hfas.len
          exact List.length_eq_zero_iff.mp this
        subst hfas
        refine ⟨_, rfl, p, _, dx8, _, _, rfl, ob8, T.p.par.c, T.p.par.n _ (by simp), lp_faults, (by show 0 ≤ sizeLine; decide), fun el nel => ?_⟩
        have smE := sameUpd (o := .lst []) (Same.refl H8) nel
        refine ⟨.list [], .list [], .lst (SqL.of (smE _ _ hfa)) .nil, .lst (SqL.of upd_same) .nil, rfl, rfl, _, rfl, ?_⟩
        refine iteF ?_
        have hP9 := hP8.mono smE
        generalize upd H8 el (.lst []) = H9 at *
        refine ⟨_, rfl, (n : Int), rfl, by omega, by omega, fun D nD => ?_⟩
        obtain ⟨dx9, ob9⟩ := hP9.ob
        refine lc_range (lo := 0) (n := ((n : Nat) : Int).toNat) (vs := [8]) (fun i H => H D = some (.lst (((List.range i).map fun j => (getA s8.spots j).getD 0).map fun m : Nat => V.int m)) ∧ Same H9 H) ⟨upd_same, sameUpd (Same.refl H9) nD⟩ ?_ ?_
        · rintro i H10 hi ⟨hD, sm10⟩
          have hP10 := hP9.mono sm10
          refine ⟨rfl, _, rfl, p, _, dx9, _, _, rfl, sm10 _ _ ob9, T.p.par.c, T.p.par.n _ (by simp), lp_spots, L.sd, rfl, .inl ⟨_, .inl hP10.sp⟩, _, rfl, _, DGet.k (k := Sum.inl ((0 : Int) + (i : Nat))) hP10.sp, _, hD, ?_, ?_, ?_⟩
          · rw [List.length_map, List.length_map, List.length_range, sizeLine_eq]
            omega
          · rw [upd_same, spots_get, List.range_succ, List.map_append, List.map_append]
            rfl
          · exact sameUpd sm10 nD
        · rintro H10 ⟨hD, sm10⟩
          rw [Int.toNat_natCast] at hD
          have hfl : ((List.range n).map fun j => (getA s8.spots j).getD 0) = (planOf n s8).floor := rfl
          rw [hfl] at hD
          refine ⟨D, _, rfl, .inl ⟨SqL.of hD, fun fa nfa => ?_⟩⟩
          have smf := sameUpd (o := .tup ((planOf n s8).floor.map fun m : Nat => V.int m)) (Same.refl H10) nfa
          have hP11 := hP9.mono (sm10.trans smf)
          have atf := @upd_same H10 fa (.tup ((planOf n s8).floor.map fun m : Nat => V.int m))
          generalize upd H10 fa (.tup ((planOf n s8).floor.map fun m : Nat => V.int m)) = H11 at *
          obtain ⟨dx11, ob11⟩ := hP11.ob
          refine ⟨_, rfl, p, _, dx11, _, _, rfl, ob11, T.p.par.c, T.p.par.n _ (by simp), lp_signs, L.sl, _, rfl, SqL.of hP11.si, fun sa osa nsa oc od => ?_⟩
          have sms := sameUpd (o := .frz osa (.tup (s8.signs.map sV))) (Same.refl H11) nsa
          have hP12 := hP11.mono sms
          have ats : TupN (upd H11 sa (.frz osa (.tup (s8.signs.map sV)))) sa (s8.signs.map sV) := ⟨osa, oc, od, upd_same⟩
          generalize upd H11 sa (.frz osa (.tup (s8.signs.map sV))) = H12 at *
          refine ⟨_, rfl, p, _, dx11, _, _, rfl, sms _ _ ob11, T.p.par.c, T.p.par.n _ (by simp), lp_moods, L.ml, _, rfl, SqL.of hP12.mo, fun ma oma nma mc md => ?_⟩
          have smm := sameUpd (o := .frz oma (.tup (s8.moods.map sV))) (Same.refl H12) nma
          have hP13 := hP12.mono smm
          have atm : TupN (upd H12 ma (.frz oma (.tup (s8.moods.map sV)))) ma (s8.moods.map sV) := ⟨oma, mc, md, upd_same⟩
          generalize upd H12 ma (.frz oma (.tup (s8.moods.map sV))) = H13 at *
          obtain ⟨ras, hra, hras⟩ := hP13.ro
          refine ⟨_, rfl, _, rfl, p, _, dx11, _, _, rfl, smm _ _ (sms _ _ ob11), T.p.par.c, T.p.par.n _ (by simp), lp_robots, L.rl, _, rfl, .inl ⟨SqL.of hra, fun ra nra => ?_⟩⟩
          have smr := sameUpd (o := .tup (ras.map V.ref)) (Same.refl H13) nra
          have hP14 := hP13.mono smr
          have atr := @upd_same H13 ra (.tup (ras.map V.ref))
          generalize upd H13 ra (.tup (ras.map V.ref)) = H14 at *
          refine ⟨_, rfl, p, _, dx11, _, _, rfl, smr _ _ (smm _ _ (sms _ _ ob11)), T.p.par.c, T.p.par.n _ (by simp), lp_rules, ?_⟩
          intro x dx0 nx ndx ne0
          refine init_at (names := planF) rfl nx ndx fun H15 sm15 hx => ⟨rfl, ?_⟩
          obtain ⟨dp, hdp⟩ := hx
          have hP15 := hP14.mono sm15
          refine hQ x H15 (hP14.same.free nx) hP15.same ⟨dp, sa, ma, fa, ra, L.rd, ras, hdp, ats.mono fun _ z => sm15 _ _ (smr _ _ (smm _ _ z)), atm.mono fun _ z => sm15 _ _ (smr _ _ z), sm15 _ _ (smr _ _ (smm _ _ (sms _ _ atf))), sm15 _ _ atr, ?_, hP15.ru⟩
          exact Paired.mapP hras fun a r q => sm15 _ _ (smr _ _ q)
end
end Sw

end

section
set_option maxRecDepth 100000
set_option maxHeartbeats 4000000
/-! load -/
namespace Sw
open PySem PySem.Spec PyProof.Rows L2 SwA
section
variable {P : Program} {w : World} {K : PySem.W.Frag} {mg : Str → Option Value} {base : Heap}
def spLoad (K : PySem.W.Frag) : Sp := fun vs H Q E => ∃ text : Cs, vs = [.str (sx text)] ∧ text.length ≤ 90000 ∧
  (∀ n s, loads text = .ok (n, s) → s.faults = [] ∧ ∀ (a : Addr) (H' : Hp), H a = none → Same H H' → PlanAt K H' a (planOf n s) → Q (.ref a) H') ∧ (∀ l c, loads text = .error (l, c) → Syn K H E l c)
theorem sc_load : FnScope ["plan"] ["plan"] (defScope s_load) := ⟨rfl, rfl, rfl, by decide +kernel, rfl, by decide +kernel, by decide +kernel⟩
theorem ok_load (T : LoadT K mg) : FnE P w K mg base (L2.CX P w) 8 ("load", none) ["plan"] (spLoad K) := by
  obtain ⟨fd, F⟩ := T.d_load
  obtain ⟨fdT, GT, bT, kT⟩ := ok_tokenize (P := P) (w := w) (base := base) T.p.l
  obtain ⟨fdI, GI, bI, kI⟩ := ok_par_init (P := P) (w := w) (base := base) T.p
  obtain ⟨fdP, GP, bP, kP⟩ := ok_parse_plan (P := P) (w := w) (base := base) T
  refine ⟨fd, F.ok sc_load (fun vs H Q E h => ?_) (fun cdv A outer s H vs Q E hr h => ?_), F.bindsN fun _ _ _ _ _ _ us hl => match us, hl with | [_], _ => rfl, F.kp⟩
  · obtain ⟨text, rfl, _⟩ := h
    rfl
  · obtain ⟨text, rfl, hl, hok, her⟩ := h
    have hr2 : Room 2 _ := hr.mono (by decide)
    have hr4 : Room 4 _ := hr.mono (by decide)
    refine ⟨_, (pss_one (ps_ret (pe_meth0 (pe_make T.p.par.m GI hr2 rfl T.p.par.g bI .nil pass0 (pa_cons (pe_call GT hr4 rfl T.p.l.g_tokenize kT bT .nil (passes_call (takes_of rfl rfl rfl rfl) (fun _ _ _ _ h => h)) (pa_cons (pv 0) pa_nil)) pa_nil))
      T.p.par.c T.p.parse_plan.m GP hr bP .nil (passes_call (takes_of rfl rfl rfl rfl) (fun _ _ _ _ h => h))))), ?_⟩
    refine ⟨_, rfl, text, rfl, hl, fun ts ht a tas H1 na sm ha htk => ?_, fun l c he => her l c (by simp only [loads, he])⟩
    have hG := tokenize_good hl ht
    intro x dx nx ndx ne
    have xa : a ≠ x := ne_of_none ha nx
    have xd : a ≠ dx := ne_of_none ha ndx
    have s1 : Same H1 (upd (upd H1 dx (.own x)) x (.ins (He.ga K "Parser") dx [])) := sameUpd (sameUpd (Same.refl H1) ndx) nx
    refine ⟨H, x, dx, a, tas, ts, rfl, upd_same, s1 _ _ ha, htk.same s1, sm.trans s1, sm.free nx, na, fun L H2 hPA => ⟨rfl, ?_⟩⟩
    obtain ⟨dx2, ob2⟩ := hPA.ob
    have el : loads text = parsePlan ts := by simp only [loads, ht]
    refine ⟨x, dx2, _, rfl, ob2, lp_no_parse_plan, H, x, L, tas, ts, rfl, hPA, hG, fun n s h => hok n s (by rw [el]; exact h), fun l c h => her l c (by rw [el]; exact h)⟩
end
end Sw

end

section
set_option maxRecDepth 100000
set_option maxHeartbeats 4000000
/-! the mirror of the machine -/
namespace Sw
open PySem
def wRest : Cs := [114, 101, 115, 116]
abbrev Rob := Nat × Bool × Nat
structure MSt where
  floor : List Nat
  robots : List Rob
  deriving DecidableEq
def movedM (tile : Nat) (right : Bool) (tiles : Nat) : Nat × Bool :=
  if right = true then (if tile + 1 < tiles then (tile + 1, true) else (tile, false)) else (if 0 < tile then (tile - 1, false) else (tile, true))
def goM (move : Cs) (tile : Nat) (right : Bool) (tiles : Nat) : Nat × Bool := if move = wOn then movedM tile right tiles else if move = wBack then movedM tile (!right) tiles else (tile, right)
def actM (rules : List ((Nat × Nat) × Rule)) (st : MSt) (k : Nat) : Cs × MSt := match st.robots[k]? with
  | none => (wRest, st)
  | some (tile, right, mood) => match getA rules (mood, st.floor.getD tile 0) with
    | none => (wRest, st)
    | some r => (r.move, ⟨st.floor.set tile r.left, st.robots.set k ((goM r.move tile right st.floor.length).1, (goM r.move tile right st.floor.length).2, r.later)⟩)
/-- the first k robots have acted -/
def actsM (rules : List ((Nat × Nat) × Rule)) (st : MSt) : Nat → List Cs × MSt
  | 0 => ([], st)
  | k + 1 => ((actsM rules st k).1 ++ [(actM rules (actsM rules st k).2 k).1], (actM rules (actsM rules st k).2 k).2)
structure TickM where
  swept : List Nat
  words : List Cs
  state : MSt
def nextM (rules : List ((Nat × Nat) × Rule)) (st : MSt) : TickM := ⟨st.robots.map (·.1), (actsM rules st st.robots.length).1, (actsM rules st st.robots.length).2⟩
def firstM (pl : Plan) : MSt := ⟨pl.floor, pl.robots.map fun r => (r.1, r.2, 0)⟩
/-- a state of n tiles and m robots -/
structure WfM (n m : Nat) (st : MSt) : Prop where
  fl : st.floor.length = n
  ro : st.robots.length = m
  ti : ∀ r ∈ st.robots, r.1 < n
theorem movedM_lt {tile : Nat} {right : Bool} {tiles : Nat} (h : tile < tiles) : (movedM tile right tiles).1 < tiles := by
  unfold movedM
  split
  · split <;> (simp only; omega)
  · split <;> (simp only; omega)
theorem goM_lt {move : Cs} {tile : Nat} {right : Bool} {tiles : Nat} (h : tile < tiles) : (goM move tile right tiles).1 < tiles := by
  unfold goM
  split
  · exact movedM_lt h
  · split
    · exact movedM_lt h
    · exact h
theorem WfM.act {n m : Nat} {rules : List ((Nat × Nat) × Rule)} {st : MSt} {k : Nat} (h : WfM n m st) : WfM n m (actM rules st k).2 := by
  unfold actM
  split
  · exact h
  · rename_i tile right mood e
    split
    · exact h
    · rename_i r hr
      have ht : tile < n := h.ti _ (List.mem_of_getElem? e)
      refine ⟨by simpa using h.fl, by simpa using h.ro, fun q hq => ?_⟩
      rcases List.mem_or_eq_of_mem_set hq with z | z
      · exact h.ti _ z
      · rw [z, h.fl]
        exact goM_lt ht
theorem WfM.acts {n m : Nat} {rules : List ((Nat × Nat) × Rule)} {st : MSt} (h : WfM n m st) : ∀ k, WfM n m (actsM rules st k).2
  | 0 => h
  | k + 1 => (h.acts k).act
theorem WfM.next {n m : Nat} {rules : List ((Nat × Nat) × Rule)} {st : MSt} (h : WfM n m st) : WfM n m (nextM rules st).state := h.acts _
theorem acts_len (rules : List ((Nat × Nat) × Rule)) (st : MSt) : ∀ k, (actsM rules st k).1.length = k
  | 0 => rfl
  | k + 1 => by
    show ((actsM rules st k).1 ++ [_]).length = k + 1
    simp [acts_len rules st k]
end Sw

end

section
set_option maxRecDepth 100000
set_option maxHeartbeats 4000000
/-! is_int_in -/
namespace Sw
open PySem PySem.Spec PyProof.Rows L2 SwA
/-- a def of the module -/
structure DeT (K : PySem.W.Frag) (mg : Str → Option Value) (x : Str) (st : Stmt) : Prop where
  d : FD K (x, none) x x st
  g : mg x = some (.ref (He.ga K x))
inductive ArN (K : PySem.W.Frag) (H : Hp) : V → String → Prop
  | int (i : Int) : ArN K H (.int i) "int"
  | bl (b : Bool) : ArN K H (.bl b) "bool"
  | non : ArN K H .non "NoneType"
  | str (z : Str) : ArN K H (.str z) "str"
  | tup {a : Addr} {xs : List V} (e : H a = some (.tup xs)) : ArN K H (.ref a) "tuple"
  | lst {a : Addr} {xs : List V} (e : H a = some (.lst xs)) : ArN K H (.ref a) "list"
theorem ArN.ty {K : PySem.W.Frag} {H : Hp} {v : V} {n : String} (h : ArN K H v n) : TyX K H v (.type n) := by
  cases h with
  | int i => exact .base (.int i)
  | bl b => exact .base (.bl b)
  | non => exact .base .non
  | str z => exact .base (.str z)
  | tup e => exact .base (.tup e)
  | lst e => exact .base (.lst e)
theorem ArN.same {K : PySem.W.Frag} {H H' : Hp} {v : V} {n : String} (h : ArN K H v n) (s : Same H H') : ArN K H' v n := by
  cases h with
  | int i => exact .int i
  | bl b => exact .bl b
  | non => exact .non
  | str z => exact .str z
  | tup e => exact .tup (s _ _ e)
  | lst e => exact .lst (s _ _ e)
def isIntIn (v : V) (lo hi : Int) : Bool := match v with
  | .int i => decide (lo ≤ i) && decide (i ≤ hi)
  | _ => false
end Sw

end

section
set_option maxRecDepth 100000
set_option maxHeartbeats 4000000
/-! is_int_in -/
namespace Sw
open PySem PySem.Spec PyProof.Rows L2 SwA
structure IntT (K : PySem.W.Frag) (mg : Str → Option Value) : Prop where
  isinstance : mg "isinstance" = none
  bool : mg "bool" = none
  int : mg "int" = none
  is_int_in : DeT K mg "is_int_in" s_is_int_in
section
variable {P : Program} {w : World} {K : PySem.W.Frag} {mg : Str → Option Value} {base : Heap}
def spIsIntIn (K : PySem.W.Frag) : Sp := fun vs H Q _ => ∃ (v : V) (n : String) (lo hi : Int), vs = [v, .int lo, .int hi] ∧ ArN K H v n ∧ Q (.bl (isIntIn v lo hi)) H
theorem sc_is_int_in : FnScope ["value", "low", "high"] ["value", "low", "high"] (defScope s_is_int_in) := ⟨rfl, rfl, rfl, by decide +kernel, rfl, by decide +kernel, by decide +kernel⟩
theorem ok_int_in (T : IntT K mg) : FnE P w K mg base CX0 1 ("is_int_in", none) ["value", "low", "high"] (spIsIntIn K) := by
  obtain ⟨fd, F⟩ := T.is_int_in.d
  refine ⟨fd, F.ok sc_is_int_in (fun vs H Q E h => ?_) (fun cdv A outer s H vs Q E hr h => ?_), F.bindsN fun _ _ _ _ _ _ us hl => match us, hl with | [_, _, _], _ => rfl, F.kp⟩
  · obtain ⟨v, n, lo, hi, rfl, _⟩ := h
    rfl
  · obtain ⟨v, n, lo, hi, rfl, hv, k⟩ := h
    refine ⟨_, PSs.nox (pss_one (ps_ret (pe_and (pe_callB call_isi (by rfl) T.isinstance (by decide +kernel) (pa_cons (pv 0) (pa_cons (pe_bltn (v := .ty "int") (by rfl) T.int (by decide +kernel) rfl) pa_nil)))
      (pe_and (pe_not (pe_callB call_isi (by rfl) T.isinstance (by decide +kernel) (pa_cons (pv 0) (pa_cons (pe_bltn (v := .ty "bool") (by rfl) T.bool (by decide +kernel) rfl) pa_nil))))
      (pe_one (pe_chain op_le op_le (pv 1) (pv 0) (pv 2))))))), ?_⟩
    have no : ∀ (x : V), kitB n "int" = some false → isIntIn v lo hi = false → _ := fun x h1 h2 => True.intro
    cases hv with
    | int i =>
      refine ⟨_, rfl, _, _, _, _, true, rfl, .ty "int", (ArN.int (K := K) (H := H) i).ty, kit_ty (by decide +kernel), _, rfl, ?_⟩
      refine ⟨_, rfl, _, _, _, _, false, rfl, .ty "bool", (ArN.int (K := K) (H := H) i).ty, kit_ty (by decide +kernel), _, rfl, _, rfl, ?_⟩
      refine ⟨_, rfl, _, rfl, _, _, rfl, rfl, _, rfl, ?_⟩
      refine ite2 (fun h => ?_) (fun h => ?_)
      · refine ⟨_, rfl, _, _, rfl, rfl, ?_⟩
        have e : isIntIn (.int i) lo hi = decide (i ≤ hi) := by simp only [isIntIn]; rw [h]; rfl
        rw [e] at k
        exact k
      · have e : isIntIn (.int i) lo hi = false := by
          simp only [isIntIn]
          have : decide (lo ≤ i) = false := by simpa using h
          rw [this]
          rfl
        rw [e] at k
        exact k
    | bl b =>
      refine ⟨_, rfl, _, _, _, _, true, rfl, .ty "int", (ArN.bl (K := K) (H := H) b).ty, kit_ty (by decide +kernel), _, rfl, ?_⟩
      refine ⟨_, rfl, _, _, _, _, true, rfl, .ty "bool", (ArN.bl (K := K) (H := H) b).ty, kit_ty (by decide +kernel), _, rfl, _, rfl, ?_⟩
      exact k
    | non => exact ⟨_, rfl, _, _, _, _, false, rfl, .ty "int", (ArN.non (K := K) (H := H)).ty, kit_ty (by decide +kernel), _, rfl, k⟩
    | str z => exact ⟨_, rfl, _, _, _, _, false, rfl, .ty "int", (ArN.str (K := K) (H := H) z).ty, kit_ty (by decide +kernel), _, rfl, k⟩
    | tup e => exact ⟨_, rfl, _, _, _, _, false, rfl, .ty "int", (ArN.tup (K := K) (H := H) e).ty, kit_ty (by decide +kernel), _, rfl, k⟩
    | lst e => exact ⟨_, rfl, _, _, _, _, false, rfl, .ty "int", (ArN.lst (K := K) (H := H) e).ty, kit_ty (by decide +kernel), _, rfl, k⟩
end
end Sw

end

section
set_option maxRecDepth 100000
set_option maxHeartbeats 4000000
/-! the machine -/
namespace Sw
open PySem PySem.Spec PyProof.Rows L2 SwA
structure MachT (K : PySem.W.Frag) (mg : Str → Option Value) : Prop where
  lo : LoadT K mg
  isinstance : mg "isinstance" = none
  bool : mg "bool" = none
  REST : ∃ t, mg "REST" = some (.str "rest" t)
  is_int_in : DeT K mg "is_int_in" s_is_int_in
  replaced : DeT K mg "replaced" s_replaced
  state : MkC K mg "State" ["floor", "robots"]
  d_state : FD K ("State", some "__init__") "__init__" "State.__init__" s_State_init
  first_state : DeT K mg "first_state" s_first_state
  moved : DeT K mg "moved" s_moved
  act : DeT K mg "act" s_act
  tick : MkC K mg "Tick" ["swept", "words", "state"]
  d_tick : FD K ("Tick", some "__init__") "__init__" "Tick.__init__" s_Tick_init
  next_tick : DeT K mg "next_tick" s_next_tick
theorem MachT.it {K : PySem.W.Frag} {mg : Str → Option Value} (T : MachT K mg) : IntT K mg := ⟨T.isinstance, T.bool, T.lo.p.int, T.is_int_in⟩
section
variable {P : Program} {w : World} {K : PySem.W.Frag} {mg : Str → Option Value} {base : Heap}
theorem ok_is_int_in (T : MachT K mg) : FnE P w K mg base CX0 1 ("is_int_in", none) ["value", "low", "high"] (spIsIntIn K) := ok_int_in T.it
/-! ### replaced -/
def spReplaced (K : PySem.W.Frag) : Sp := fun vs H Q _ => ∃ (a : Addr) (i : Nat) (v : V) (xs : List V), vs = [.ref a, .int i, v] ∧ H a = some (.tup xs) ∧ i < xs.length ∧ xs.length ≤ 100000 ∧
  ∀ (b : Addr) (H' : Hp), Same H H' → H' b = some (.tup (xs.set i v)) → Q (.ref b) H'
theorem sc_replaced : FnScope ["values", "place", "value"] ["values", "place", "value"] (defScope s_replaced) := ⟨rfl, rfl, rfl, by decide +kernel, rfl, by decide +kernel, by decide +kernel⟩
theorem set_cut {xs : List V} {i : Nat} {v : V} (h : i < xs.length) : xs.set i v = xs.take i ++ (v :: xs.drop (i + 1)) := by
  rw [List.set_eq_take_append_cons_drop, if_pos h]
theorem ok_replaced (T : MachT K mg) : FnE P w K mg base CX0 1 ("replaced", none) ["values", "place", "value"] (spReplaced K) := by
  obtain ⟨fd, F⟩ := T.replaced.d
  refine ⟨fd, F.ok sc_replaced (fun vs H Q E h => ?_) (fun cdv A outer s H vs Q E hr h => ?_), F.bindsN fun _ _ _ _ _ _ us hl => match us, hl with | [_, _, _], _ => rfl, F.kp⟩
  · obtain ⟨a, i, v, xs, rfl, _⟩ := h
    rfl
  · obtain ⟨a, i, v, xs, rfl, ha, hi, hz, k⟩ := h
    refine ⟨_, PSs.nox (pss_one (ps_ret (pe_op op_catA (pe_op op_catA (pe_slice sl_tupA (pv 0) po_none (po_some (pv 1))) (pe_tup (pa_cons (pv 2) pa_nil))) (pe_slice sl_tupA (pv 0) (po_some (pe_op op_add (pv 1) pe_int)) po_none)))), ?_⟩
    have c1 : cutV xs none (some (i : Int)) = xs.take i := by
      show (xs.drop (HT.sIx xs.length 0 none)).take (HT.sIx xs.length xs.length (some (i : Int)) - HT.sIx xs.length 0 none) = xs.take i
      rw [HT.sIx_none, HT.sIx_nat, Nat.min_eq_left (by omega)]
      rfl
    have c2 : cutV xs (some ((i : Int) + 1)) none = xs.drop (i + 1) := by
      have e : ((i : Int) + 1) = ((i + 1 : Nat) : Int) := rfl
      rw [e]
      show (xs.drop (HT.sIx xs.length 0 (some ((i + 1 : Nat) : Int)))).take (HT.sIx xs.length xs.length none - HT.sIx xs.length 0 (some ((i + 1 : Nat) : Int))) = xs.drop (i + 1)
      rw [HT.sIx_none, HT.sIx_nat, Nat.min_eq_left (by omega)]
      exact List.take_of_length_le (by rw [List.length_drop]; omega)
    have w1 : ¬ (HT.sIx xs.length 0 none = 0 ∧ HT.sIx xs.length xs.length (some (i : Int)) = xs.length) := by
      rw [HT.sIx_nat]
      omega
    have w2 : ¬ (HT.sIx xs.length 0 (some ((i : Int) + 1)) = 0 ∧ HT.sIx xs.length xs.length none = xs.length) := by
      have e : ((i : Int) + 1) = ((i + 1 : Nat) : Int) := rfl
      rw [e, HT.sIx_nat]
      omega
    have es := set_cut (v := v) hi
    refine ⟨_, rfl, _, rfl, _, rfl, a, xs, rfl, SqT.of ha, fun q => absurd q w1, fun _ p1 n1 => ?_⟩
    rw [c1]
    have s1 := sameUpd (o := .tup (xs.take i)) (Same.refl H) n1
    refine ⟨_, rfl, (by show 1 ≤ sizeLine; decide), fun p2 n2 => ?_⟩
    have s2 := s1.trans (sameUpd (o := .tup [v]) (Same.refl _) n2)
    have e1 : (upd (upd H p1 (.tup (xs.take i))) p2 (.tup [v])) p1 = some (.tup (xs.take i)) := by rw [upd_ne (ne_of_none upd_same n2), upd_same]
    have lt : (xs.take i).length = i := by rw [List.length_take]; omega
    have ld : (xs.drop (i + 1)).length = xs.length - (i + 1) := List.length_drop
    -- the second sum, from a tuple of take i ++ [v]
    have fin : ∀ (q : Addr) (H3 : Hp), Same H H3 → H3 q = some (.tup (xs.take i ++ [v])) →
        tSl (rSlA K) (tVar 0) (tPart (tOp (rI0 fun i j => .int (i + j)) (tVar 1) (tC (.int 1)))) tNoPart [some (.ref a), some (.int i), some v] H3 fun y H2 => rCatA K (.ref q) y H2 Q := fun q H3 s3 hq => by
      refine ⟨_, rfl, _, rfl, _, _, rfl, rfl, _, rfl, a, xs, rfl, SqT.of (s3 _ _ ha), fun z => absurd z w2, fun _ p4 n4 => ?_⟩
      rw [c2]
      have s4 := sameUpd (o := .tup (xs.drop (i + 1))) (Same.refl H3) n4
      refine ⟨q, p4, _, _, rfl, rfl, SqT.of (s4 _ _ hq), SqT.of upd_same, ?_, fun z => ?_, fun _ z => ?_, fun _ z p5 n5 => ?_⟩
      · rw [List.length_append, lt, ld, sizeLine_eq]
        simp
        omega
      · exact absurd z (by simp)
      · refine k q _ (s3.trans s4) ?_
        rw [s4 _ _ hq, es, z]
      · refine k p5 _ ((s3.trans s4).trans (sameUpd (Same.refl _) n5)) ?_
        rw [upd_same, es, List.append_assoc]
        rfl
    refine ⟨p1, p2, _, _, rfl, rfl, SqT.of e1, SqT.of upd_same, ?_, fun z => ?_, fun _ z => ?_, fun z1 z2 p3 n3 => ?_⟩
    · rw [lt, sizeLine_eq]
      simp
      omega
    · refine fin p2 _ s2 ?_
      rw [upd_same, z]
      rfl
    · exact absurd z (by simp)
    · exact fin p3 _ (s2.trans (sameUpd (Same.refl _) n3)) upd_same
end
end Sw

end

section
set_option maxRecDepth 100000
set_option maxHeartbeats 4000000
/-! utilities -/
namespace Sw
open PySem PySem.Spec PyProof.Rows L2 SwA
abbrev iV (n : Nat) : V := .int n
abbrev plFs (a b c d e : V) : List (Str × V) := [("signs", a), ("moods", b), ("floor", c), ("robots", d), ("rules", e)]
theorem lpl_signs {a b c d e : V} : List.lookup ("signs" : Str) (plFs a b c d e) = some a := by kernel_rfl
theorem lpl_moods {a b c d e : V} : List.lookup ("moods" : Str) (plFs a b c d e) = some b := by kernel_rfl
theorem lpl_floor {a b c d e : V} : List.lookup ("floor" : Str) (plFs a b c d e) = some c := by kernel_rfl
theorem lpl_robots {a b c d e : V} : List.lookup ("robots" : Str) (plFs a b c d e) = some d := by kernel_rfl
theorem lpl_rules {a b c d e : V} : List.lookup ("rules" : Str) (plFs a b c d e) = some e := by kernel_rfl
theorem walk_enumT {K : PySem.W.Frag} {a : Addr} {xs : List V} : Walk (ItET K a) xs.length (fun H => SqT K H a xs) (YPair (fun i => some (.int (i : Nat))) (fun i => xs[i]?)) := by
  refine ⟨fun i _ hi q => ⟨xs, xs[i], q, by simp [hi]⟩, fun _ q => ⟨xs, q, rfl⟩, fun i H v H' _ q y => ?_⟩
  obtain ⟨T, x, h1, h2, h3, h4⟩ := y
  exact ⟨T, .int (i : Nat), x, h1, h2, h3, rfl, h4 xs q⟩
/-! ### the rules asked -/
theorem rules_get {H : Hp} {k : Nat × Nat} : ∀ {rs : List ((Nat × Nat) × Rule)} {kvs : List (List Key × V)}, Paired (RuleAt H) rs kvs →
    (getA rs k = none → valV kvs (keyT k) = none) ∧ (∀ r, getA rs k = some r → ∃ t, valV kvs (keyT k) = some (.ref t) ∧ H t = some (.tup [.int r.left, sV r.move, .int r.later]))
  | _, _, .nil => ⟨fun _ => rfl, fun r h => by cases h⟩
  | _, _, .cons (a := r0) (b := kv) (l₁ := l) (l₂ := m) h t => by
    have ih := rules_get (k := k) t
    by_cases e : r0.1 = k
    · have e1 : getA (r0 :: l) k = some r0.2 := by unfold getA; rw [List.find?_cons, decide_eq_true e]; rfl
      have e2 : valV (kv :: m) (keyT k) = some kv.2 := valV_pos (by rw [h.1, e])
      refine ⟨(fun z => by rw [e1] at z; cases z), fun r z => ?_⟩
      rw [e1] at z
      cases z
      obtain ⟨_, tt, h2, h3⟩ := h
      exact ⟨tt, by rw [e2, h2], h3⟩
    · have e1 : getA (r0 :: l) k = getA l k := by unfold getA; rw [List.find?_cons, decide_eq_false e]
      have e2 : valV (kv :: m) (keyT k) = valV m (keyT k) := valV_neg (by rw [h.1]; exact fun q => e (keyT_inj.mp q))
      rw [e1, e2]
      exact ih
section
variable {K : PySem.W.Frag} {H H' : Hp}
def cutH (H : Hp) (l : List Addr) : Hp := fun a => if a ∈ l then none else H a
theorem cutH_same {l : List Addr} : Same (cutH H l) H := fun a o e => by
  unfold cutH at e
  split at e
  · cases e
  · exact e
theorem cutH_in {l : List Addr} {a : Addr} (h : a ∈ l) : cutH H l a = none := by
  unfold cutH
  rw [if_pos h]
theorem cutH_out {l : List Addr} {a : Addr} (h : a ∉ l) : cutH H l a = H a := by
  unfold cutH
  rw [if_neg h]
end
end Sw

end

section
set_option maxRecDepth 100000
set_option maxHeartbeats 4000000
/-! the machine: states, ticks -/
namespace Sw
open PySem PySem.Spec PyProof.Rows L2 SwA
def Rob3At (H : Hp) (a : Addr) (r : Rob) : Prop := H a = some (.tup [.int r.1, .bl r.2.1, .int r.2.2])
def StateAt (K : PySem.W.Frag) (H : Hp) (a : Addr) (st : MSt) : Prop := ∃ (dx fa ra : Addr) (ras : List Addr), H a = some (.ins (He.ga K "State") dx [("floor", .ref fa), ("robots", .ref ra)]) ∧
  H fa = some (.tup (st.floor.map iV)) ∧ H ra = some (.tup (ras.map V.ref)) ∧ Paired (Rob3At H) ras st.robots
theorem StateAt.same {K : PySem.W.Frag} {H H' : Hp} {a : Addr} {st : MSt} (s : Same H H') (h : StateAt K H a st) : StateAt K H' a st :=
  let ⟨dx, fa, ra, ras, e1, e2, e3, e4⟩ := h
  ⟨dx, fa, ra, ras, s _ _ e1, s _ _ e2, s _ _ e3, Paired.mapP e4 fun _ _ q => s _ _ q⟩
def TickAt (K : PySem.W.Frag) (H : Hp) (a : Addr) (tk : TickM) : Prop := ∃ (dx sw wo sa : Addr), H a = some (.ins (He.ga K "Tick") dx [("swept", .ref sw), ("words", .ref wo), ("state", .ref sa)]) ∧
  TupN H sw (tk.swept.map iV) ∧ H wo = some (.tup (tk.words.map sV)) ∧ StateAt K H sa tk.state
theorem TickAt.same {K : PySem.W.Frag} {H H' : Hp} {a : Addr} {tk : TickM} (s : Same H H') (h : TickAt K H a tk) : TickAt K H' a tk :=
  let ⟨dx, sw, wo, sa, e1, e2, e3, e4⟩ := h
  ⟨dx, sw, wo, sa, s _ _ e1, e2.mono fun _ z => s _ _ z, s _ _ e3, e4.same s⟩
theorem put_state (a b : V) : putF "robots" b (putF "floor" a []) = ([("floor", a), ("robots", b)] : List (Str × V)) := by kernel_rfl
theorem put_tick (a b c : V) : putF "state" c (putF "words" b (putF "swept" a [])) = ([("swept", a), ("words", b), ("state", c)] : List (Str × V)) := by kernel_rfl
theorem ls_floor {a b : V} : List.lookup ("floor" : Str) ([("floor", a), ("robots", b)] : List (Str × V)) = some a := by kernel_rfl
theorem ls_robots {a b : V} : List.lookup ("robots" : Str) ([("floor", a), ("robots", b)] : List (Str × V)) = some b := by kernel_rfl
theorem lt_swept {a b c : V} : List.lookup ("swept" : Str) ([("swept", a), ("words", b), ("state", c)] : List (Str × V)) = some a := by kernel_rfl
theorem lt_words {a b c : V} : List.lookup ("words" : Str) ([("swept", a), ("words", b), ("state", c)] : List (Str × V)) = some b := by kernel_rfl
theorem lt_state {a b c : V} : List.lookup ("state" : Str) ([("swept", a), ("words", b), ("state", c)] : List (Str × V)) = some c := by kernel_rfl
section
variable {P : Program} {w : World} {K : PySem.W.Frag} {mg : Str → Option Value} {base : Heap}
theorem sc_state : FnScope ["self", "floor", "robots"] ["self", "floor", "robots"] (defScope s_State_init) := ⟨rfl, rfl, rfl, by decide +kernel, rfl, by decide +kernel, by decide +kernel⟩
theorem ok_state (T : MachT K mg) : FnE P w K mg base CX0 1 ("State", some "__init__") ["self", "floor", "robots"] (spInit (He.ga K "State") ["floor", "robots"]) := by
  obtain ⟨fd, F⟩ := T.d_state
  refine ⟨fd, F.ok sc_state (fun vs H Q E h => ?_) (fun cdv A outer s H vs Q E hr h => ?_), F.bindsN fun _ _ _ _ _ _ us hl => match us, hl with | [_, _, _], _ => rfl, F.kp⟩
  · obtain ⟨a, dx, args, rfl, e, _⟩ := h
    simp [e]
  · obtain ⟨p, dx, args, rfl, e, hp, k⟩ := h
    obtain ⟨v1, v2, rfl⟩ : ∃ v1 v2, args = [v1, v2] := by
      match args, e with
      | [v1, v2], _ => exact ⟨v1, v2, rfl⟩
    refine ⟨_, PSs.nox (pss_cons (ps_fld (pv 0) (pv 1) rfl) (pss_one (ps_fld (pv 0) (pv 2) rfl))), ?_⟩
    refine ⟨_, rfl, _, rfl, p, _, dx, _, rfl, hp, T.state.c, T.state.n _ (by simp), lnZ ln0, ?_⟩
    refine ⟨_, rfl, _, rfl, p, _, dx, _, rfl, upd_same, T.state.c, T.state.n _ (by simp), lnZ (lnS ln0), ?_⟩
    refine k _ ?_ fun b hb => by rw [upd_ne hb, upd_ne hb]
    rw [upd_same, put_state]
    rfl
theorem sc_tick : FnScope ["self", "swept", "words", "state"] ["self", "swept", "words", "state"] (defScope s_Tick_init) := ⟨rfl, rfl, rfl, by decide +kernel, rfl, by decide +kernel, by decide +kernel⟩
theorem ok_tick (T : MachT K mg) : FnE P w K mg base CX0 1 ("Tick", some "__init__") ["self", "swept", "words", "state"] (spInit (He.ga K "Tick") ["swept", "words", "state"]) := by
  obtain ⟨fd, F⟩ := T.d_tick
  refine ⟨fd, F.ok sc_tick (fun vs H Q E h => ?_) (fun cdv A outer s H vs Q E hr h => ?_), F.bindsN fun _ _ _ _ _ _ us hl => match us, hl with | [_, _, _, _], _ => rfl, F.kp⟩
  · obtain ⟨a, dx, args, rfl, e, _⟩ := h
    simp [e]
  · obtain ⟨p, dx, args, rfl, e, hp, k⟩ := h
    obtain ⟨v1, v2, v3, rfl⟩ : ∃ v1 v2 v3, args = [v1, v2, v3] := by
      match args, e with
      | [v1, v2, v3], _ => exact ⟨v1, v2, v3, rfl⟩
    refine ⟨_, PSs.nox (pss_cons (ps_fld (pv 0) (pv 1) rfl) (pss_cons (ps_fld (pv 0) (pv 2) rfl) (pss_one (ps_fld (pv 0) (pv 3) rfl)))), ?_⟩
    refine ⟨_, rfl, _, rfl, p, _, dx, _, rfl, hp, T.tick.c, T.tick.n _ (by simp), lnZ ln0, ?_⟩
    refine ⟨_, rfl, _, rfl, p, _, dx, _, rfl, upd_same, T.tick.c, T.tick.n _ (by simp), lnZ (lnS ln0), ?_⟩
    refine ⟨_, rfl, _, rfl, p, _, dx, _, rfl, upd_same, T.tick.c, T.tick.n _ (by simp), lnZ (lnS (lnS ln0)), ?_⟩
    refine k _ ?_ fun b hb => by rw [upd_ne hb, upd_ne hb, upd_ne hb]
    rw [upd_same, put_tick]
    rfl
/-! ### moved -/
def spMoved : Sp := fun vs H Q _ => ∃ (tile tiles : Nat) (right : Bool), vs = [.int tile, .bl right, .int tiles] ∧ tile < tiles ∧
  ∀ (b : Addr) (H' : Hp), Same H H' → H' b = some (.tup [.int (movedM tile right tiles).1, .bl (movedM tile right tiles).2]) → Q (.ref b) H'
theorem sc_moved : FnScope ["tile", "is_right", "tiles", "later"] ["tile", "is_right", "tiles"] (defScope s_moved) := ⟨rfl, rfl, rfl, by decide +kernel, rfl, by decide +kernel, by decide +kernel⟩
theorem ok_moved (T : MachT K mg) : FnE P w K mg base CX0 1 ("moved", none) ["tile", "is_right", "tiles"] spMoved := by
  obtain ⟨fd, F⟩ := T.moved.d
  refine ⟨fd, F.ok sc_moved (fun vs H Q E h => ?_) (fun cdv A outer s H vs Q E hr h => ?_), F.bindsN fun _ _ _ _ _ _ us hl => match us, hl with | [_, _, _], _ => rfl, F.kp⟩
  · obtain ⟨tile, tiles, right, rfl, _⟩ := h
    rfl
  · obtain ⟨tile, tiles, right, rfl, ht, k⟩ := h
    refine ⟨_, PSs.nox (pss_cons (ps_set (i := 3) sc_moved.nd rfl (.inl rfl) (pe_ifExp (pt_val (pv 1)) (pe_op op_add (pv 0) pe_int) (pe_op op_sub (pv 0) pe_int)))
      (pss_one (ps_ret (pe_ifExp (pt_chain op_le op_lt pe_int (pv 3) (pv 2)) (pe_tup (pa_cons (pv 3) (pa_cons (pv 1) pa_nil))) (pe_tup (pa_cons (pv 0) (pa_cons (pe_not (pv 1)) pa_nil))))))), ?_⟩
    have fin : ∀ (x y : V), V.int (movedM tile right tiles).1 = x → V.bl (movedM tile right tiles).2 = y → ∀ p, H p = none → Q (.ref p) (upd H p (.tup [x, y])) := fun x y e1 e2 p np => by
      refine k p _ (sameUpd (Same.refl H) np) ?_
      rw [upd_same, e1, e2]
    cases right with
    | true =>
      refine ⟨_, rfl, _, rfl, ?_⟩
      refine ⟨_, rfl, _, _, rfl, rfl, ?_⟩
      refine ⟨_, rfl, _, _, rfl, rfl, _, rfl, ?_⟩
      refine ite2 (fun h => ?_) (fun h => ?_)
      · refine ⟨_, rfl, _, _, rfl, rfl, _, rfl, ?_⟩
        refine ite2 (fun h2 => ?_) (fun h2 => ?_)
        · have h2 : ((tile : Int) + 1) < tiles := of_decide_eq_true h2
          exact ⟨_, rfl, _, rfl, (by show 2 ≤ sizeLine; decide), fin _ _ (by simp only [movedM, if_pos (show tile + 1 < tiles by omega)]; rfl) (by simp only [movedM, if_pos (show tile + 1 < tiles by omega)]; rfl)⟩
        · have h2 : ¬ ((tile : Int) + 1) < tiles := fun q => h2 (decide_eq_true q)
          exact ⟨_, rfl, _, rfl, _, rfl, (by show 2 ≤ sizeLine; decide), fin _ _ (by simp only [movedM, if_neg (show ¬ tile + 1 < tiles by omega)]; rfl) (by simp only [movedM, if_neg (show ¬ tile + 1 < tiles by omega)]; rfl)⟩
      · exfalso
        exact h (decide_eq_true (by omega))
    | false =>
      refine ⟨_, rfl, _, rfl, ?_⟩
      refine ⟨_, rfl, _, _, rfl, rfl, ?_⟩
      refine ⟨_, rfl, _, _, rfl, rfl, _, rfl, ?_⟩
      refine ite2 (fun h => ?_) (fun h => ?_)
      · have h : (0 : Int) ≤ (tile : Int) - 1 := of_decide_eq_true h
        refine ⟨_, rfl, _, _, rfl, rfl, _, rfl, ?_⟩
        refine ite2 (fun h2 => ?_) (fun h2 => ?_)
        · refine ⟨_, rfl, _, rfl, (by show 2 ≤ sizeLine; decide), fin _ _ ?_ ?_⟩
          · simp only [movedM, if_pos (show 0 < tile by omega)]
            show V.int ((tile - 1 : Nat) : Int) = V.int ((tile : Int) - 1)
            congr 1
            omega
          · simp only [movedM, if_pos (show 0 < tile by omega)]
            rfl
        · exfalso
          exact h2 (decide_eq_true (by omega))
      · have h : ¬ (0 : Int) ≤ (tile : Int) - 1 := fun q => h (decide_eq_true q)
        refine ⟨_, rfl, ?_⟩
        refine iteF ⟨_, rfl, _, rfl, _, rfl, (by show 2 ≤ sizeLine; decide), fin _ _ ?_ ?_⟩
        · simp only [movedM, if_neg (show ¬ 0 < tile by omega)]; rfl
        · simp only [movedM, if_neg (show ¬ 0 < tile by omega)]; rfl
end
end Sw

end

section
set_option maxRecDepth 100000
set_option maxHeartbeats 4000000
/-! the machine: first_state, act, next_tick -/
namespace Sw
open PySem PySem.Spec PyProof.Rows L2 SwA
section
variable {P : Program} {w : World} {K : PySem.W.Frag} {mg : Str → Option Value} {base : Heap}
def spFirstState (K : PySem.W.Frag) : Sp := fun vs H Q _ => ∃ (pa : Addr) (pl : Plan), vs = [.ref pa] ∧ PlanAt K H pa pl ∧ pl.robots.length ≤ 100000 ∧ ∀ (b : Addr) (H' : Hp), H b = none → Same H H' → StateAt K H' b (firstM pl) → Q (.ref b) H'
abbrev fsN : List Str := ["parsed", "tile", "is_right"]
theorem sc_first_state : FnScope fsN ["parsed"] (defScope s_first_state) := ⟨rfl, rfl, rfl, by decide +kernel, rfl, by decide +kernel, by decide +kernel⟩
theorem ok_first_state (T : MachT K mg) : FnE P w K mg base CX0 3 ("first_state", none) ["parsed"] (spFirstState K) := by
  obtain ⟨fd, F⟩ := T.first_state.d
  obtain ⟨fdS, GS, bS, kS⟩ := ok_state (P := P) (w := w) (base := base) T
  refine ⟨fd, F.ok sc_first_state (fun vs H Q E h => ?_) (fun cdv A outer s H vs Q E hr h => ?_), F.bindsN fun _ _ _ _ _ _ us hl => match us, hl with | [_], _ => rfl, F.kp⟩
  · obtain ⟨pa, pl, rfl, _⟩ := h
    rfl
  · obtain ⟨pa, pl, rfl, hp, hz, k⟩ := h
    refine ⟨_, PSs.nox (pss_one (ps_ret (pe_make T.state.m GS hr rfl T.state.g bS .nil pass0 (pa_cons (pe_fld (pv 0) rfl) (pa_cons (pe_callTy call_tuple_of (by rfl) T.lo.p.tuple (by decide +kernel) (pa_cons
      (pe_lc (own := [("tile", 1), ("is_right", 2)]) (g := gTup K 2 (gCons (gName 1) (gCons (gName 2) gNil))) (tt := tYes) (te := tTup (tCons (tVar 1) (tCons (tVar 2) (tCons (tC (.int 0)) tNil)))) rfl sc_first_state.nd (pi_tup (pe_fld (pv 0) rfl))
        (blkOk_by (own := [("tile", 1), ("is_right", 2)]) (N := fsN) (sc := defScope s_first_state) (by decide +kernel))
        (fun _ _ _ _ _ => pg_tup rfl (pgs_cons (pg_name (i := 1) sc_first_state.nd rfl (Or.inl rfl)) (pgs_cons (pg_name (i := 2) sc_first_state.nd rfl (Or.inl rfl)) pgs_nil))) (fun _ _ _ _ _ => pts_nil)
        (fun _ _ _ _ _ => pe_tup (pa_cons (pv 1) (pa_cons (pv 2) (pa_cons pe_int pa_nil))))) pa_nil)) pa_nil))))), ?_⟩
    obtain ⟨dx, sa, ma, fa, ra, rd, ras, e1, e2, e3, e4, e5, e6, e7⟩ := hp
    refine ⟨_, rfl, pa, _, dx, _, _, rfl, e1, T.lo.plan.c, T.lo.plan.n _ (by simp), lpl_floor, _, rfl, pa, _, dx, _, _, rfl, e1, T.lo.plan.c, T.lo.plan.n _ (by simp), lpl_robots, ra, rfl, ⟨_, SqT.of e5⟩, fun D nD => ?_⟩
    refine lc_tup (K := K) (a := ra) (xs := ras.map V.ref) (vs := [1, 2]) (fun i H2 => ∃ bs : List Addr, H2 D = some (.lst (bs.map V.ref)) ∧ Same H H2 ∧ Paired (Rob3At H2) bs (((pl.robots.take i).map fun r => (r.1, r.2, 0)))) ⟨[], upd_same, sameUpd (Same.refl H) nD, .nil⟩ (fun i H2 _ ⟨_, _, sm, _⟩ => SqT.of (sm _ _ e5)) ?_ ?_
    · rintro i x H2 hx ⟨bs, hD, sm, hbs⟩
      rw [List.getElem?_map] at hx
      cases hai : ras[i]? with
      | none => rw [hai] at hx; cases hx
      | some ai =>
        rw [hai] at hx
        cases hx
        obtain ⟨ri, hri, hrob⟩ := Paired_idx e6 hai
        refine ⟨ai, _, rfl, SqT.of (sm _ _ hrob), rfl, _, _, rfl, _, _, rfl, rfl, rfl, _, rfl, _, rfl, (by show 3 ≤ sizeLine; decide), fun tu ntu => ?_⟩
        have s2 := sameUpd (o := .tup [.int ri.1, .bl ri.2, .int 0]) (Same.refl H2) ntu
        refine ⟨bs.map V.ref, s2 _ _ hD, ?_, bs ++ [tu], by rw [upd_same, List.map_append]; rfl, sameUpd (sm.trans s2) nD, ?_⟩
        · rw [List.length_map, hbs.length, List.length_map, List.length_take, sizeLine_eq]
          omega
        · rw [List.take_succ, hri, List.map_append]
          have kt := keepT (o' := .lst (bs.map V.ref ++ [.ref tu])) (s2 _ _ hD) (fun xs q => by cases q)
          exact Paired_snoc (Paired.mapP hbs fun a r q => kt _ _ (s2 _ _ q)) (kt _ _ upd_same)
    · rintro H2 ⟨bs, hD, sm, hbs⟩
      rw [List.length_map, e6.length, List.take_length] at hbs
      refine ⟨D, _, rfl, .inl ⟨SqL.of hD, fun rt nrt => ?_⟩⟩
      have s3 := sameUpd (o := .tup (bs.map V.ref)) (Same.refl H2) nrt
      intro x dx0 nx ndx ne0
      refine init_at (names := ["floor", "robots"]) rfl nx ndx fun H4 sm4 hx => ⟨rfl, ?_⟩
      obtain ⟨ds, hds⟩ := hx
      have sA := (sm.trans s3).trans sm4
      refine k x H4 ((sm.trans s3).free nx) sA ⟨ds, fa, rt, bs, hds, sA _ _ e4, sm4 _ _ upd_same, Paired.mapP hbs fun a r q => sm4 _ _ (s3 _ _ q)⟩
/-! ### act -/
def spAct (K : PySem.W.Frag) : Sp := fun vs H Q _ => ∃ (pa sa : Addr) (i n m : Nat) (pl : Plan) (st : MSt), vs = [.ref pa, .ref sa, .int i] ∧ PlanAt K H pa pl ∧ StateAt K H sa st ∧ WfM n m st ∧ i < m ∧ n ≤ 1000 ∧ m ≤ 1000 ∧
  ∀ (b sb : Addr) (H' : Hp), Same H H' → H' b = some (.tup [sV (actM pl.rules st i).1, .ref sb]) → StateAt K H' sb (actM pl.rules st i).2 → Q (.ref b) H'
abbrev acN : List Str := ["parsed", "state", "number", "tile", "is_right", "mood", "sign", "left", "move", "later", "floor"]
theorem sc_act : FnScope acN ["parsed", "state", "number"] (defScope s_act) := ⟨rfl, rfl, rfl, by decide +kernel, rfl, by decide +kernel, by decide +kernel⟩
theorem e_rest : ("rest" : Str) = sx wRest := by decide +kernel
theorem e_on : ("on" : Str) = sx wOn := by decide +kernel
theorem e_back : ("back" : Str) = sx wBack := by decide +kernel
theorem Paired_set {α β : Type} {F : α → β → Prop} {a : α} {b : β} (h : F a b) : ∀ {l : List α} {m : List β} (i : Nat), Paired F l m → Paired F (l.set i a) (m.set i b)
  | _, _, _, .nil => .nil
  | _, _, 0, .cons x r => .cons h r
  | _, _, i + 1, .cons x r => .cons x (Paired_set h i r)
theorem ok_act (T : MachT K mg) : FnE P w K mg base CX0 3 ("act", none) ["parsed", "state", "number"] (spAct K) := by
  obtain ⟨fd, F⟩ := T.act.d
  obtain ⟨fdS, GS, bS, kS⟩ := ok_state (P := P) (w := w) (base := base) T
  obtain ⟨fdR, GR, bR, kR⟩ := ok_replaced (P := P) (w := w) (base := base) T
  obtain ⟨fdM, GM, bM, kM⟩ := ok_moved (P := P) (w := w) (base := base) T
  obtain ⟨t1, mREST⟩ := T.REST
  refine ⟨fd, F.ok sc_act (fun vs H Q E h => ?_) (fun cdv A outer s H vs Q E hr h => ?_), F.bindsN fun _ _ _ _ _ _ us hl => match us, hl with | [_, _, _], _ => rfl, F.kp⟩
  · obtain ⟨pa, sa, i, n, m, pl, st, rfl, _⟩ := h
    rfl
  · obtain ⟨pa, sa, i, n, m, pl, st, rfl, hp, hst, hw, hi, hn, hm, k⟩ := h
    have hr1 : Room 1 _ := hr.mono (by decide)
    have hu := hu_of hr
    refine ⟨_, PSs.nox (pss_cons (ps_asg (pe_ix ix_tup (pe_fld (pv 1) rfl) (pv 2) (fun _ _ => rfl)) (pg_tup rfl (pgs_cons (pg_name (i := 3) sc_act.nd rfl (.inl rfl)) (pgs_cons (pg_name (i := 4) sc_act.nd rfl (.inl rfl)) (pgs_cons (pg_name (i := 5) sc_act.nd rfl (.inl rfl)) pgs_nil)))))
      (pss_cons (ps_set (i := 6) sc_act.nd rfl (.inl rfl) (pe_ix ix_tup (pe_fld (pv 1) rfl) (pv 3) (fun _ _ => rfl)))
      (pss_cons (ps_if (pt_cmp (pc_dnotin hu (pe_tup (pa_cons (pv 5) (pa_cons (pv 6) pa_nil))) (pe_fld (pv 0) rfl)))
        (pss_one (ps_ret (pe_tup (pa_cons (pe_glob (v := .str "rest") rfl mREST ⟨_, rfl⟩) (pa_cons (pv 1) pa_nil))))) pss_nil)
      (pss_cons (ps_asg (pe_dget hu (pe_fld (pv 0) rfl) (pe_tup (pa_cons (pv 5) (pa_cons (pv 6) pa_nil))) (fun _ _ => rfl)) (pg_tup rfl (pgs_cons (pg_name (i := 7) sc_act.nd rfl (.inl rfl)) (pgs_cons (pg_name (i := 8) sc_act.nd rfl (.inl rfl)) (pgs_cons (pg_name (i := 9) sc_act.nd rfl (.inl rfl)) pgs_nil)))))
      (pss_cons (ps_set (i := 10) sc_act.nd rfl (.inl rfl) (pe_call GR hr1 rfl T.replaced.g kR bR .nil pass0 (pa_cons (pe_fld (pv 1) rfl) (pa_cons (pv 3) (pa_cons (pv 7) pa_nil)))))
      (C8.pss_cut (ps_match (pv 8)
        (pms_str (pss_one (ps_asg (pe_call GM hr1 rfl T.moved.g kM bM .nil pass0 (pa_cons (pv 3) (pa_cons (pv 4) (pa_cons (pe_callB call_len_seq (by rfl) T.lo.p.l.len boot_len (pa_cons (pv 10) pa_nil)) pa_nil))))
            (pg_tup rfl (pgs_cons (pg_name (i := 3) sc_act.nd rfl (.inl rfl)) (pgs_cons (pg_name (i := 4) sc_act.nd rfl (.inl rfl)) pgs_nil)))))
        (pms_str (pss_one (ps_asg (pe_call GM hr1 rfl T.moved.g kM bM .nil pass0 (pa_cons (pv 3) (pa_cons (pe_not (pv 4)) (pa_cons (pe_callB call_len_seq (by rfl) T.lo.p.l.len boot_len (pa_cons (pv 10) pa_nil)) pa_nil))))
            (pg_tup rfl (pgs_cons (pg_name (i := 3) sc_act.nd rfl (.inl rfl)) (pgs_cons (pg_name (i := 4) sc_act.nd rfl (.inl rfl)) pgs_nil))))) pms_nil)))
      (pss_one (ps_ret (pe_tup (pa_cons (pv 8) (pa_cons (pe_make T.state.m GS hr rfl T.state.g bS .nil pass0 (pa_cons (pv 10) (pa_cons (pe_call GR hr1 rfl T.replaced.g kR bR .nil pass0 (pa_cons (pe_fld (pv 1) rfl) (pa_cons (pv 2)
        (pa_cons (pe_tup (pa_cons (pv 3) (pa_cons (pv 4) (pa_cons (pv 9) pa_nil)))) pa_nil)))) pa_nil))) pa_nil))))))))))), ?_⟩
    obtain ⟨dx, sga, moa, fla, rba, rda, rbs, p1, p2, p3, p4, p5, p6, kvs, p7, p8⟩ := hp
    obtain ⟨ds, fa, ra, ras, q1, q2, q3, q4⟩ := id hst
    have hlr : st.robots.length = m := hw.ro
    have hir : i < st.robots.length := by omega
    obtain ⟨⟨tile, right, mood⟩, hrob⟩ : ∃ r, st.robots[i] = r := ⟨_, rfl⟩
    have er : st.robots[i]? = some (tile, right, mood) := by rw [List.getElem?_eq_getElem hir, hrob]
    have hai : i < ras.length := by rw [q4.length]; exact hir
    have ear : ras[i]? = some ras[i] := List.getElem?_eq_getElem hai
    have hri : Rob3At H ras[i] (tile, right, mood) := Paired_get q4 ear er
    have htl : tile < st.floor.length := by rw [hw.fl]; exact hw.ti _ (List.mem_of_getElem? er)
    have efl : st.floor[tile]? = some (st.floor.getD tile 0) := by rw [List.getD_eq_getElem?_getD, List.getElem?_eq_getElem htl]; rfl
    refine ⟨_, rfl, sa, _, ds, _, _, rfl, q1, T.state.c, T.state.n _ (by simp), ls_robots, _, rfl, ra, _, _, _, rfl, rfl, SqT.of q3, atI_nat (by rw [List.getElem?_map, ear]; rfl), ras[i], _, rfl, SqT.of hri, rfl, _, _, rfl, _, _, rfl, _, _, rfl, rfl, ?_⟩
    refine ⟨_, rfl, sa, _, ds, _, _, rfl, q1, T.state.c, T.state.n _ (by simp), ls_floor, _, rfl, fa, _, _, _, rfl, rfl, SqT.of q2, atI_nat (by rw [List.getElem?_map, efl]; rfl), ?_⟩
    generalize hsign : st.floor.getD tile 0 = sign at *
    obtain ⟨g1, g2⟩ := rules_get (k := (mood, sign)) p8
    refine ⟨_, rfl, _, rfl, (by show 2 ≤ sizeLine; decide), fun tk ntk => ?_⟩
    have s1 := sameUpd (o := .tup [.int mood, .int sign]) (Same.refl H) ntk
    refine ⟨_, rfl, pa, _, dx, _, _, rfl, s1 _ _ p1, T.lo.plan.c, T.lo.plan.n _ (by simp), lpl_rules, rda, _, rfl, DGet.t (k := keyT (mood, sign)) (s1 _ _ p7) upd_same, _, rfl, ?_⟩
    cases hget : getA pl.rules (mood, sign) with
    | none =>
      rw [g1 hget]
      refine iteT ?_
      have ea : actM pl.rules st i = (wRest, st) := by simp only [actM, er, hsign, hget]
      refine ⟨_, rfl, (by show 2 ≤ sizeLine; decide), fun b nb => ?_⟩
      have s2 := s1.trans (sameUpd (o := .tup [.str "rest", .ref sa]) (Same.refl _) nb)
      refine k b sa _ s2 ?_ ?_
      · rw [upd_same, ea, e_rest]
      · rw [ea]
        exact hst.same s2
    | some r =>
      obtain ⟨t, g3, g4⟩ := g2 r hget
      rw [g3]
      refine iteF ?_
      refine ⟨_, rfl, pa, _, dx, _, _, rfl, s1 _ _ p1, T.lo.plan.c, T.lo.plan.n _ (by simp), lpl_rules, _, rfl, _, rfl, (by show 2 ≤ sizeLine; decide), fun tk2 ntk2 => ?_⟩
      have s2 := s1.trans (sameUpd (o := .tup [.int mood, .int sign]) (Same.refl _) ntk2)
      refine ⟨rda, _, rfl, ?_, t, _, rfl, SqT.of (s2 _ _ g4), rfl, _, _, rfl, _, _, rfl, _, _, rfl, rfl, ?_⟩
      · have z := DGet.t (k := keyT (mood, sign)) (s2 _ _ p7) (@upd_same (upd H tk (.tup [.int mood, .int sign])) tk2 (.tup [.int mood, .int sign]))
        rw [g3] at z
        exact z
      have q1' := s2 _ _ q1
      have q2' := s2 _ _ q2
      have q3' := s2 _ _ q3
      have q4' : Paired (Rob3At (upd (upd H tk (.tup [.int mood, .int sign])) tk2 (.tup [.int mood, .int sign]))) ras st.robots := Paired.mapP q4 fun a r q => s2 _ _ q
      generalize (upd (upd H tk (.tup [.int mood, .int sign])) tk2 (.tup [.int mood, .int sign])) = H2 at *
      refine ⟨_, rfl, sa, _, ds, _, _, rfl, q1', T.state.c, T.state.n _ (by simp), ls_floor, _, rfl, _, rfl, fa, tile, .int r.left, _, rfl, q2', by rw [List.length_map]; exact htl, by rw [List.length_map, hw.fl]; omega, fun fb H3 s3 hfb => ?_⟩
      have efb : (st.floor.map iV).set tile (.int r.left) = (st.floor.set tile r.left).map iV := by rw [List.map_set]
      rw [efb] at hfb
      have gm := goM_lt (move := r.move) (right := right) htl
      generalize hgo : goM r.move tile right st.floor.length = go at *
      have ea : actM pl.rules st i = (r.move, ⟨st.floor.set tile r.left, st.robots.set i (go.1, go.2, r.later)⟩) := by simp only [actM, er, hsign, hget, hgo]
      refine ⟨fun σ' H' => σ' = [some (.ref pa), some (.ref sa), some (.int i), some (.int go.1), some (.bl go.2), some (.int mood), some (.int sign), some (.int r.left), some (sV r.move), some (.int r.later), some (.ref fb)] ∧ Same H3 H', ?_, ?_⟩
      · refine ⟨_, rfl, _, rfl, fun z => ?_, fun z => ?_⟩
        · have z : r.move = wOn := sx_inj (by rw [← e_on]; exact z)
          refine ⟨_, rfl, _, rfl, _, rfl, fb, _, rfl, .inr (SqT.of hfb), tile, st.floor.length, right, by simp, htl, fun b H4 s4 hb => ?_⟩
          refine ⟨b, _, rfl, SqT.of hb, rfl, _, _, rfl, _, _, rfl, rfl, ?_, s4⟩
          have e : movedM tile right st.floor.length = go := by rw [← hgo]; simp only [goM, if_pos z]
          rw [e]
          rfl
        · have z1 : ¬ r.move = wOn := fun y => z (by rw [y, e_on])
          refine ⟨_, rfl, fun z => ?_, fun z => ?_⟩
          · have z : r.move = wBack := sx_inj (by rw [← e_back]; exact z)
            refine ⟨_, rfl, _, rfl, _, rfl, _, rfl, fb, _, rfl, .inr (SqT.of hfb), tile, st.floor.length, !right, by simp, htl, fun b H4 s4 hb => ?_⟩
            refine ⟨b, _, rfl, SqT.of hb, rfl, _, _, rfl, _, _, rfl, rfl, ?_, s4⟩
            have e : movedM tile (!right) st.floor.length = go := by rw [← hgo]; simp only [goM, if_neg z1, if_pos z]
            rw [e]
            rfl
          · have z2 : ¬ r.move = wBack := fun y => z (by rw [y, e_back])
            refine ⟨?_, Same.refl _⟩
            have e : (tile, right) = go := by rw [← hgo]; simp only [goM, if_neg z1, if_neg z2]
            rw [← e]
            rfl
      · rintro σ' H4 ⟨rfl, s4⟩
        have s34 := s3.trans s4
        refine ⟨_, rfl, _, rfl, _, rfl, sa, _, ds, _, _, rfl, s34 _ _ q1', T.state.c, T.state.n _ (by simp), ls_robots, _, rfl, _, rfl, _, rfl, _, rfl, (by show 3 ≤ sizeLine; decide), fun tr ntr => ?_⟩
        have s5 := s34.trans (sameUpd (o := .tup [.int go.1, .bl go.2, .int r.later]) (Same.refl _) ntr)
        refine ⟨ra, i, .ref tr, _, rfl, s5 _ _ q3', by rw [List.length_map, q4.length]; exact hir, by rw [List.length_map, q4.length]; omega, fun rb H6 s6 hrb => ?_⟩
        have erb : (ras.map V.ref).set i (.ref tr) = (ras.set i tr).map V.ref := by rw [List.map_set]
        rw [erb] at hrb
        intro x dx0 nx ndx ne0
        refine init_at (names := ["floor", "robots"]) rfl nx ndx fun H7 sm7 hx => ⟨rfl, ?_⟩
        obtain ⟨d7, hd7⟩ := hx
        refine ⟨(by show 2 ≤ sizeLine; decide), fun b nb => ?_⟩
        have sfin := sameUpd (o := .tup [sV r.move, .ref x]) (Same.refl H7) nb
        have s47 : Same H4 H7 := ((sameUpd (o := .tup [.int go.1, .bl go.2, .int r.later]) (Same.refl H4) ntr).trans s6).trans sm7
        refine k b x _ ((s2.trans ((s34.trans s47))).trans sfin) (by rw [upd_same, ea]) ?_
        rw [ea]
        refine StateAt.same sfin ⟨d7, fb, rb, ras.set i tr, hd7, s47 _ _ (s4 _ _ hfb), sm7 _ _ hrb, ?_⟩
        refine Paired_set ?_ i (Paired.mapP q4' fun a r q => s47 _ _ (s34 _ _ q))
        exact sm7 _ _ (s6 _ _ upd_same)
end
end Sw

end

section
set_option maxRecDepth 100000
set_option maxHeartbeats 4000000
/-! next_tick -/
namespace Sw
open PySem PySem.Spec PyProof.Rows L2 SwA
section
variable {P : Program} {w : World} {K : PySem.W.Frag} {mg : Str → Option Value} {base : Heap}
def spNextTick (K : PySem.W.Frag) : Sp := fun vs H Q _ => ∃ (pa sa : Addr) (n m : Nat) (pl : Plan) (st : MSt), vs = [.ref pa, .ref sa] ∧ PlanAt K H pa pl ∧ StateAt K H sa st ∧ WfM n m st ∧ n ≤ 1000 ∧ m ≤ 1000 ∧
  ∀ (b : Addr) (H' : Hp), Same H H' → TickAt K H' b (nextM pl.rules st) → Q (.ref b) H'
abbrev ntN : List Str := ["parsed", "state", "swept", "words", "number", "word", "robot"]
theorem sc_next_tick : FnScope ntN ["parsed", "state"] (defScope s_next_tick) := ⟨rfl, rfl, rfl, by decide +kernel, rfl, by decide +kernel, by decide +kernel⟩
theorem ok_next_tick (T : MachT K mg) : FnE P w K mg base CX0 4 ("next_tick", none) ["parsed", "state"] (spNextTick K) := by
  obtain ⟨fd, F⟩ := T.next_tick.d
  obtain ⟨fdA, GA, bA, kA⟩ := ok_act (P := P) (w := w) (base := base) T
  obtain ⟨fdT, GT, bT, kT⟩ := ok_tick (P := P) (w := w) (base := base) T
  refine ⟨fd, F.ok sc_next_tick (fun vs H Q E h => ?_) (fun cdv A outer s H vs Q E hr h => ?_), F.bindsN fun _ _ _ _ _ _ us hl => match us, hl with | [_, _], _ => rfl, F.kp⟩
  · obtain ⟨pa, sa, n, m, pl, st, rfl, _⟩ := h
    rfl
  · obtain ⟨pa, sa, n, m, pl, st, rfl, hp, hst, hw, hn, hm, k⟩ := h
    have hr2 : Room 2 _ := hr.mono (by decide)
    refine ⟨_, PSs.nox (pss_cons (ps_par (by rfl) sc_next_tick.nd (i := 2) (j := 3) rfl rfl (by decide) rfl rfl (pa_cons (pe_tupleOfN (by rfl) T.lo.p.tuple
        (pe_lc (own := [("robot", 6)]) (g := gName 6) (tt := tYes) (te := tOp (rIxT K) (tVar 6) (tC (.int 0))) rfl sc_next_tick.nd (pi_tup (pe_fld (pv 1) rfl))
          (blkOk_by (own := [("robot", 6)]) (N := ntN) (sc := defScope s_next_tick) (by decide +kernel)) (fun _ _ _ _ _ => pg_name (i := 6) sc_next_tick.nd rfl (Or.inl rfl)) (fun _ _ _ _ _ => pts_nil)
          (fun _ _ _ _ _ => pe_ix ix_tup (pv 6) pe_int (fun _ _ => rfl)))) (pa_cons (pe_lst pa_nil) pa_nil)) (by rfl))
      (pss_cons (ps_for PassesOwn.never rfl (pi_range1 (by rfl) T.lo.p.range (pa_cons (pe_callB call_len_seq (by rfl) T.lo.p.l.len boot_len (pa_cons (pe_fld (pv 1) rfl) pa_nil)) pa_nil)) (pg_name (i := 4) sc_next_tick.nd rfl (.inl rfl))
        (pss_cons (ps_asg (pe_call GA hr rfl T.act.g kA bA .nil pass0 (pa_cons (pv 0) (pa_cons (pv 1) (pa_cons (pv 4) pa_nil)))) (pg_tup rfl (pgs_cons (pg_name (i := 5) sc_next_tick.nd rfl (.inl rfl)) (pgs_cons (pg_name (i := 1) sc_next_tick.nd rfl (.inl rfl)) pgs_nil))))
        (pss_one (ps_expr (pe_bm PySem.F.plainAttrs_list PySem.F.slot_list_append PySem.F.type_list_append mt_append (pv 3) (pa_cons (pv 5) pa_nil))))))
      (pss_one (ps_ret (pe_make T.tick.m GT hr2 rfl T.tick.g bT .nil pass0 (pa_cons (pv 2) (pa_cons (pe_callTy call_tuple_of (by rfl) T.lo.p.tuple (by decide +kernel) (pa_cons (pv 3) pa_nil)) (pa_cons (pv 1) pa_nil)))))))), ?_⟩
    obtain ⟨ds, fa, ra, ras, q1, q2, q3, q4⟩ := id hst
    have hlr : ras.length = m := by rw [q4.length, hw.ro]
    refine ⟨_, rfl, sa, _, ds, _, _, rfl, q1, T.state.c, T.state.n _ (by simp), ls_robots, ra, rfl, ⟨_, SqT.of q3⟩, fun D nD => ?_⟩
    refine lc_tup (K := K) (a := ra) (xs := ras.map V.ref) (vs := [6]) (fun i H2 => H2 D = some (.lst (((st.robots.take i).map (·.1)).map iV)) ∧ Same H H2) ⟨upd_same, sameUpd (Same.refl H) nD⟩ (fun i H2 _ ⟨_, sm⟩ => SqT.of (sm _ _ q3)) ?_ ?_
    · rintro i x H2 hx ⟨hD, sm⟩
      rw [List.getElem?_map] at hx
      cases hai : ras[i]? with
      | none => rw [hai] at hx; cases hx
      | some ai =>
        rw [hai] at hx
        cases hx
        obtain ⟨ri, hri, hrob⟩ := Paired_idx q4 hai
        have hil : i < ras.length := (List.getElem?_eq_some_iff.mp hai).1
        refine ⟨rfl, _, rfl, ai, _, _, _, rfl, rfl, SqT.of (sm _ _ hrob), rfl, _, hD, ?_, ?_, sameUpd sm nD⟩
        · rw [List.length_map, List.length_map, List.length_take, sizeLine_eq]
          omega
        · rw [upd_same, List.take_succ, hri, List.map_append, List.map_append]
          rfl
    · rintro H2 ⟨hD, sm⟩
      rw [List.length_map, q4.length, List.take_length] at hD
      refine ⟨D, _, rfl, SqL.of hD, fun sw osw nsw oc od => ?_⟩
      have s3 := sm.trans (sameUpd (o := .frz osw (.tup ((st.robots.map (·.1)).map iV))) (Same.refl H2) nsw)
      have hsw : TupN (upd H2 sw (.frz osw (.tup ((st.robots.map (·.1)).map iV)))) sw ((st.robots.map (·.1)).map iV) := ⟨osw, oc, od, upd_same⟩
      generalize upd H2 sw (.frz osw (.tup ((st.robots.map (·.1)).map iV))) = H3 at *
      refine ⟨(by show 0 ≤ sizeLine; decide), fun wl nwl => ?_⟩
      have s4 := s3.trans (sameUpd (o := .lst []) (Same.refl H3) nwl)
      have nwl0 : H wl = none := s3.free nwl
      have hsw4 : TupN (upd H3 wl (.lst [])) sw ((st.robots.map (·.1)).map iV) := hsw.mono fun _ z => sameUpd (Same.refl H3) nwl _ _ z
      have hwl := @upd_same H3 wl (.lst [])
      generalize upd H3 wl (.lst []) = H4 at *
      refine ⟨_, _, rfl, ?_⟩
      refine ⟨_, rfl, sa, _, ds, _, _, rfl, s4 _ _ q1, T.state.c, T.state.n _ (by simp), ls_robots, ra, _, rfl, .inr (SqT.of (s4 _ _ q3)), _, rfl, by omega, by simp; omega, ?_⟩
      have elen : (((ras.map V.ref).length : Nat) : Int).toNat = m := by rw [Int.toNat_natCast, List.length_map, hlr]
      refine for_range (lo := 0) (n := (((ras.map V.ref).length : Nat) : Int).toNat) (fun i σ H5 => ∃ (sb : Addr) (o4 o5 : Option V), σ = [some (.ref pa), some (.ref sb), some (.ref sw), some (.ref wl), o4, o5, none] ∧ Same H H5 ∧ H5 wl = some (.lst ((actsM pl.rules st i).1.map sV)) ∧
        TupN H5 sw ((st.robots.map (·.1)).map iV) ∧ StateAt K H5 sb (actsM pl.rules st i).2) ⟨sa, none, none, rfl, s4, hwl, hsw4, hst.same s4⟩ ?_ ?_
      · rintro i σ H5 hi ⟨sb, o4, o5, rfl, s5, hw5, hsw5, hst5⟩
        rw [elen] at hi
        refine ⟨_, rfl, _, rfl, _, rfl, pa, sb, i, n, m, pl, _, by rw [Int.zero_add]; rfl, hp.same s5, hst5, hw.acts i, hi, hn, hm, fun b sc H6 s6 hb hst6 => ?_⟩
        refine ⟨b, _, rfl, SqT.of hb, rfl, _, _, rfl, _, _, rfl, rfl, ?_⟩
        refine ⟨_, rfl, .inl ⟨rfl, _, SqL.of (s6 _ _ hw5)⟩, _, rfl, wl, _, _, rfl, rfl, s6 _ _ hw5, ?_, ?_⟩
        · rw [List.length_map, acts_len, sizeLine_eq]
          omega
        · have sk : ∀ a o, a ≠ wl → H6 a = some o → (upd H6 wl (.lst ((actsM pl.rules st i).1.map sV ++ [sV (actM pl.rules (actsM pl.rules st i).2 i).1]))) a = some o := fun a o h e => by rw [upd_ne h]; exact e
          refine ⟨sc, _, _, rfl, sameUpd (s5.trans s6) nwl0, ?_, ?_, ?_⟩
          · rw [upd_same]
            show _ = some (HO.lst (((actsM pl.rules st i).1 ++ [(actM pl.rules (actsM pl.rules st i).2 i).1]).map sV))
            rw [List.map_append]
            rfl
          · refine hsw5.mono fun o z => ?_
            have z6 := s6 _ _ z
            rw [upd_ne (ne_of z6 (s6 _ _ hw5) (by intro q; cases q))]
            exact z6
          · obtain ⟨d6, f6, r6, rs6, z1, z2, z3, z4⟩ := hst6
            have kt := keepT (o' := .lst ((actsM pl.rules st i).1.map sV ++ [sV (actM pl.rules (actsM pl.rules st i).2 i).1])) (s6 _ _ hw5) (fun xs q => by cases q)
            exact ⟨d6, f6, r6, rs6, by rw [upd_ne (ne_of z1 (s6 _ _ hw5) (by intro q; cases q))]; exact z1, kt _ _ z2, kt _ _ z3, Paired.mapP z4 fun a r q => kt _ _ q⟩
      · rintro σ H5 ⟨sb, o4, o5, rfl, s5, hw5, hsw5, hst5⟩
        rw [elen] at hw5 hst5
        refine ⟨_, rfl, _, rfl, wl, _, rfl, .inl ⟨SqL.of hw5, fun wt nwt => ?_⟩⟩
        have s6 := sameUpd (o := .tup ((actsM pl.rules st m).1.map sV)) (Same.refl H5) nwt
        refine ⟨_, rfl, ?_⟩
        intro x dx0 nx ndx ne0
        refine init_at (names := ["swept", "words", "state"]) rfl nx ndx fun H7 sm7 hx => ⟨rfl, ?_⟩
        obtain ⟨d7, hd7⟩ := hx
        have em : nextM pl.rules st = ⟨st.robots.map (·.1), (actsM pl.rules st m).1, (actsM pl.rules st m).2⟩ := by
          unfold nextM
          rw [hw.ro]
        refine k x H7 (s5.trans (s6.trans sm7)) ?_
        rw [em]
        exact ⟨d7, sw, wt, sb, hd7, hsw5.mono fun _ z => sm7 _ _ (s6 _ _ z), sm7 _ _ upd_same, hst5.same (s6.trans sm7)⟩
end
end Sw

end

section
set_option maxRecDepth 100000
set_option maxHeartbeats 4000000
/-! the mirror of the corridor -/
namespace Sw
open PySem
structure CNow where
  st : MSt
  tick : Nat
  sums : List Nat
structure Ent where
  word : Cs
  old : CNow
  new : CNow
structure Snap where
  now : CNow
  past : List Ent
  undone : List Ent
structure CSt where
  now : CNow
  past : List Ent
  undone : List Ent
  saved : List (Cs × Snap)
def wStep : Cs := [115, 116, 101, 112]
def wTurn : Cs := [116, 117, 114, 110]
def wUndo : Cs := [117, 110, 100, 111]
def wRedo : Cs := [114, 101, 100, 111]
def recordC (c : CSt) (word : Cs) (now : CNow) : CSt := ⟨now, c.past ++ [⟨word, c.now, now⟩], [], c.saved⟩
def addSums (sums swept : List Nat) : List Nat := (List.range sums.length).map fun i => sums.getD i 0 + swept.count i
def stepsM (rules : List ((Nat × Nat) × Rule)) (st : MSt) (sums : List Nat) : Nat → List (List Nat) × MSt × List Nat
  | 0 => ([], st, sums)
  | k + 1 => ((stepsM rules st sums k).1 ++ [(nextM rules (stepsM rules st sums k).2.1).swept], (nextM rules (stepsM rules st sums k).2.1).state, addSums (stepsM rules st sums k).2.2 (nextM rules (stepsM rules st sums k).2.1).swept)
def stepNow (rules : List ((Nat × Nat) × Rule)) (n : CNow) (k : Nat) : CNow := ⟨(stepsM rules n.st n.sums k).2.1, n.tick + k, (stepsM rules n.st n.sums k).2.2⟩
def putNow (n : CNow) (tile sign : Nat) : CNow := ⟨⟨n.st.floor.set tile sign, n.st.robots⟩, n.tick, n.sums⟩
def turnR (r : Rob) : Rob := (r.1, !r.2.1, r.2.2)
def turnNow (n : CNow) (k : Nat) : CNow := ⟨⟨n.st.floor, n.st.robots.set k (turnR (n.st.robots.getD k (0, true, 0)))⟩, n.tick, n.sums⟩
def undoC (c : CSt) : CSt := match c.past.getLast? with
  | none => c
  | some e => ⟨e.old, c.past.dropLast, c.undone ++ [e], c.saved⟩
def redoC (c : CSt) : CSt := match c.undone.getLast? with
  | none => c
  | some e => ⟨e.new, c.past ++ [e], c.undone.dropLast, c.saved⟩
def firstC (pl : Plan) : CSt := ⟨⟨firstM pl, 0, List.replicate pl.floor.length 0⟩, [], [], []⟩
/-- a situation of n tiles, m robots and g signs -/
structure WfN (n m g : Nat) (c : CNow) : Prop where
  wf : WfM n m c.st
  si : ∀ x ∈ c.st.floor, x < g
  su : c.sums.length = n
structure WfE (n m g : Nat) (e : Ent) : Prop where
  old : WfN n m g e.old
  new : WfN n m g e.new
structure WfC (n m g : Nat) (c : CSt) : Prop where
  now : WfN n m g c.now
  past : ∀ e ∈ c.past, WfE n m g e
  und : ∀ e ∈ c.undone, WfE n m g e
/-- rules that name signs and moods -/
def RuOk (g : Nat) (rules : List ((Nat × Nat) × Rule)) : Prop := ∀ k r, getA rules k = some r → r.left < g
theorem act_si {g : Nat} {rules : List ((Nat × Nat) × Rule)} {st : MSt} {k : Nat} (hr : RuOk g rules) (h : ∀ x ∈ st.floor, x < g) : ∀ x ∈ (actM rules st k).2.floor, x < g := by
  unfold actM
  split
  · exact h
  · split
    · exact h
    · rename_i r hr2
      intro x hx
      rcases List.mem_or_eq_of_mem_set hx with z | z
      · exact h x z
      · rw [z]
        exact hr _ _ hr2
theorem acts_si {g : Nat} {rules : List ((Nat × Nat) × Rule)} {st : MSt} (hr : RuOk g rules) (h : ∀ x ∈ st.floor, x < g) : ∀ k, ∀ x ∈ (actsM rules st k).2.floor, x < g
  | 0 => h
  | k + 1 => act_si hr (acts_si hr h k)
theorem addSums_len (a b : List Nat) : (addSums a b).length = a.length := by simp [addSums]
theorem steps_wf {n m g : Nat} {rules : List ((Nat × Nat) × Rule)} {st : MSt} {sums : List Nat} (hr : RuOk g rules) (h : WfM n m st) (hs : ∀ x ∈ st.floor, x < g) (hu : sums.length = n) :
    ∀ k, WfM n m (stepsM rules st sums k).2.1 ∧ (∀ x ∈ (stepsM rules st sums k).2.1.floor, x < g) ∧ (stepsM rules st sums k).2.2.length = n
  | 0 => ⟨h, hs, hu⟩
  | k + 1 => by
    obtain ⟨a, b, c⟩ := steps_wf hr h hs hu k
    exact ⟨a.next, acts_si hr b _, by rw [← c]; exact addSums_len _ _⟩
theorem steps_len (rules : List ((Nat × Nat) × Rule)) (st : MSt) (sums : List Nat) : ∀ k, (stepsM rules st sums k).1.length = k
  | 0 => rfl
  | k + 1 => by
    show ((stepsM rules st sums k).1 ++ [_]).length = k + 1
    simp [steps_len rules st sums k]
theorem WfN.step {n m g : Nat} {rules : List ((Nat × Nat) × Rule)} {c : CNow} (hr : RuOk g rules) (h : WfN n m g c) (k : Nat) : WfN n m g (stepNow rules c k) :=
  let ⟨a, b, d⟩ := steps_wf hr h.wf h.si h.su k
  ⟨a, b, d⟩
theorem WfN.put {n m g : Nat} {c : CNow} (h : WfN n m g c) {tile sign : Nat} (hs : sign < g) : WfN n m g (putNow c tile sign) :=
  ⟨⟨by simpa [putNow] using h.wf.fl, h.wf.ro, h.wf.ti⟩, fun x hx => by
    rcases List.mem_or_eq_of_mem_set hx with z | z
    · exact h.si x z
    · rw [z]; exact hs, h.su⟩
theorem WfN.turn {n m g : Nat} {c : CNow} (h : WfN n m g c) {k : Nat} (hk : k < m) : WfN n m g (turnNow c k) := by
  refine ⟨⟨h.wf.fl, by simpa [turnNow] using h.wf.ro, fun r hr => ?_⟩, h.si, h.su⟩
  rcases List.mem_or_eq_of_mem_set hr with z | z
  · exact h.wf.ti r z
  · rw [z]
    have hl : k < c.st.robots.length := by rw [h.wf.ro]; exact hk
    have e : c.st.robots.getD k (0, true, 0) = c.st.robots[k] := by simp [List.getD_eq_getElem?_getD, List.getElem?_eq_getElem hl]
    rw [e]
    exact h.wf.ti c.st.robots[k] (List.getElem_mem hl)
theorem WfC.record {n m g : Nat} {c : CSt} {w : Cs} {x : CNow} (h : WfC n m g c) (hx : WfN n m g x) : WfC n m g (recordC c w x) :=
  ⟨hx, fun e he => by
    rcases List.mem_append.mp he with z | z
    · exact h.past e z
    · rw [List.mem_singleton.mp z]
      exact ⟨h.now, hx⟩, fun e he => by cases he⟩
theorem WfC.undo {n m g : Nat} {c : CSt} (h : WfC n m g c) : WfC n m g (undoC c) := by
  unfold undoC
  split
  · exact h
  · rename_i e he
    have hm := List.mem_of_getLast? he
    refine ⟨(h.past e hm).old, fun x hx => h.past x (List.dropLast_subset _ hx), fun x hx => ?_⟩
    rcases List.mem_append.mp hx with z | z
    · exact h.und x z
    · rw [List.mem_singleton.mp z]
      exact h.past e hm
theorem WfC.redo {n m g : Nat} {c : CSt} (h : WfC n m g c) : WfC n m g (redoC c) := by
  unfold redoC
  split
  · exact h
  · rename_i e he
    have hm := List.mem_of_getLast? he
    refine ⟨(h.und e hm).new, fun x hx => ?_, fun x hx => h.und x (List.dropLast_subset _ hx)⟩
    rcases List.mem_append.mp hx with z | z
    · exact h.past x z
    · rw [List.mem_singleton.mp z]
      exact h.und e hm
end Sw

end

section
set_option maxRecDepth 100000
set_option maxHeartbeats 4000000
/-! the corridor: how it lies in the heap -/
namespace Sw
open PySem PySem.Spec PyProof.Rows L2 SwA
/-! ### what never changes -/
def Fixed (K : PySem.W.Frag) : HO → Prop
  | .tup _ => True
  | .dT _ => True
  | .frz _ _ => True
  | .ins C _ _ => C ≠ He.ga K "Corridor"
  | _ => False
def Fz (K : PySem.W.Frag) (H H' : Hp) : Prop := ∀ a o, H a = some o → Fixed K o → H' a = some o
theorem Fz.refl {K : PySem.W.Frag} (H : Hp) : Fz K H H := fun _ _ e _ => e
theorem Fz.trans {K : PySem.W.Frag} {H H1 H2 : Hp} (a : Fz K H H1) (b : Fz K H1 H2) : Fz K H H2 := fun _ _ e f => b _ _ (a _ _ e f) f
theorem Fz.same {K : PySem.W.Frag} {H H' : Hp} (s : Same H H') : Fz K H H' := fun _ _ e _ => s _ _ e
theorem Fz.put {K : PySem.W.Frag} {H H' : Hp} {x : Addr} {o o' : HO} (s : Fz K H H') (hx : H' x = some o) (nf : ¬ Fixed K o) : Fz K H (upd H' x o') := fun a u e f => by
  have e' := s _ _ e f
  rw [upd_ne (ne_of e' hx (fun q => nf (q ▸ f)))]
  exact e'
theorem Fz.new {K : PySem.W.Frag} {H H' : Hp} {x : Addr} {o' : HO} (s : Fz K H H') (hx : H' x = none) : Fz K H (upd H' x o') := fun a u e f => by
  have e' := s _ _ e f
  rw [upd_ne (ne_of_none e' hx)]
  exact e'
/-- the classes of what the corridor holds are others than its own -/
structure ApK (K : PySem.W.Frag) : Prop where
  st : He.ga K "State" ≠ He.ga K "Corridor"
  pl : He.ga K "Plan" ≠ He.ga K "Corridor"
  tk : He.ga K "Tick" ≠ He.ga K "Corridor"
section
variable {K : PySem.W.Frag} {H H' : Hp}
theorem StateAt.fz (A : ApK K) {a : Addr} {st : MSt} (s : Fz K H H') (h : StateAt K H a st) : StateAt K H' a st :=
  let ⟨dx, fa, ra, ras, e1, e2, e3, e4⟩ := h
  ⟨dx, fa, ra, ras, s _ _ e1 A.st, s _ _ e2 trivial, s _ _ e3 trivial, Paired.mapP e4 fun _ _ q => s _ _ q trivial⟩
theorem PlanAt.fz (A : ApK K) {a : Addr} {pl : Plan} (s : Fz K H H') (h : PlanAt K H a pl) : PlanAt K H' a pl := by
  obtain ⟨dx, sa, ma, fa, ra, rd, ras, e1, e2, e3, e4, e5, e6, kvs, e7, e8⟩ := h
  exact ⟨dx, sa, ma, fa, ra, rd, ras, s _ _ e1 A.pl, e2.mono fun _ z => s _ _ z trivial, e3.mono fun _ z => s _ _ z trivial, s _ _ e4 trivial, s _ _ e5 trivial, Paired.mapP e6 fun _ _ q => s _ _ q trivial, kvs, s _ _ e7 trivial, Paired.mapP e8 fun _ _ q => q.mono fun _ _ z => s _ _ z trivial⟩
def NowAt (K : PySem.W.Frag) (H : Hp) (a : Addr) (c : CNow) : Prop := ∃ sa su, H a = some (.tup [.ref sa, .int c.tick, .ref su]) ∧ StateAt K H sa c.st ∧ H su = some (.tup (c.sums.map iV))
theorem NowAt.fz (A : ApK K) {a : Addr} {c : CNow} (s : Fz K H H') (h : NowAt K H a c) : NowAt K H' a c :=
  let ⟨sa, su, e1, e2, e3⟩ := h
  ⟨sa, su, s _ _ e1 trivial, e2.fz A s, s _ _ e3 trivial⟩
def EntAt (K : PySem.W.Frag) (H : Hp) (a : Addr) (e : Ent) : Prop := ∃ oa na, H a = some (.tup [sV e.word, .ref oa, .ref na]) ∧ NowAt K H oa e.old ∧ NowAt K H na e.new
theorem EntAt.fz (A : ApK K) {a : Addr} {c : Ent} (s : Fz K H H') (h : EntAt K H a c) : EntAt K H' a c :=
  let ⟨sa, su, e1, e2, e3⟩ := h
  ⟨sa, su, s _ _ e1 trivial, e2.fz A s, e3.fz A s⟩
def EntsAt (K : PySem.W.Frag) (H : Hp) (l : Addr) (es : List Ent) : Prop := ∃ ps, H l = some (.lst (ps.map V.ref)) ∧ Paired (EntAt K H) ps es
theorem EntsAt.fz (A : ApK K) {l : Addr} {es : List Ent} (s : Fz K H H') (e : H' l = H l) (h : EntsAt K H l es) : EntsAt K H' l es :=
  let ⟨ps, e1, e2⟩ := h
  ⟨ps, e.trans e1, Paired.mapP e2 fun _ _ q => q.fz A s⟩
def SnapAt (K : PySem.W.Frag) (H : Hp) (own : List Addr) (kv : Key × V) (e : Cs × Snap) : Prop := kv.1 = .inr (sx e.1) ∧ ∃ t na la ua, kv.2 = .ref t ∧ H t = some (.tup [.ref na, .ref la, .ref ua]) ∧ NowAt K H na e.2.now ∧ la ∈ own ∧ ua ∈ own ∧ EntsAt K H la e.2.past ∧ EntsAt K H ua e.2.undone
def SavAt (K : PySem.W.Frag) (H : Hp) (sd : Addr) (own : List Addr) (sv : List (Cs × Snap)) : Prop := ∃ kvs, H sd = some (.dK kvs) ∧ Paired (SnapAt K H own) kvs sv
theorem SnapAt.fz (A : ApK K) {own : List Addr} {kv : Key × V} {e : Cs × Snap} (s : Fz K H H') (eo : ∀ a ∈ own, H' a = H a) (h : SnapAt K H own kv e) : SnapAt K H' own kv e :=
  let ⟨e0, t, na, la, ua, e1, e2, e3, e4, e5, e6, e7⟩ := h
  ⟨e0, t, na, la, ua, e1, s _ _ e2 trivial, e3.fz A s, e4, e5, e6.fz A s (eo _ e4), e7.fz A s (eo _ e5)⟩
theorem SavAt.fz (A : ApK K) {sd : Addr} {own : List Addr} {sv : List (Cs × Snap)} (s : Fz K H H') (e : H' sd = H sd) (eo : ∀ a ∈ own, H' a = H a) (h : SavAt K H sd own sv) : SavAt K H' sd own sv :=
  let ⟨kvs, e1, e2⟩ := h
  ⟨kvs, e.trans e1, Paired.mapP e2 fun _ _ q => q.fz A s eo⟩
structure CLoc where
  dx : Addr
  pa : Addr
  na : Addr
  pl : Addr
  ul : Addr
  sd : Addr
  own : List Addr
abbrev CLoc.all (L : CLoc) (p : Addr) : List Addr := p :: L.pl :: L.ul :: L.sd :: L.own
abbrev corFs (a b c d e : V) : List (Str × V) := [("parsed", a), ("now", b), ("past", c), ("undone", d), ("saved", e)]
structure CorAt (K : PySem.W.Frag) (H0 H : Hp) (p : Addr) (L : CLoc) (pln : Plan) (c : CSt) : Prop where
  same : Same H0 H
  ob : H p = some (.ins (He.ga K "Corridor") L.dx (corFs (.ref L.pa) (.ref L.na) (.ref L.pl) (.ref L.ul) (.ref L.sd)))
  plan : PlanAt K H L.pa pln
  now : NowAt K H L.na c.now
  past : EntsAt K H L.pl c.past
  und : EntsAt K H L.ul c.undone
  sav : SavAt K H L.sd L.own c.saved
  ne : L.pl ≠ L.ul
  np : L.pl ∉ L.own
  nu : L.ul ∉ L.own
  ow : ∀ a ∈ L.own, ∃ xs, H a = some (.lst xs)
  new : ∀ a ∈ L.all p, H0 a = none
variable {H0 H1 : Hp} {p : Addr} {L : CLoc} {pln : Plan} {c : CSt}
theorem CorAt.mono (h : CorAt K H1 H p L pln c) (s : Same H0 H1) : CorAt K H0 H p L pln c :=
  { h with same := s.trans h.same, new := fun a ha => s.free (h.new a ha) }
theorem CorAt.refit (h : CorAt K H0 H p L pln c) : CorAt K (cutH H (L.all p)) H p L pln c :=
  { h with same := cutH_same, new := fun a ha => cutH_in ha }
theorem CorAt.cut (h : CorAt K H0 H p L pln c) : Same H0 (cutH H (L.all p)) := fun a o e => by
  have : a ∉ L.all p := fun q => by rw [h.new a q] at e; cases e
  rw [cutH_out this]
  exact h.same _ _ e
/-- all that the corridor holds, in a heap that keeps its things -/
theorem CorAt.keep (A : ApK K) (h : CorAt K H0 H p L pln c) (s : Fz K H H') (sm : Same H0 H') (e : ∀ a ∈ L.all p, H' a = H a) : CorAt K H0 H' p L pln c :=
  { same := sm, ob := (e _ (by simp)).trans h.ob, plan := h.plan.fz A s, now := h.now.fz A s, past := h.past.fz A s (e _ (by simp)), und := h.und.fz A s (e _ (by simp)),
    sav := h.sav.fz A s (e _ (by simp)) fun a ha => e a (by simp [ha]), ne := h.ne, np := h.np, nu := h.nu, ow := fun a ha => (let ⟨o, q⟩ := h.ow a ha; ⟨o, (e a (by simp [ha])).trans q⟩), new := h.new }
theorem CorAt.same' (A : ApK K) (h : CorAt K H0 H p L pln c) (s : Same H H') : CorAt K H0 H' p L pln c := by
  refine h.keep A (Fz.same s) (h.same.trans s) fun a ha => ?_
  have : ∃ o, H a = some o := by
    rcases List.mem_cons.mp ha with z | z
    · exact ⟨_, z ▸ h.ob⟩
    rcases List.mem_cons.mp z with z | z
    · obtain ⟨ps, q, _⟩ := h.past
      exact ⟨_, z ▸ q⟩
    rcases List.mem_cons.mp z with z | z
    · obtain ⟨ps, q, _⟩ := h.und
      exact ⟨_, z ▸ q⟩
    rcases List.mem_cons.mp z with z | z
    · obtain ⟨ps, q, _⟩ := h.sav
      exact ⟨_, z ▸ q⟩
    · exact (let ⟨xs, q⟩ := h.ow a z; ⟨_, q⟩)
  obtain ⟨o, ho⟩ := this
  rw [ho]
  exact s _ _ ho
/-- what is fixed is none of the corridor's own things -/
theorem CorAt.fzOf (h : CorAt K H0 H p L pln c) (s : Same (cutH H (L.all p)) H') : Fz K H H' := fun a o e f => by
  refine s _ _ ?_
  rw [cutH_out]
  · exact e
  · intro ha
    have bad : ∀ o2, H a = some o2 → ¬ Fixed K o2 → False := fun o2 e2 n => by
      rw [e] at e2
      cases e2
      exact n f
    rcases List.mem_cons.mp ha with z | z
    · rw [z] at bad
      exact bad _ h.ob (fun q => q rfl)
    rcases List.mem_cons.mp z with z | z
    · obtain ⟨ps, q, _⟩ := h.past
      rw [z] at bad
      exact bad _ q (fun q => q)
    rcases List.mem_cons.mp z with z | z
    · obtain ⟨ps, q, _⟩ := h.und
      rw [z] at bad
      exact bad _ q (fun q => q)
    rcases List.mem_cons.mp z with z | z
    · obtain ⟨ps, q, _⟩ := h.sav
      rw [z] at bad
      exact bad _ q (fun q => q)
    · obtain ⟨xs, q⟩ := h.ow a z
      exact bad _ q (fun q => q)
end
end Sw

end

section
set_option maxRecDepth 100000
set_option maxHeartbeats 4000000
/-! the corridor: operations -/
namespace Sw
open PySem PySem.Spec PyProof.Rows L2 SwA
/-! ### LENGTHS -/
def lensN : List (Str × Nat) := [("step", 2), ("put", 3), ("turn", 2), ("undo", 1), ("redo", 1)]
def lenM (z : Str) : Nat := match lensN.find? (fun q => decide (q.1 = z)) with
  | some q => q.2
  | none => 0
structure CorT (K : PySem.W.Frag) (w : World) (mg : Str → Option Value) : Prop where
  m : MachT K mg
  ap : ApK K
  str : mg "str" = none
  list : mg "list" = none
  cor : MkC K mg "Corridor" ["parsed", "now", "past", "undone", "saved"]
  d_cor : FD K ("Corridor", some "__init__") "__init__" "Corridor.__init__" s_Corridor_init
theorem SqL.sameH {K : PySem.W.Frag} {H H' : Hp} (s : Same H H') {a : Addr} {xs : List V} (h : SqL K H a xs) : SqL K H' a xs := h.elim (fun q => .inl (q.elim (fun z => .inl (s _ _ z)) fun ⟨o, z⟩ => .inr ⟨o, s _ _ z⟩)) .inr
theorem SqT.sameH {K : PySem.W.Frag} {H H' : Hp} (s : Same H H') {a : Addr} {xs : List V} (h : SqT K H a xs) : SqT K H' a xs := h.elim (fun q => .inl (q.elim (fun z => .inl (s _ _ z)) fun ⟨o, z⟩ => .inr ⟨o, s _ _ z⟩)) .inr
theorem at0 {x : V} {xs : List V} : atI (x :: xs) 0 = some x := atI_nat (j := 0) rfl
mutual
theorem Dp.sameH {K : PySem.W.Frag} {H H' : Hp} (s : Same H H') : ∀ {v : V} {d : PyData}, Dp K H v d → Dp K H' v d
  | _, _, .non => .non
  | _, _, .bl b => .bl b
  | _, _, .int i => .int i
  | _, _, .str x => .str x
  | _, _, .lst h t => .lst (SqL.sameH s h) (DpAll.sameH s t)
  | _, _, .tup h t => .tup (SqT.sameH s h) (DpAll.sameH s t)
theorem DpAll.sameH {K : PySem.W.Frag} {H H' : Hp} (s : Same H H') : ∀ {v : List V} {d : List PyData}, DpAll K H v d → DpAll K H' v d
  | _, _, .nil => .nil
  | _, _, .cons h t => .cons (Dp.sameH s h) (DpAll.sameH s t)
end
/-- a value asked whether it is an operation -/
inductive OpA (K : PySem.W.Frag) (H : Hp) : V → Bool → Prop
  | flat {v : V} {n : String} (h : ArN K H v n) (ne : n ≠ "tuple") : OpA K H v false
  | nil {a : Addr} (h : H a = some (.tup [])) : OpA K H (.ref a) false
  | odd {a : Addr} {x : V} {xs : List V} {n : String} {d : PyData} {ds : List PyData} (h : H a = some (.tup (x :: xs))) (hx : ArN K H x n) (ne : n ≠ "str") (hd : DpAll K H (x :: xs) (d :: ds)) (hs : SeqAt.shaped (.tuple (d :: ds)) = true) : OpA K H (.ref a) false
  | str {a : Addr} {z : Str} {xs : List V} {ds : List PyData} (h : H a = some (.tup (.str z :: xs))) (hd : DpAll K H xs ds) (hs : SeqAt.shaped (.tuple (.str z :: ds)) = true) : OpA K H (.ref a) (decide (lenM z = xs.length + 1))
end Sw

end

section
set_option maxRecDepth 100000
set_option maxHeartbeats 4000000
/-! tuple * 1 -/
namespace SwA
open PySem PySem.Spec PyProof.Rows L2
theorem tuple_mul1 (l : Addr) (items : Array Value) (n : Nat) (dd : Option Addr) (sl : Array (Option Value)) (u : Tok) (c1 : (items.isEmpty || ((1 : Int) == 1)) = true) :
    Meets (Builtin.«tuple.__mul__» ⟨[.ref l, .int 1 u], []⟩) (fun _ R s => s.heap.get? l = some { cls := .type "tuple", dict := dd, data := .seq items n, slots := sl } ∧
      R (.ok (.ret (Value.ref l))) s) :=
  .of_wp fun prog w A R s h => by
    obtain ⟨hp, g, d, tk, os⟩ := s
    obtain ⟨hl, h⟩ := h
    have f1 := AutoSeq1.idx_int
    wp_walk using wpAny_loadPart' hl
    exact ⟨_, rfl, h⟩
/-- t * k, a new tuple or t itself -/
def rRepA : R2 := fun x y H Q => ∃ l k xs, x = .ref l ∧ y = .int k ∧ H l = some (.tup xs) ∧ xs ≠ [] ∧ 1 ≤ k ∧ k ≤ 1000 ∧ xs.length ≤ 1000 ∧ ∀ (p : Addr) (H' : Hp), Same H H' → H' p = some (.tup (List.replicate k.toNat xs).flatten) → Q (.ref p) H'
theorem op_repA {X : Cx} : OpR X (binaryOp .Mult) rRepA := by
  intro pins s σ H x y v u Q I rx ry h
  obtain ⟨l, k, xs, rfl, rfl, hT, hne, h1, h2, hz, q⟩ := h
  by_cases hk : k = 1
  · subst hk
    cases rx
    obtain ⟨t, rfl⟩ := ry
    obtain ⟨its, r, ⟨⟨cls, dd, data, sl⟩, ho, hc, n, hd⟩, hs⟩ := I.tuple (SqT.of (K := X.K) hT)
    simp only at hc hd
    subst hc hd
    refine wpAny_binaryOp_repeat_ref (T := "tuple") (U := "int") (by decide) ⟨_, ho, rfl⟩ (fun s' => typeIs_int s' 1 t) noFill_tuple_mul F.fills_int_mul F.slot_int_rmul repeat_tuple F.slot_int_index.lookup
      (call_meets F.slot_int_rmul (typeIs_int s 1 t) F.entry_int_rmul (F.args_int_rmul_2 _ _) (int_rmul_tuple 1 t l its.toArray n dd sl)
        ⟨ho, rfl, ⟨_, ho, rfl⟩, call_meets F.slot_tuple_mul ⟨_, ho, rfl⟩ F.entry_tuple_mul (F.args_tuple_mul_2 _ _) (tuple_mul1 l its.toArray n dd sl t (by simp)) ⟨ho, ?_⟩⟩)
    refine ⟨.ref l, H, I.tok _, rfl, q l H (Same.refl H) ?_⟩
    rw [hT]
    simp
  · exact op_repT pins s σ H _ _ v u Q I rx ry ⟨l, k, xs, rfl, rfl, SqT.of hT, hne, by omega, h2, hz, fun p np => q p _ (fun b o e => by rw [upd_ne (ne_of_none e np)]; exact e) upd_same⟩
end SwA

end

section
set_option maxRecDepth 100000
set_option maxHeartbeats 4000000
/-! the corridor: made; record -/
namespace Sw
open PySem PySem.Spec PyProof.Rows L2 SwA
theorem put_c1 {a : V} : putF "parsed" a [] = ([("parsed", a)] : List (Str × V)) := by kernel_rfl
theorem put_c2 {a b : V} : putF "now" b ([("parsed", a)] : List (Str × V)) = ([("parsed", a), ("now", b)] : List (Str × V)) := by kernel_rfl
theorem put_c3 {a b c : V} : putF "past" c ([("parsed", a), ("now", b)] : List (Str × V)) = ([("parsed", a), ("now", b), ("past", c)] : List (Str × V)) := by kernel_rfl
theorem put_c4 {a b c d : V} : putF "undone" d ([("parsed", a), ("now", b), ("past", c)] : List (Str × V)) = ([("parsed", a), ("now", b), ("past", c), ("undone", d)] : List (Str × V)) := by kernel_rfl
theorem put_c5 {a b c d e : V} : putF "saved" e ([("parsed", a), ("now", b), ("past", c), ("undone", d)] : List (Str × V)) = corFs a b c d e := by kernel_rfl
theorem put_now {a b c d e v : V} : putF "now" v (corFs a b c d e) = corFs a v c d e := by kernel_rfl
theorem put_past {a b c d e v : V} : putF "past" v (corFs a b c d e) = corFs a b v d e := by kernel_rfl
theorem put_undone {a b c d e v : V} : putF "undone" v (corFs a b c d e) = corFs a b c v e := by kernel_rfl
theorem lc_parsed {a b c d e : V} : List.lookup ("parsed" : Str) (corFs a b c d e) = some a := by kernel_rfl
theorem lc_now {a b c d e : V} : List.lookup ("now" : Str) (corFs a b c d e) = some b := by kernel_rfl
theorem lc_past {a b c d e : V} : List.lookup ("past" : Str) (corFs a b c d e) = some c := by kernel_rfl
theorem lc_undone {a b c d e : V} : List.lookup ("undone" : Str) (corFs a b c d e) = some d := by kernel_rfl
theorem lc_saved {a b c d e : V} : List.lookup ("saved" : Str) (corFs a b c d e) = some e := by kernel_rfl
theorem l1_parsed {a : V} : List.lookup ("parsed" : Str) ([("parsed", a)] : List (Str × V)) = some a := by kernel_rfl
section
variable {P : Program} {w : World} {K : PySem.W.Frag} {mg : Str → Option Value} {base : Heap}
def spCorInit (K : PySem.W.Frag) : Sp := fun vs H Q E => ∃ (H0 : Hp) (p dx : Addr) (text : Cs), vs = [.ref p, .str (sx text)] ∧ H p = some (.ins (He.ga K "Corridor") dx []) ∧ Same H0 H ∧ H0 p = none ∧ text.length ≤ 90000 ∧
  (∀ n s, loads text = .ok (n, s) → s.faults = [] ∧ 1 ≤ (planOf n s).floor.length ∧ (planOf n s).floor.length ≤ 1000 ∧ (planOf n s).robots.length ≤ 1000 ∧
    ∀ (L : CLoc) (H' : Hp), CorAt K H0 H' p L (planOf n s) (firstC (planOf n s)) → L.own = [] → Q .non H') ∧ (∀ l c, loads text = .error (l, c) → Syn K H0 E l c)
theorem sc_cor_init : FnScope ["self", "plan"] ["self", "plan"] (defScope s_Corridor_init) := ⟨rfl, rfl, rfl, by decide +kernel, rfl, by decide +kernel, by decide +kernel⟩
theorem ok_cor_init (T : CorT K w mg) : FnE P w K mg base (L2.CX P w) 9 ("Corridor", some "__init__") ["self", "plan"] (spCorInit K) := by
  obtain ⟨fd, F⟩ := T.d_cor
  obtain ⟨fdL, GL, bL, kL⟩ := ok_load (P := P) (w := w) (base := base) T.m.lo
  obtain ⟨fdF, GF, bF, kF⟩ := ok_first_state (P := P) (w := w) (base := base) T.m
  refine ⟨fd, F.ok sc_cor_init (fun vs H Q E h => ?_) (fun cdv A outer s H vs Q E hr h => ?_), F.bindsN fun _ _ _ _ _ _ us hl => match us, hl with | [_, _], _ => rfl, F.kp⟩
  · obtain ⟨H0, p, dx, text, rfl, _⟩ := h
    rfl
  · obtain ⟨H0, p, dx, text, rfl, hp, sm, n0p, hl, hok, her⟩ := h
    have hr3 : Room 3 _ := hr.mono (by decide)
    refine ⟨_, (pss_cons (ps_fld (pv 0) (pe_call GL hr rfl T.m.lo.g_load kL bL .nil (passes_call (takes_of rfl rfl rfl rfl) (fun _ _ _ _ h => h)) (pa_cons (pv 1) pa_nil)) rfl)
      (pss_cons (ps_fld (pv 0) (pe_tup (pa_cons (pe_call GF hr3 rfl T.m.first_state.g kF bF .nil pass0 (pa_cons (pe_fld (pv 0) rfl) pa_nil)) (pa_cons pe_int (pa_cons (pe_op op_repA (pe_tup (pa_cons pe_int pa_nil)) (pe_callB call_len_seq (by rfl) T.m.lo.p.l.len boot_len (pa_cons (pe_fld (pe_fld (pv 0) rfl) rfl) pa_nil))) pa_nil)))) rfl)
      (pss_cons (ps_fld (pv 0) (pe_lst pa_nil) rfl) (pss_cons (ps_fld (pv 0) (pe_lst pa_nil) rfl) (pss_one (ps_fld (pv 0) pe_dnewK rfl)))))), ?_⟩
    refine ⟨_, rfl, text, rfl, hl, fun n s he => ?_, fun l c he d H' s1 hd => her l c he d H' (sm.trans s1) hd⟩
    obtain ⟨hf, h2, h3, h4, k⟩ := hok n s he
    refine ⟨hf, fun pa H1 npa s1 hpl => ?_⟩
    refine ⟨_, rfl, p, _, dx, _, rfl, s1 _ _ hp, T.cor.c, T.cor.n _ (by simp), lnZ ln0, ?_⟩
    rw [put_c1]
    have f1 : Fz K H1 (upd H1 p (.ins (He.ga K "Corridor") dx [("parsed", .ref pa)])) := Fz.put (Fz.refl _) (s1 _ _ hp) (fun q => q rfl)
    replace hpl := hpl.fz T.ap f1
    have m1 : Same H0 (upd H1 p (.ins (He.ga K "Corridor") dx [("parsed", .ref pa)])) := sameUpd (sm.trans s1) n0p
    have at_p := @upd_same H1 p (.ins (He.ga K "Corridor") dx [("parsed", .ref pa)])
    generalize upd H1 p (.ins (He.ga K "Corridor") dx [("parsed", .ref pa)]) = H2 at *
    refine ⟨_, rfl, p, _, dx, _, _, rfl, at_p, T.cor.c, T.cor.n _ (by simp), l1_parsed, ?_⟩
    refine ⟨pa, planOf n s, rfl, hpl, by omega, fun sa H3 nsa s3 hst => ?_⟩
    replace hpl := hpl.same s3
    replace at_p := s3 _ _ at_p
    replace m1 := m1.trans s3
    refine ⟨(by show 1 ≤ sizeLine; decide), fun q1 nq1 => ?_⟩
    have s4 := sameUpd (o := .tup [.int 0]) (Same.refl H3) nq1
    have hq1 := @upd_same H3 q1 (.tup [.int 0])
    replace hpl := hpl.same s4
    replace at_p := s4 _ _ at_p
    replace m1 := m1.trans s4
    replace hst := hst.same s4
    generalize upd H3 q1 (.tup [.int 0]) = H4 at *
    obtain ⟨dp, sga, mda, fla, rba, rda, ras, e1, e2, e3, e4, e5⟩ := id hpl
    refine ⟨_, rfl, p, _, dx, _, _, rfl, at_p, T.cor.c, T.cor.n _ (by simp), l1_parsed, pa, _, dp, _, _, rfl, e1, T.m.lo.plan.c, T.m.lo.plan.n _ (by simp), lpl_floor, fla, _, rfl, .inr (SqT.of e4), ?_⟩
    refine ⟨q1, _, _, rfl, rfl, hq1, by simp, ?_, ?_, by simp, fun su H5 s5 hsu => ?_⟩
    · rw [List.length_map]; omega
    · rw [List.length_map]; omega
    have erep : (List.replicate (((planOf n s).floor.map fun n : Nat => V.int n).length : Int).toNat [V.int 0]).flatten = (List.replicate (planOf n s).floor.length 0).map iV := by
      rw [Int.toNat_natCast, List.length_map]
      generalize (planOf n s).floor.length = z
      induction z with
      | zero => rfl
      | succ z ih => rw [List.replicate_succ, List.flatten_cons, ih, List.replicate_succ]; rfl
    rw [erep] at hsu
    replace hpl := hpl.same s5
    replace at_p := s5 _ _ at_p
    replace m1 := m1.trans s5
    replace hst := hst.same s5
    refine ⟨(by show 3 ≤ sizeLine; decide), fun na nna => ?_⟩
    have s6 := sameUpd (o := .tup [.ref sa, .int 0, .ref su]) (Same.refl H5) nna
    have hna : NowAt K (upd H5 na (.tup [.ref sa, .int 0, .ref su])) na (firstC (planOf n s)).now := ⟨sa, su, upd_same, hst.same s6, s6 _ _ hsu⟩
    replace hpl := hpl.same s6
    replace at_p := s6 _ _ at_p
    replace m1 := m1.trans s6
    generalize upd H5 na (.tup [.ref sa, .int 0, .ref su]) = H6 at *
    refine ⟨_, rfl, p, _, dx, _, rfl, at_p, T.cor.c, T.cor.n _ (by simp), lnZ (lnS ln0), ?_⟩
    rw [put_c2]
    have f2 : Fz K H6 (upd H6 p (.ins (He.ga K "Corridor") dx [("parsed", .ref pa), ("now", .ref na)])) := Fz.put (Fz.refl _) at_p (fun q => q rfl)
    replace hpl := hpl.fz T.ap f2
    replace hna := hna.fz T.ap f2
    replace m1 : Same H0 (upd H6 p (.ins (He.ga K "Corridor") dx [("parsed", .ref pa), ("now", .ref na)])) := sameUpd m1 n0p
    replace at_p := @upd_same H6 p (.ins (He.ga K "Corridor") dx [("parsed", .ref pa), ("now", .ref na)])
    generalize upd H6 p (.ins (He.ga K "Corridor") dx [("parsed", .ref pa), ("now", .ref na)]) = H7 at *
    refine ⟨(by show 0 ≤ sizeLine; decide), fun pl npl => ?_⟩
    have n0pl : H0 pl = none := m1.free npl
    have ppl : p ≠ pl := ne_of_none at_p npl
    refine ⟨_, rfl, p, _, dx, _, rfl, (upd_ne ppl).trans at_p, T.cor.c, T.cor.n _ (by simp), (by simp), ?_⟩
    rw [put_c3]
    have f3 : Fz K H7 (upd (upd H7 pl (.lst [])) p (.ins (He.ga K "Corridor") dx [("parsed", .ref pa), ("now", .ref na), ("past", .ref pl)])) := Fz.put (Fz.new (Fz.refl _) npl) ((upd_ne ppl).trans at_p) (fun q => q rfl)
    replace hpl := hpl.fz T.ap f3
    replace hna := hna.fz T.ap f3
    have at_pl : (upd (upd H7 pl (.lst [])) p (.ins (He.ga K "Corridor") dx [("parsed", .ref pa), ("now", .ref na), ("past", .ref pl)])) pl = some (.lst []) := (upd_ne (Ne.symm ppl)).trans upd_same
    replace m1 : Same H0 (upd (upd H7 pl (.lst [])) p (.ins (He.ga K "Corridor") dx [("parsed", .ref pa), ("now", .ref na), ("past", .ref pl)])) := sameUpd (sameUpd m1 n0pl) n0p
    replace at_p := @upd_same (upd H7 pl (.lst [])) p (.ins (He.ga K "Corridor") dx [("parsed", .ref pa), ("now", .ref na), ("past", .ref pl)])
    generalize upd (upd H7 pl (.lst [])) p (.ins (He.ga K "Corridor") dx [("parsed", .ref pa), ("now", .ref na), ("past", .ref pl)]) = H8 at *
    refine ⟨(by show 0 ≤ sizeLine; decide), fun ul nul => ?_⟩
    have n0ul : H0 ul = none := m1.free nul
    have pul : p ≠ ul := ne_of_none at_p nul
    have plul : pl ≠ ul := ne_of_none at_pl nul
    refine ⟨_, rfl, p, _, dx, _, rfl, (upd_ne pul).trans at_p, T.cor.c, T.cor.n _ (by simp), (by simp), ?_⟩
    rw [put_c4]
    have f4 : Fz K H8 (upd (upd H8 ul (.lst [])) p (.ins (He.ga K "Corridor") dx [("parsed", .ref pa), ("now", .ref na), ("past", .ref pl), ("undone", .ref ul)])) := Fz.put (Fz.new (Fz.refl _) nul) ((upd_ne pul).trans at_p) (fun q => q rfl)
    replace hpl := hpl.fz T.ap f4
    replace hna := hna.fz T.ap f4
    have at_ul : (upd (upd H8 ul (.lst [])) p (.ins (He.ga K "Corridor") dx [("parsed", .ref pa), ("now", .ref na), ("past", .ref pl), ("undone", .ref ul)])) ul = some (.lst []) := (upd_ne (Ne.symm pul)).trans upd_same
    replace at_pl : (upd (upd H8 ul (.lst [])) p (.ins (He.ga K "Corridor") dx [("parsed", .ref pa), ("now", .ref na), ("past", .ref pl), ("undone", .ref ul)])) pl = some (.lst []) := ((upd_ne (Ne.symm ppl)).trans (upd_ne plul)).trans at_pl
    replace m1 : Same H0 (upd (upd H8 ul (.lst [])) p (.ins (He.ga K "Corridor") dx [("parsed", .ref pa), ("now", .ref na), ("past", .ref pl), ("undone", .ref ul)])) := sameUpd (sameUpd m1 n0ul) n0p
    replace at_p := @upd_same (upd H8 ul (.lst [])) p (.ins (He.ga K "Corridor") dx [("parsed", .ref pa), ("now", .ref na), ("past", .ref pl), ("undone", .ref ul)])
    generalize upd (upd H8 ul (.lst [])) p (.ins (He.ga K "Corridor") dx [("parsed", .ref pa), ("now", .ref na), ("past", .ref pl), ("undone", .ref ul)]) = H9 at *
    intro sd nsd
    have n0sd : H0 sd = none := m1.free nsd
    have psd : p ≠ sd := ne_of_none at_p nsd
    refine ⟨_, rfl, p, _, dx, _, rfl, (upd_ne psd).trans at_p, T.cor.c, T.cor.n _ (by simp), (by simp), ?_⟩
    rw [put_c5]
    have f5 : Fz K H9 (upd (upd H9 sd (.dK [])) p (.ins (He.ga K "Corridor") dx (corFs (.ref pa) (.ref na) (.ref pl) (.ref ul) (.ref sd)))) := Fz.put (Fz.new (Fz.refl _) nsd) ((upd_ne psd).trans at_p) (fun q => q rfl)
    refine k ⟨dx, pa, na, pl, ul, sd, []⟩ _ ⟨sameUpd (sameUpd m1 n0sd) n0p, upd_same, hpl.fz T.ap f5, hna.fz T.ap f5, ⟨[], ((upd_ne (Ne.symm ppl)).trans (upd_ne (ne_of_none at_pl nsd))).trans at_pl, .nil⟩, ⟨[], ((upd_ne (Ne.symm pul)).trans (upd_ne (ne_of_none at_ul nsd))).trans at_ul, .nil⟩,
      ⟨[], (upd_ne (Ne.symm psd)).trans upd_same, .nil⟩, plul, by simp, by simp, by simp, ?_⟩ rfl
    intro a ha
    simp only [List.mem_cons, List.not_mem_nil, or_false] at ha
    rcases ha with z | z | z | z <;> (subst z; assumption)
end
end Sw

end

section
set_option maxRecDepth 100000
set_option maxHeartbeats 4000000
namespace Sw
open PySem PySem.Spec PyProof.Rows L2 SwA
structure RecT (K : PySem.W.Frag) (w : World) (mg : Str → Option Value) : Prop where
  c : CorT K w mg
  record : MeT K "Corridor" "record" "Corridor.record" s_Corridor_record
  undo : MeT K "Corridor" "undo" "Corridor.undo" s_Corridor_undo
  redo : MeT K "Corridor" "redo" "Corridor.redo" s_Corridor_redo
/-- the corridor's own things are changed, all else stands -/
theorem CorAt.change {K : PySem.W.Frag} (A : ApK K) {H0 H H' : Hp} {p : Addr} {L L' : CLoc} {pln : Plan} {c c' : CSt} (h : CorAt K H0 H p L pln c) (fz : Fz K H H') (sm : Same H0 H')
    (ob : H' p = some (.ins (He.ga K "Corridor") L'.dx (corFs (.ref L'.pa) (.ref L'.na) (.ref L'.pl) (.ref L'.ul) (.ref L'.sd)))) (epa : L'.pa = L.pa) (esd : L'.sd = L.sd) (eo : L'.own = L.own) (es : c'.saved = c.saved)
    (now : NowAt K H' L'.na c'.now) (past : EntsAt K H' L'.pl c'.past) (und : EntsAt K H' L'.ul c'.undone) (out : ∀ a, a ≠ p → a ≠ L.pl → a ≠ L.ul → (∃ o, H a = some o) → H' a = H a)
    (ne : L'.pl ≠ L'.ul) (np : L'.pl ∉ L'.own) (nu : L'.ul ∉ L'.own) (n1 : H0 L'.pl = none) (n2 : H0 L'.ul = none) : CorAt K H0 H' p L' pln c' := by
  obtain ⟨kvs, hkv, hkp⟩ := id h.sav
  obtain ⟨ps, hps, _⟩ := id h.past
  obtain ⟨us, hus, _⟩ := id h.und
  have ow : ∀ a ∈ L.own, H' a = H a := fun a ha => by
    obtain ⟨xs, hx⟩ := h.ow a ha
    exact out a (ne_of hx h.ob (by intro z; cases z)) (fun z => h.np (z ▸ ha)) (fun z => h.nu (z ▸ ha)) ⟨_, hx⟩
  have sd : H' L.sd = H L.sd := out _ (ne_of hkv h.ob (by intro z; cases z)) (ne_of hkv hps (by intro z; cases z)) (ne_of hkv hus (by intro z; cases z)) ⟨_, hkv⟩
  refine ⟨sm, ob, epa ▸ h.plan.fz A fz, now, past, und, ?_, ne, np, nu, ?_, ?_⟩
  · rw [es, esd, eo]
    exact h.sav.fz A fz sd ow
  · intro a ha
    rw [eo] at ha
    obtain ⟨xs, hx⟩ := h.ow a ha
    exact ⟨xs, (ow a ha).trans hx⟩
  · intro a ha
    simp only [CLoc.all, List.mem_cons] at ha
    rcases ha with z | z | z | z | z
    · exact z ▸ h.new _ (by simp)
    · exact z ▸ n1
    · exact z ▸ n2
    · rw [z, esd]
      exact h.new _ (by simp)
    · rw [eo] at z
      exact h.new _ (by simp [z])
section
variable {P : Program} {w : World} {K : PySem.W.Frag} {mg : Str → Option Value} {base : Heap}
def spRecord (K : PySem.W.Frag) : Sp := fun vs H Q _ => ∃ (H0 : Hp) (p nb : Addr) (L : CLoc) (pln : Plan) (c : CSt) (word : Cs) (now : CNow), vs = [.ref p, sV word, .ref nb] ∧ CorAt K H0 H p L pln c ∧ NowAt K H nb now ∧ c.past.length ≤ 100000 ∧
  ∀ (L' : CLoc) (H' : Hp), CorAt K H0 H' p L' pln (recordC c word now) → L'.own = L.own → L'.sd = L.sd → Q .non H'
theorem sc_record : FnScope ["self", "word", "now"] ["self", "word", "now"] (defScope s_Corridor_record) := ⟨rfl, rfl, rfl, by decide +kernel, rfl, by decide +kernel, by decide +kernel⟩
theorem ok_record (T : RecT K w mg) : FnE P w K mg base CX0 1 ("Corridor", some "record") ["self", "word", "now"] (spRecord K) := by
  obtain ⟨fd, F⟩ := T.record.d
  refine ⟨fd, F.ok sc_record (fun vs H Q E h => ?_) (fun cdv A outer s H vs Q E hr h => ?_), F.bindsN fun _ _ _ _ _ _ us hl => match us, hl with | [_, _, _], _ => rfl, F.kp⟩
  · obtain ⟨H0, p, nb, L, pln, c, word, now, rfl, _⟩ := h
    rfl
  · obtain ⟨H0, p, nb, L, pln, c, word, now, rfl, hc, hn, hl, k⟩ := h
    refine ⟨_, PSs.nox (pss_cons (ps_expr (pe_bm PySem.F.plainAttrs_list PySem.F.slot_list_append PySem.F.type_list_append mt_append (pe_fld (pv 0) rfl) (pa_cons (pe_tup (pa_cons (pv 1) (pa_cons (pe_fld (pv 0) rfl) (pa_cons (pv 2) pa_nil)))) pa_nil)))
      (pss_cons (ps_fld (pv 0) (pe_lst pa_nil) rfl) (pss_one (ps_fld (pv 0) (pv 2) rfl)))), ?_⟩
    obtain ⟨ps, hps, hpr⟩ := id hc.past
    refine ⟨_, rfl, p, _, _, _, _, rfl, hc.ob, T.c.cor.c, T.c.cor.n _ (by simp), lc_past, .inl ⟨rfl, _, SqL.of hps⟩, ?_⟩
    refine ⟨_, rfl, _, rfl, p, _, _, _, _, rfl, hc.ob, T.c.cor.c, T.c.cor.n _ (by simp), lc_now, _, rfl, (by show 3 ≤ sizeLine; decide), fun t nt => ?_⟩
    have s1 := sameUpd (o := .tup [sV word, .ref L.na, .ref nb]) (Same.refl H) nt
    have hc1 := hc.same' T.c.ap s1
    have ht := @upd_same H t (.tup [sV word, .ref L.na, .ref nb])
    have hn1 := hn.fz T.c.ap (Fz.same s1)
    have ht0 : EntAt K (upd H t (.tup [sV word, .ref L.na, .ref nb])) t ⟨word, c.now, now⟩ := ⟨_, _, ht, hc1.now, hn1⟩
    have hps1 := s1 _ _ hps
    have hpr1 := Paired.mapP hpr fun _ _ q => EntAt.fz T.c.ap (Fz.same s1) q
    generalize upd H t (.tup [sV word, .ref L.na, .ref nb]) = H1 at *
    refine ⟨L.pl, _, _, rfl, rfl, hps1, ?_, ?_⟩
    · rw [List.length_map, hpr1.length, sizeLine_eq]
      omega
    have f2 : Fz K H1 (upd H1 L.pl (.lst (ps.map V.ref ++ [.ref t]))) := Fz.put (Fz.refl _) hps1 (fun q => q)
    have pne : p ≠ L.pl := ne_of hc1.ob hps1 (by intro z; cases z)
    refine ⟨(by show 0 ≤ sizeLine; decide), fun ul nul => ?_⟩
    have hob2 : (upd (upd H1 L.pl (.lst (ps.map V.ref ++ [.ref t]))) ul (.lst [])) p = some (.ins (He.ga K "Corridor") L.dx (corFs (.ref L.pa) (.ref L.na) (.ref L.pl) (.ref L.ul) (.ref L.sd))) := by
      have e : (upd H1 L.pl (.lst (ps.map V.ref ++ [.ref t]))) p = some _ := (upd_ne pne).trans hc1.ob
      rw [upd_ne (ne_of_none e nul)]
      exact e
    refine ⟨_, rfl, p, _, _, _, rfl, hob2, T.c.cor.c, T.c.cor.n _ (by simp), (by simp), ?_⟩
    rw [put_undone]
    refine ⟨_, rfl, _, rfl, p, _, _, _, rfl, upd_same, T.c.cor.c, T.c.cor.n _ (by simp), (by simp), ?_⟩
    rw [put_now, upd_upd]
    have f3 := Fz.put (o' := .ins (He.ga K "Corridor") L.dx (corFs (.ref L.pa) (.ref nb) (.ref L.pl) (.ref ul) (.ref L.sd))) (Fz.new (o' := .lst []) f2 nul) hob2 (fun q => q rfl)
    have npl : (upd H1 L.pl (.lst (ps.map V.ref ++ [.ref t]))) L.pl = some (.lst (ps.map V.ref ++ [.ref t])) := upd_same
    have ul_pl : L.pl ≠ ul := ne_of_none npl nul
    have ul_p : p ≠ ul := ne_of_none ((upd_ne (o := .lst (ps.map V.ref ++ [.ref t])) pne).trans hc1.ob) nul
    have sm : Same H0 (upd (upd (upd H1 L.pl (.lst (ps.map V.ref ++ [.ref t]))) ul (.lst [])) p (.ins (He.ga K "Corridor") L.dx (corFs (.ref L.pa) (.ref nb) (.ref L.pl) (.ref ul) (.ref L.sd)))) := by
      have a1 : Same H0 (upd H1 L.pl (.lst (ps.map V.ref ++ [.ref t]))) := sameUpd hc1.same (hc.new _ (by simp))
      exact sameUpd (sameUpd a1 (a1.free nul)) (hc.new _ (by simp))
    have out : ∀ a, a ≠ p → a ≠ L.pl → (∃ o, H1 a = some o) → (upd (upd (upd H1 L.pl (.lst (ps.map V.ref ++ [.ref t]))) ul (.lst [])) p (.ins (He.ga K "Corridor") L.dx (corFs (.ref L.pa) (.ref nb) (.ref L.pl) (.ref ul) (.ref L.sd)))) a = H1 a := by
      rintro a h1 h2 ⟨o, ho⟩
      have e : (upd H1 L.pl (.lst (ps.map V.ref ++ [.ref t]))) a = some o := (upd_ne h2).trans ho
      rw [upd_ne h1, upd_ne (ne_of_none e nul), upd_ne h2]
    have a1 : Same H0 (upd H1 L.pl (.lst (ps.map V.ref ++ [.ref t]))) := sameUpd hc1.same (hc.new _ (by simp))
    refine k ⟨L.dx, L.pa, nb, L.pl, ul, L.sd, L.own⟩ _ (hc1.change T.c.ap f3 sm upd_same rfl rfl rfl rfl (hn1.fz T.c.ap f3) ⟨ps ++ [t], ?_, ?_⟩ ⟨[], ?_, .nil⟩ (fun a h1 h2 _ h4 => out a h1 h2 h4) ul_pl hc.np ?_ (hc.new _ (by simp)) (a1.free nul)) rfl rfl
    · rw [upd_ne (Ne.symm pne), upd_ne ul_pl, upd_same, List.map_append]
      rfl
    · exact Paired_snoc (Paired.mapP hpr1 fun _ _ q => q.fz T.c.ap f3) (ht0.fz T.c.ap f3)
    · rw [upd_ne (Ne.symm ul_p), upd_same]
      rfl
    · intro z
      obtain ⟨o, ho⟩ := hc1.ow _ z
      exact ne_of_none ((upd_ne (o := .lst (ps.map V.ref ++ [.ref t])) (Ne.symm ul_pl)).trans ho) nul rfl
end
end Sw

end

section
set_option maxRecDepth 100000
set_option maxHeartbeats 4000000
/-! undo, redo -/
namespace Sw
open PySem PySem.Spec PyProof.Rows L2 SwA
theorem Paired_last {α β : Type} {F : α → β → Prop} : ∀ {l : List α} {m : List β} {e : β}, Paired F l m → m.getLast? = some e → ∃ (l0 : List α) (t : α), l = l0 ++ [t] ∧ F t e ∧ Paired F l0 m.dropLast
  | _, _, _, .nil, h => by cases h
  | _, _, e, .cons (a := a) (b := b) (l₁ := l) (l₂ := m) h t, he => by
    cases t with
    | nil =>
      have : b = e := by simpa using he
      subst this
      exact ⟨[], a, rfl, h, .nil⟩
    | @cons a2 b2 l2 m2 h2 t2 =>
      have he2 : (b2 :: m2).getLast? = some e := by rw [List.getLast?_cons_cons] at he; exact he
      obtain ⟨l0, t, e1, e2, e3⟩ := Paired_last (.cons h2 t2) he2
      exact ⟨a :: l0, t, by rw [e1]; rfl, e2, .cons h e3⟩
section
variable {P : Program} {w : World} {K : PySem.W.Frag} {mg : Str → Option Value} {base : Heap}
def spUndo (K : PySem.W.Frag) : Sp := fun vs H Q _ => ∃ (H0 : Hp) (p : Addr) (L : CLoc) (pln : Plan) (c : CSt), vs = [.ref p] ∧ CorAt K H0 H p L pln c ∧ c.undone.length ≤ 100000 ∧
  ∀ (L' : CLoc) (H' : Hp), CorAt K H0 H' p L' pln (undoC c) → L'.own = L.own → L'.sd = L.sd → Q (.bl (!decide (c.past = []))) H'
theorem sc_undo : FnScope ["self", "entry"] ["self"] (defScope s_Corridor_undo) := ⟨rfl, rfl, rfl, by decide +kernel, rfl, by decide +kernel, by decide +kernel⟩
theorem ok_undo (T : RecT K w mg) : FnE P w K mg base CX0 1 ("Corridor", some "undo") ["self"] (spUndo K) := by
  obtain ⟨fd, F⟩ := T.undo.d
  refine ⟨fd, F.ok sc_undo (fun vs H Q E h => ?_) (fun cdv A outer s H vs Q E hr h => ?_), F.bindsN fun _ _ _ _ _ _ us hl => match us, hl with | [_], _ => rfl, F.kp⟩
  · obtain ⟨H0, p, L, pln, c, rfl, _⟩ := h
    rfl
  · obtain ⟨H0, p, L, pln, c, rfl, hc, hl, k⟩ := h
    refine ⟨_, PSs.nox (pss_cons (ps_if (pt_cmpR (op_eqNil (hu0 hr)) (pe_fld (pv 0) rfl) (pe_lst pa_nil) (nomark _)) (pss_one (ps_ret pe_bl)) pss_nil)
      (pss_cons (ps_set (i := 1) sc_undo.nd rfl (.inl rfl) (pe_bm0 PySem.F.plainAttrs_list PySem.F.slot_list_pop PySem.F.type_list_pop mt_pop (pe_fld (pv 0) rfl)))
      (pss_cons (ps_expr (pe_bm PySem.F.plainAttrs_list PySem.F.slot_list_append PySem.F.type_list_append mt_append (pe_fld (pv 0) rfl) (pa_cons (pv 1) pa_nil)))
      (pss_cons (ps_fld (pv 0) (pe_ix ix_tup (pv 1) pe_int (fun _ _ => rfl)) rfl) (pss_one (ps_ret pe_bl)))))), ?_⟩
    obtain ⟨ps, hps, hpr⟩ := id hc.past
    obtain ⟨us, hus, hur⟩ := id hc.und
    refine ⟨_, rfl, p, _, _, _, _, rfl, hc.ob, T.c.cor.c, T.c.cor.n _ (by simp), lc_past, (by show 0 ≤ sizeLine; decide), fun nl nnl => ?_⟩
    have s1 := sameUpd (o := .lst []) (Same.refl H) nnl
    have hnl := @upd_same H nl (.lst [])
    have hc1 := hc.same' T.c.ap s1
    have hps1 := s1 _ _ hps
    have hus1 := s1 _ _ hus
    have hpr1 := Paired.mapP hpr fun _ _ q => EntAt.fz T.c.ap (Fz.same s1) q
    have hur1 := Paired.mapP hur fun _ _ q => EntAt.fz T.c.ap (Fz.same s1) q
    generalize upd H nl (.lst []) = H1 at *
    refine ⟨L.pl, nl, _, rfl, rfl, SqL.of hps1, SqL.of hnl, ?_⟩
    cases he : c.past.getLast? with
    | none =>
      have e0 : c.past = [] := List.getLast?_eq_none_iff.mp he
      have ep : ps = [] := by
        rw [e0] at hpr
        cases hpr
        rfl
      have eq : undoC c = c := by unfold undoC; rw [he]
      have g := k L H1 (by rw [eq]; exact hc1) rfl rfl
      rw [e0] at g
      refine ⟨_, rfl, ?_⟩
      rw [ep]
      exact g
    | some e =>
      obtain ⟨p0, t, e1, e2, e3⟩ := Paired_last hpr1 he
      have e0 : c.past ≠ [] := fun z => by rw [z] at he; cases he
      refine ⟨_, rfl, ?_⟩
      have ed : decide (ps.map V.ref = []) = false := decide_eq_false (by rw [e1]; simp)
      rw [ed]
      have g := k
      rw [show (!decide (c.past = [])) = true from by rw [decide_eq_false e0]; rfl] at g
      refine ⟨_, rfl, p, _, _, _, _, rfl, hc1.ob, T.c.cor.c, T.c.cor.n _ (by simp), lc_past, .inl ⟨rfl, _, SqL.of hps1⟩, L.pl, _, .ref t, rfl, rfl, hps1, ?_, ?_⟩
      · rw [e1]
        simp
      have edl : (ps.map V.ref).dropLast = p0.map V.ref := by rw [e1]; simp
      rw [edl]
      have f2 : Fz K H1 (upd H1 L.pl (.lst (p0.map V.ref))) := Fz.put (Fz.refl _) hps1 (fun q => q)
      have pne : p ≠ L.pl := ne_of hc1.ob hps1 (by intro z; cases z)
      have une : L.ul ≠ L.pl := Ne.symm hc.ne
      have pne2 : p ≠ L.ul := ne_of hc1.ob hus1 (by intro z; cases z)
      refine ⟨_, rfl, p, _, _, _, _, rfl, (upd_ne pne).trans hc1.ob, T.c.cor.c, T.c.cor.n _ (by simp), lc_undone, .inl ⟨rfl, _, SqL.of ((upd_ne une).trans hus1)⟩, _, rfl, L.ul, _, _, rfl, rfl, (upd_ne une).trans hus1, ?_, ?_⟩
      · rw [List.length_map, hur1.length, sizeLine_eq]
        omega
      have f3 : Fz K H1 (upd (upd H1 L.pl (.lst (p0.map V.ref))) L.ul (.lst (us.map V.ref ++ [.ref t]))) := Fz.put f2 ((upd_ne une).trans hus1) (fun q => q)
      have ob3 : (upd (upd H1 L.pl (.lst (p0.map V.ref))) L.ul (.lst (us.map V.ref ++ [.ref t]))) p = _ := ((upd_ne pne2).trans (upd_ne pne)).trans hc1.ob
      obtain ⟨oa, na, q1, q2, q3⟩ := id (e2.fz T.c.ap f3)
      refine ⟨_, rfl, t, _, _, _, rfl, rfl, SqT.of q1, rfl, _, rfl, p, _, _, _, rfl, ob3, T.c.cor.c, T.c.cor.n _ (by simp), (by simp), ?_⟩
      rw [put_now]
      have f4 := Fz.put (o' := .ins (He.ga K "Corridor") L.dx (corFs (.ref L.pa) (.ref oa) (.ref L.pl) (.ref L.ul) (.ref L.sd))) f3 ob3 (fun q => q rfl)
      have eq : undoC c = ⟨e.old, c.past.dropLast, c.undone ++ [e], c.saved⟩ := by unfold undoC; rw [he]
      have sm : Same H0 (upd (upd (upd H1 L.pl (.lst (p0.map V.ref))) L.ul (.lst (us.map V.ref ++ [.ref t]))) p (.ins (He.ga K "Corridor") L.dx (corFs (.ref L.pa) (.ref oa) (.ref L.pl) (.ref L.ul) (.ref L.sd)))) :=
        sameUpd (sameUpd (sameUpd hc1.same (hc.new _ (by simp))) (hc.new _ (by simp))) (hc.new _ (by simp))
      have out : ∀ a, a ≠ p → a ≠ L.pl → a ≠ L.ul → (∃ o, H1 a = some o) → (upd (upd (upd H1 L.pl (.lst (p0.map V.ref))) L.ul (.lst (us.map V.ref ++ [.ref t]))) p (.ins (He.ga K "Corridor") L.dx (corFs (.ref L.pa) (.ref oa) (.ref L.pl) (.ref L.ul) (.ref L.sd)))) a = H1 a := by
        rintro a h1 h2 h3 _
        rw [upd_ne h1, upd_ne h3, upd_ne h2]
      have ent4 := e2.fz T.c.ap f4
      have past4 : EntsAt K (upd (upd (upd H1 L.pl (.lst (p0.map V.ref))) L.ul (.lst (us.map V.ref ++ [.ref t]))) p (.ins (He.ga K "Corridor") L.dx (corFs (.ref L.pa) (.ref oa) (.ref L.pl) (.ref L.ul) (.ref L.sd)))) L.pl c.past.dropLast :=
        ⟨p0, by rw [upd_ne (Ne.symm pne), upd_ne (Ne.symm une), upd_same], Paired.mapP e3 fun _ _ q => q.fz T.c.ap f4⟩
      have und4 : EntsAt K (upd (upd (upd H1 L.pl (.lst (p0.map V.ref))) L.ul (.lst (us.map V.ref ++ [.ref t]))) p (.ins (He.ga K "Corridor") L.dx (corFs (.ref L.pa) (.ref oa) (.ref L.pl) (.ref L.ul) (.ref L.sd)))) L.ul (c.undone ++ [e]) :=
        ⟨us ++ [t], by rw [upd_ne (Ne.symm pne2), upd_same, List.map_append]; rfl, Paired_snoc (Paired.mapP hur1 fun _ _ q => q.fz T.c.ap f4) ent4⟩
      obtain ⟨oa2, na2, q5, q6, q7⟩ := id ent4
      have eon : oa2 = oa ∧ na2 = na := by
        have q1' : (upd (upd H1 L.pl (.lst (p0.map V.ref))) L.ul (.lst (us.map V.ref ++ [.ref t]))) t = some _ := q1
        have tp : t ≠ p := ne_of q1' ob3 (by intro z; cases z)
        rw [upd_ne tp, q1'] at q5
        cases q5
        exact ⟨rfl, rfl⟩
      rw [eon.1] at q6
      rw [eon.2] at q7
      refine g ⟨L.dx, L.pa, oa, L.pl, L.ul, L.sd, L.own⟩ _ ?_ rfl rfl
      rw [eq]
      exact hc1.change T.c.ap f4 sm upd_same rfl rfl rfl rfl q6 past4 und4 out hc.ne hc.np hc.nu (hc.new _ (by simp)) (hc.new _ (by simp))
def spRedo (K : PySem.W.Frag) : Sp := fun vs H Q _ => ∃ (H0 : Hp) (p : Addr) (L : CLoc) (pln : Plan) (c : CSt), vs = [.ref p] ∧ CorAt K H0 H p L pln c ∧ c.past.length ≤ 100000 ∧
  ∀ (L' : CLoc) (H' : Hp), CorAt K H0 H' p L' pln (redoC c) → L'.own = L.own → L'.sd = L.sd → Q (.bl (!decide (c.undone = []))) H'
theorem sc_redo : FnScope ["self", "entry"] ["self"] (defScope s_Corridor_redo) := ⟨rfl, rfl, rfl, by decide +kernel, rfl, by decide +kernel, by decide +kernel⟩
theorem ok_redo (T : RecT K w mg) : FnE P w K mg base CX0 1 ("Corridor", some "redo") ["self"] (spRedo K) := by
  obtain ⟨fd, F⟩ := T.redo.d
  refine ⟨fd, F.ok sc_redo (fun vs H Q E h => ?_) (fun cdv A outer s H vs Q E hr h => ?_), F.bindsN fun _ _ _ _ _ _ us hl => match us, hl with | [_], _ => rfl, F.kp⟩
  · obtain ⟨H0, p, L, pln, c, rfl, _⟩ := h
    rfl
  · obtain ⟨H0, p, L, pln, c, rfl, hc, hl, k⟩ := h
    refine ⟨_, PSs.nox (pss_cons (ps_if (pt_cmpR (op_eqNil (hu0 hr)) (pe_fld (pv 0) rfl) (pe_lst pa_nil) (nomark _)) (pss_one (ps_ret pe_bl)) pss_nil)
      (pss_cons (ps_set (i := 1) sc_redo.nd rfl (.inl rfl) (pe_bm0 PySem.F.plainAttrs_list PySem.F.slot_list_pop PySem.F.type_list_pop mt_pop (pe_fld (pv 0) rfl)))
      (pss_cons (ps_expr (pe_bm PySem.F.plainAttrs_list PySem.F.slot_list_append PySem.F.type_list_append mt_append (pe_fld (pv 0) rfl) (pa_cons (pv 1) pa_nil)))
      (pss_cons (ps_fld (pv 0) (pe_ix ix_tup (pv 1) pe_int (fun _ _ => rfl)) rfl) (pss_one (ps_ret pe_bl)))))), ?_⟩
    obtain ⟨ps, hps, hpr⟩ := id hc.und
    obtain ⟨us, hus, hur⟩ := id hc.past
    refine ⟨_, rfl, p, _, _, _, _, rfl, hc.ob, T.c.cor.c, T.c.cor.n _ (by simp), lc_undone, (by show 0 ≤ sizeLine; decide), fun nl nnl => ?_⟩
    have s1 := sameUpd (o := .lst []) (Same.refl H) nnl
    have hnl := @upd_same H nl (.lst [])
    have hc1 := hc.same' T.c.ap s1
    have hps1 := s1 _ _ hps
    have hus1 := s1 _ _ hus
    have hpr1 := Paired.mapP hpr fun _ _ q => EntAt.fz T.c.ap (Fz.same s1) q
    have hur1 := Paired.mapP hur fun _ _ q => EntAt.fz T.c.ap (Fz.same s1) q
    generalize upd H nl (.lst []) = H1 at *
    refine ⟨L.ul, nl, _, rfl, rfl, SqL.of hps1, SqL.of hnl, ?_⟩
    cases he : c.undone.getLast? with
    | none =>
      have e0 : c.undone = [] := List.getLast?_eq_none_iff.mp he
      have ep : ps = [] := by
        rw [e0] at hpr
        cases hpr
        rfl
      have eq : redoC c = c := by unfold redoC; rw [he]
      have g := k L H1 (by rw [eq]; exact hc1) rfl rfl
      rw [e0] at g
      refine ⟨_, rfl, ?_⟩
      rw [ep]
      exact g
    | some e =>
      obtain ⟨p0, t, e1, e2, e3⟩ := Paired_last hpr1 he
      have e0 : c.undone ≠ [] := fun z => by rw [z] at he; cases he
      refine ⟨_, rfl, ?_⟩
      have ed : decide (ps.map V.ref = []) = false := decide_eq_false (by rw [e1]; simp)
      rw [ed]
      have g := k
      rw [show (!decide (c.undone = [])) = true from by rw [decide_eq_false e0]; rfl] at g
      refine ⟨_, rfl, p, _, _, _, _, rfl, hc1.ob, T.c.cor.c, T.c.cor.n _ (by simp), lc_undone, .inl ⟨rfl, _, SqL.of hps1⟩, L.ul, _, .ref t, rfl, rfl, hps1, ?_, ?_⟩
      · rw [e1]
        simp
      have edl : (ps.map V.ref).dropLast = p0.map V.ref := by rw [e1]; simp
      rw [edl]
      have f2 : Fz K H1 (upd H1 L.ul (.lst (p0.map V.ref))) := Fz.put (Fz.refl _) hps1 (fun q => q)
      have pne : p ≠ L.ul := ne_of hc1.ob hps1 (by intro z; cases z)
      have une : L.pl ≠ L.ul := hc.ne
      have pne2 : p ≠ L.pl := ne_of hc1.ob hus1 (by intro z; cases z)
      refine ⟨_, rfl, p, _, _, _, _, rfl, (upd_ne pne).trans hc1.ob, T.c.cor.c, T.c.cor.n _ (by simp), lc_past, .inl ⟨rfl, _, SqL.of ((upd_ne une).trans hus1)⟩, _, rfl, L.pl, _, _, rfl, rfl, (upd_ne une).trans hus1, ?_, ?_⟩
      · rw [List.length_map, hur1.length, sizeLine_eq]
        omega
      have f3 : Fz K H1 (upd (upd H1 L.ul (.lst (p0.map V.ref))) L.pl (.lst (us.map V.ref ++ [.ref t]))) := Fz.put f2 ((upd_ne une).trans hus1) (fun q => q)
      have ob3 : (upd (upd H1 L.ul (.lst (p0.map V.ref))) L.pl (.lst (us.map V.ref ++ [.ref t]))) p = _ := ((upd_ne pne2).trans (upd_ne pne)).trans hc1.ob
      obtain ⟨oa, na, q1, q2, q3⟩ := id (e2.fz T.c.ap f3)
      refine ⟨_, rfl, t, _, _, _, rfl, rfl, SqT.of q1, rfl, _, rfl, p, _, _, _, rfl, ob3, T.c.cor.c, T.c.cor.n _ (by simp), (by simp), ?_⟩
      rw [put_now]
      have f4 := Fz.put (o' := .ins (He.ga K "Corridor") L.dx (corFs (.ref L.pa) (.ref na) (.ref L.pl) (.ref L.ul) (.ref L.sd))) f3 ob3 (fun q => q rfl)
      have eq : redoC c = ⟨e.new, c.past ++ [e], c.undone.dropLast, c.saved⟩ := by unfold redoC; rw [he]
      have sm : Same H0 (upd (upd (upd H1 L.ul (.lst (p0.map V.ref))) L.pl (.lst (us.map V.ref ++ [.ref t]))) p (.ins (He.ga K "Corridor") L.dx (corFs (.ref L.pa) (.ref na) (.ref L.pl) (.ref L.ul) (.ref L.sd)))) :=
        sameUpd (sameUpd (sameUpd hc1.same (hc.new _ (by simp))) (hc.new _ (by simp))) (hc.new _ (by simp))
      have out : ∀ a, a ≠ p → a ≠ L.pl → a ≠ L.ul → (∃ o, H1 a = some o) → (upd (upd (upd H1 L.ul (.lst (p0.map V.ref))) L.pl (.lst (us.map V.ref ++ [.ref t]))) p (.ins (He.ga K "Corridor") L.dx (corFs (.ref L.pa) (.ref na) (.ref L.pl) (.ref L.ul) (.ref L.sd)))) a = H1 a := by
        rintro a h1 h2 h3 _
        rw [upd_ne h1, upd_ne h2, upd_ne h3]
      have ent4 := e2.fz T.c.ap f4
      have past4 : EntsAt K (upd (upd (upd H1 L.ul (.lst (p0.map V.ref))) L.pl (.lst (us.map V.ref ++ [.ref t]))) p (.ins (He.ga K "Corridor") L.dx (corFs (.ref L.pa) (.ref na) (.ref L.pl) (.ref L.ul) (.ref L.sd)))) L.ul c.undone.dropLast :=
        ⟨p0, by rw [upd_ne (Ne.symm pne), upd_ne (Ne.symm une), upd_same], Paired.mapP e3 fun _ _ q => q.fz T.c.ap f4⟩
      have und4 : EntsAt K (upd (upd (upd H1 L.ul (.lst (p0.map V.ref))) L.pl (.lst (us.map V.ref ++ [.ref t]))) p (.ins (He.ga K "Corridor") L.dx (corFs (.ref L.pa) (.ref na) (.ref L.pl) (.ref L.ul) (.ref L.sd)))) L.pl (c.past ++ [e]) :=
        ⟨us ++ [t], by rw [upd_ne (Ne.symm pne2), upd_same, List.map_append]; rfl, Paired_snoc (Paired.mapP hur1 fun _ _ q => q.fz T.c.ap f4) ent4⟩
      obtain ⟨oa2, na2, q5, q6, q7⟩ := id ent4
      have eon : oa2 = oa ∧ na2 = na := by
        have q1' : (upd (upd H1 L.ul (.lst (p0.map V.ref))) L.pl (.lst (us.map V.ref ++ [.ref t]))) t = some _ := q1
        have tp : t ≠ p := ne_of q1' ob3 (by intro z; cases z)
        rw [upd_ne tp, q1'] at q5
        cases q5
        exact ⟨rfl, rfl⟩
      rw [eon.1] at q6
      rw [eon.2] at q7
      refine g ⟨L.dx, L.pa, na, L.pl, L.ul, L.sd, L.own⟩ _ ?_ rfl rfl
      rw [eq]
      exact hc1.change T.c.ap f4 sm upd_same rfl rfl rfl rfl q7 und4 past4 out hc.ne hc.np hc.nu (hc.new _ (by simp)) (hc.new _ (by simp))
end
end Sw

end

section
set_option maxRecDepth 100000
set_option maxHeartbeats 4000000
/-! errors of no __init__ of their own -/
namespace Sw
open PySem PySem.Spec PyProof.Rows L2 SwA
/-- an error's class of no __init__ of its own -/
structure PlT (K : PySem.W.Frag) (mg : Str → Option Value) (x : Str) : Prop where
  g : mg x = some (.ref (He.ga K x))
  q : PySem.W.excIn K (He.ga K x) He.veBase "ValueError.__new__" = true
  k : PySem.W.keepIn K (.ref (He.ga K x)) = true
  s : PySem.W.subIn K (.ref (He.ga K x)) (.type "BaseException") = some true
  t : PySem.W.typeIn K (.ref (He.ga K x)) = some (.type "type")
end Sw

end

section
set_option maxRecDepth 100000
set_option maxHeartbeats 4000000
/-! step, put, turn -/
namespace Sw
open PySem PySem.Spec PyProof.Rows L2 SwA
structure OpsT (K : PySem.W.Frag) (w : World) (mg : Str → Option Value) : Prop where
  r : RecT K w mg
  enumerate : mg "enumerate" = none
  STEP : ∃ t, mg "STEP" = some (.str "step" t)
  PUT : ∃ t, mg "PUT" = some (.str "put" t)
  TURN : ∃ t, mg "TURN" = some (.str "turn" t)
  MAX_STEP : ∃ t, mg "MAX_STEP" = some (.int 500 t)
  number : PlT K mg "InvalidNumber"
  sign : PlT K mg "UnknownSign"
  step : MeT K "Corridor" "step" "Corridor.step" s_Corridor_step
  put : MeT K "Corridor" "put" "Corridor.put" s_Corridor_put
  turn : MeT K "Corridor" "turn" "Corridor.turn" s_Corridor_turn
theorem lc_no_record {a b c d e : V} : List.lookup ("record" : Str) (corFs a b c d e) = none := by kernel_rfl
section
variable {P : Program} {w : World} {K : PySem.W.Frag} {mg : Str → Option Value} {base : Heap}
/-! ### turn -/
/-- what is asked of an operation upon a corridor -/
structure OpIn (K : PySem.W.Frag) (H0 H : Hp) (p : Addr) (L : CLoc) (pln : Plan) (c : CSt) : Prop where
  cor : CorAt K H0 H p L pln c
  wf : WfC pln.floor.length pln.robots.length pln.signs.length c
  n1 : pln.floor.length ≤ 1000
  n2 : pln.robots.length ≤ 1000
  n3 : pln.signs.length ≤ 1000
  ru : RuOk pln.signs.length pln.rules
  lp : c.past.length ≤ 100000
  lu : c.undone.length ≤ 100000
def spTurn (K : PySem.W.Frag) : Sp := fun vs H Q E => ∃ (H0 : Hp) (p : Addr) (L : CLoc) (pln : Plan) (c : CSt) (v : V) (n : String), vs = [.ref p, v] ∧ OpIn K H0 H p L pln c ∧ ArN K H v n ∧
  (isIntIn v 0 ((pln.robots.length : Int) - 1) = false → ∀ H', Same H H' → E (.ref (He.ga K "InvalidNumber")) none H') ∧
  (∀ k : Nat, v = .int k → k < pln.robots.length → ∀ (L' : CLoc) (H' : Hp), CorAt K H0 H' p L' pln (recordC c wTurn (turnNow c.now k)) → L'.own = L.own → L'.sd = L.sd → Q (.int (c.now.st.robots.getD k (0, true, 0)).1) H')
abbrev tuN : List Str := ["self", "number", "state", "tick", "sums", "tile", "is_right", "mood", "robots"]
theorem sc_turn : FnScope tuN ["self", "number"] (defScope s_Corridor_turn) := ⟨rfl, rfl, rfl, by decide +kernel, rfl, by decide +kernel, by decide +kernel⟩
theorem ok_turn (T : OpsT K w mg) : FnE P w K mg base (L2.CX P w) 4 ("Corridor", some "turn") ["self", "number"] (spTurn K) := by
  obtain ⟨fd, F⟩ := T.turn.d
  obtain ⟨fdI, GI, bI, kI⟩ := ok_is_int_in (P := P) (w := w) (base := base) T.r.c.m
  obtain ⟨fdR, GR, bR, kR⟩ := ok_replaced (P := P) (w := w) (base := base) T.r.c.m
  obtain ⟨fdS, GS, bS, kS⟩ := ok_state (P := P) (w := w) (base := base) T.r.c.m
  obtain ⟨fdC, GC, bC, kC⟩ := ok_record (P := P) (w := w) (base := base) T.r
  obtain ⟨tT, mT⟩ := T.TURN
  refine ⟨fd, F.ok sc_turn (fun vs H Q E h => ?_) (fun cdv A outer s H vs Q E hr h => ?_), F.bindsN fun _ _ _ _ _ _ us hl => match us, hl with | [_, _], _ => rfl, F.kp⟩
  · obtain ⟨H0, p, L, pln, c, v, n, rfl, _⟩ := h
    rfl
  · obtain ⟨H0, p, L, pln, c, v, n, rfl, hi, hv, hbad, hok⟩ := h
    have hr1 : Room 1 _ := hr.mono (by decide)
    have hr2 : Room 2 _ := hr.mono (by decide)
    refine ⟨_, (pss_cons (ps_asg (pe_fld (pv 0) rfl) (pg_tup rfl (pgs_cons (pg_name (i := 2) sc_turn.nd rfl (.inl rfl)) (pgs_cons (pg_name (i := 3) sc_turn.nd rfl (.inl rfl)) (pgs_cons (pg_name (i := 4) sc_turn.nd rfl (.inl rfl)) pgs_nil)))))
      (pss_cons (ps_if (pt_not (pt_val (pe_call GI hr1 rfl T.r.c.m.is_int_in.g kI bI .nil pass0 (pa_cons (pv 1) (pa_cons pe_int (pa_cons (pe_op op_sub (pe_callB call_len_seq (by rfl) T.r.c.m.lo.p.l.len boot_len (pa_cons (pe_fld (pv 2) rfl) pa_nil)) pe_int) pa_nil))))))
        (pss_one (ps_raise rfl (takes_of rfl rfl rfl rfl) (pmk_own PySem.F.excBase_ValueError T.number.q T.number.g T.number.k (raises_own T.number.s T.number.t) rfl))) pss_nil)
      (pss_cons (ps_asg (pe_ix ix_tup (pe_fld (pv 2) rfl) (pv 1) (fun _ _ => rfl)) (pg_tup rfl (pgs_cons (pg_name (i := 5) sc_turn.nd rfl (.inl rfl)) (pgs_cons (pg_name (i := 6) sc_turn.nd rfl (.inl rfl)) (pgs_cons (pg_name (i := 7) sc_turn.nd rfl (.inl rfl)) pgs_nil)))))
      (pss_cons (ps_set (i := 8) sc_turn.nd rfl (.inl rfl) (pe_call GR hr1 rfl T.r.c.m.replaced.g kR bR .nil pass0 (pa_cons (pe_fld (pv 2) rfl) (pa_cons (pv 1) (pa_cons (pe_tup (pa_cons (pv 5) (pa_cons (pe_not (pv 6)) (pa_cons (pv 7) pa_nil)))) pa_nil)))))
      (pss_cons (ps_expr (pe_meth (pv 0) T.r.c.cor.c T.r.record.m GC hr1 bC .nil pass0 (pa_cons (pe_glob (v := .str "turn") rfl mT ⟨_, rfl⟩) (pa_cons (pe_tup (pa_cons (pe_make T.r.c.m.state.m GS hr2 rfl T.r.c.m.state.g bS .nil pass0 (pa_cons (pe_fld (pv 2) rfl) (pa_cons (pv 8) pa_nil))) (pa_cons (pv 3) (pa_cons (pv 4) pa_nil)))) pa_nil))))
      (pss_one (ps_ret (pv 5)))))))), ?_⟩
    have hc := hi.cor
    obtain ⟨sa, su, e1, hst, hsu⟩ := id hc.now
    obtain ⟨ds, fa, ra, ras, q1, q2, q3, q4⟩ := id hst
    have hlr : ras.length = pln.robots.length := by rw [q4.length, hi.wf.now.wf.ro]
    refine ⟨_, rfl, p, _, _, _, _, rfl, hc.ob, T.r.c.cor.c, T.r.c.cor.n _ (by simp), lc_now, L.na, _, rfl, SqT.of e1, rfl, _, _, rfl, _, _, rfl, _, _, rfl, rfl, ?_⟩
    refine ⟨_, rfl, _, rfl, sa, _, ds, _, _, rfl, q1, T.r.c.m.state.c, T.r.c.m.state.n _ (by simp), ls_robots, ra, _, rfl, .inr (SqT.of q3), _, _, rfl, rfl, ?_⟩
    refine ⟨v, n, 0, _, rfl, hv, ?_⟩
    rw [List.length_map, hlr]
    refine ⟨_, rfl, ?_⟩
    cases hb : isIntIn v 0 ((pln.robots.length : Int) - 1) with
    | false => exact hbad hb H (Same.refl H)
    | true =>
      obtain ⟨i, rfl⟩ : ∃ i, v = .int i := by
        cases v <;> first | exact ⟨_, rfl⟩ | cases hb
      have hb' : (decide (0 ≤ i) && decide (i ≤ (pln.robots.length : Int) - 1)) = true := hb
      rw [Bool.and_eq_true, decide_eq_true_eq, decide_eq_true_eq] at hb'
      obtain ⟨kk, rfl⟩ : ∃ kk : Nat, i = kk := ⟨i.toNat, by omega⟩
      have hk : kk < pln.robots.length := by omega
      have hk2 : kk < ras.length := by omega
      obtain ⟨ri, hri, hrob⟩ := Paired_idx q4 (List.getElem?_eq_getElem hk2)
      have hg : c.now.st.robots.getD kk (0, true, 0) = ri := by rw [List.getD_eq_getElem?_getD, hri]; rfl
      have k := hok kk rfl hk
      rw [hg] at k
      have em : turnNow c.now kk = ⟨⟨c.now.st.floor, c.now.st.robots.set kk (turnR ri)⟩, c.now.tick, c.now.sums⟩ := by unfold turnNow; rw [hg]
      rw [em] at k
      refine ⟨_, rfl, sa, _, ds, _, _, rfl, q1, T.r.c.m.state.c, T.r.c.m.state.n _ (by simp), ls_robots, _, rfl, ra, _, _, _, rfl, rfl, SqT.of q3, atI_nat (by rw [List.getElem?_map, List.getElem?_eq_getElem hk2]; rfl), ?_⟩
      refine ⟨ras[kk], _, rfl, SqT.of hrob, rfl, _, _, rfl, _, _, rfl, _, _, rfl, rfl, ?_⟩
      refine ⟨_, rfl, sa, _, ds, _, _, rfl, q1, T.r.c.m.state.c, T.r.c.m.state.n _ (by simp), ls_robots, _, rfl, _, rfl, _, rfl, _, rfl, _, rfl, (by show 3 ≤ sizeLine; decide), fun rb nrb => ?_⟩
      have s1 := sameUpd (o := .tup [.int ri.1, .bl (!ri.2.1), .int ri.2.2]) (Same.refl H) nrb
      have hrb := @upd_same H rb (.tup [.int ri.1, .bl (!ri.2.1), .int ri.2.2])
      have hc1 := hc.same' T.r.c.ap s1
      have hst1 := hst.same s1
      generalize upd H rb (.tup [.int ri.1, .bl (!ri.2.1), .int ri.2.2]) = H1 at *
      refine ⟨ra, kk, .ref rb, ras.map V.ref, rfl, s1 _ _ q3, by rw [List.length_map]; exact hk2, by rw [List.length_map]; have := hi.n2; omega, fun rt H2 s2 hrt => ?_⟩
      have hc2 := hc1.same' T.r.c.ap s2
      have s12 := s1.trans s2
      refine ⟨_, rfl, p, _, _, rfl, hc2.ob, lc_no_record, ?_⟩
      refine ⟨_, rfl, sa, _, ds, _, _, rfl, s12 _ _ q1, T.r.c.m.state.c, T.r.c.m.state.n _ (by simp), ls_floor, _, rfl, ?_⟩
      intro x dx0 nx ndx ne0
      refine init_at (names := ["floor", "robots"]) rfl nx ndx fun H3 s3 hx => ⟨rfl, ?_⟩
      obtain ⟨dxs, hx⟩ := hx
      have hc3 := hc2.same' T.r.c.ap s3
      have hst3 : StateAt K H3 x ⟨c.now.st.floor, c.now.st.robots.set kk (turnR ri)⟩ := by
        refine ⟨dxs, fa, rt, ras.set kk rb, hx, s3 _ _ (s12 _ _ q2), ?_, ?_⟩
        · rw [List.map_set]
          exact s3 _ _ hrt
        · have q4' : Paired (Rob3At H3) ras c.now.st.robots := Paired.mapP q4 fun _ _ q => s3 _ _ (s12 _ _ q)
          have hr3 : Rob3At H3 rb (turnR ri) := s3 _ _ (s2 _ _ hrb)
          exact Paired_set hr3 kk q4'
      refine ⟨_, rfl, _, rfl, (by show 3 ≤ sizeLine; decide), fun nb nnb => ?_⟩
      have s4 := sameUpd (o := .tup [.ref x, .int c.now.tick, .ref su]) (Same.refl H3) nnb
      refine ⟨H0, p, nb, L, pln, c, wTurn, ⟨⟨c.now.st.floor, c.now.st.robots.set kk (turnR ri)⟩, c.now.tick, c.now.sums⟩, rfl, hc3.same' T.r.c.ap s4, ⟨x, su, upd_same, hst3.same s4, s4 _ _ (s3 _ _ (s12 _ _ hsu))⟩, hi.lp, fun L' H' hc' h1 h2 => ?_⟩
      exact ⟨_, rfl, k L' H' hc' h1 h2⟩
end
end Sw

end

section
set_option maxRecDepth 100000
set_option maxHeartbeats 4000000
/-! put -/
namespace Sw
open PySem PySem.Spec PyProof.Rows L2 SwA
theorem first_at {cs : Cs} : ∀ {l : List Cs}, cs ∈ l → ∃ g : Nat, l[g]? = some cs ∧ ∀ j, j < g → l[j]? ≠ some cs
  | a :: l, h => by
    by_cases e : a = cs
    · exact ⟨0, by rw [e]; rfl, fun j hj => absurd hj (Nat.not_lt_zero _)⟩
    · have h2 : cs ∈ l := (List.mem_cons.mp h).resolve_left fun z => e z.symm
      obtain ⟨g, h3, h4⟩ := first_at h2
      refine ⟨g + 1, h3, fun j hj => ?_⟩
      cases j with
      | zero => exact fun z => e (Option.some.inj z)
      | succ j => exact h4 j (by omega)
theorem sx_surj (z : Str) : ∃ cs, z = sx cs := ⟨z.cps.toList, by cases z; simp [sx]⟩
section
variable {P : Program} {w : World} {K : PySem.W.Frag} {mg : Str → Option Value} {base : Heap}
def spPut (K : PySem.W.Frag) : Sp := fun vs H Q E => ∃ (H0 : Hp) (p : Addr) (L : CLoc) (pln : Plan) (c : CSt) (v v2 : V) (n n2 : String), vs = [.ref p, v, v2] ∧ OpIn K H0 H p L pln c ∧ ArN K H v n ∧ ArN K H v2 n2 ∧
  (isIntIn v 0 ((pln.floor.length : Int) - 1) = false → ∀ H', Same H H' → E (.ref (He.ga K "InvalidNumber")) none H') ∧
  (isIntIn v 0 ((pln.floor.length : Int) - 1) = true → (∀ cs ∈ pln.signs, v2 ≠ sV cs) → ∀ H', Same H H' → E (.ref (He.ga K "UnknownSign")) none H') ∧
  (∀ k g : Nat, v = .int k → k < pln.floor.length → ∀ cs, pln.signs[g]? = some cs → v2 = sV cs → (∀ j, j < g → pln.signs[j]? ≠ some cs) → ∀ (L' : CLoc) (H' : Hp), CorAt K H0 H' p L' pln (recordC c wPut (putNow c.now k g)) → L'.own = L.own → L'.sd = L.sd → Q (sV (pln.signs.getD (c.now.st.floor.getD k 0) [])) H')
abbrev puN : List Str := ["self", "tile", "sign", "state", "tick", "sums", "floor"]
theorem sc_put : FnScope puN ["self", "tile", "sign"] (defScope s_Corridor_put) := ⟨rfl, rfl, rfl, by decide +kernel, rfl, by decide +kernel, by decide +kernel⟩
theorem ok_put (T : OpsT K w mg) : FnE P w K mg base (L2.CX P w) 4 ("Corridor", some "put") ["self", "tile", "sign"] (spPut K) := by
  obtain ⟨fd, F⟩ := T.put.d
  obtain ⟨fdI, GI, bI, kI⟩ := ok_is_int_in (P := P) (w := w) (base := base) T.r.c.m
  obtain ⟨fdR, GR, bR, kR⟩ := ok_replaced (P := P) (w := w) (base := base) T.r.c.m
  obtain ⟨fdS, GS, bS, kS⟩ := ok_state (P := P) (w := w) (base := base) T.r.c.m
  obtain ⟨fdC, GC, bC, kC⟩ := ok_record (P := P) (w := w) (base := base) T.r
  obtain ⟨tT, mT⟩ := T.PUT
  refine ⟨fd, F.ok sc_put (fun vs H Q E h => ?_) (fun cdv A outer s H vs Q E hr h => ?_), F.bindsN fun _ _ _ _ _ _ us hl => match us, hl with | [_, _, _], _ => rfl, F.kp⟩
  · obtain ⟨H0, p, L, pln, c, v, v2, n, n2, rfl, _⟩ := h
    rfl
  · obtain ⟨H0, p, L, pln, c, v, v2, n, n2, rfl, hi, hv, hv2, hbad, hbad2, hok⟩ := h
    have hr1 : Room 1 _ := hr.mono (by decide)
    have hr2 : Room 2 _ := hr.mono (by decide)
    refine ⟨_, (pss_cons (ps_asg (pe_fld (pv 0) rfl) (pg_tup rfl (pgs_cons (pg_name (i := 3) sc_put.nd rfl (.inl rfl)) (pgs_cons (pg_name (i := 4) sc_put.nd rfl (.inl rfl)) (pgs_cons (pg_name (i := 5) sc_put.nd rfl (.inl rfl)) pgs_nil)))))
      (pss_cons (ps_if (pt_not (pt_val (pe_call GI hr1 rfl T.r.c.m.is_int_in.g kI bI .nil pass0 (pa_cons (pv 1) (pa_cons pe_int (pa_cons (pe_op op_sub (pe_callB call_len_seq (by rfl) T.r.c.m.lo.p.l.len boot_len (pa_cons (pe_fld (pv 3) rfl) pa_nil)) pe_int) pa_nil))))))
        (pss_one (ps_raise rfl (takes_of rfl rfl rfl rfl) (pmk_own PySem.F.excBase_ValueError T.number.q T.number.g T.number.k (raises_own T.number.s T.number.t) rfl))) pss_nil)
      (pss_cons (ps_if (PW.pt (pw_or (pt_not (pt_val (pe_callB call_isi (by rfl) T.r.c.m.isinstance (by decide +kernel) (pa_cons (pv 2) (pa_cons (pe_bltn (v := .ty "str") (by rfl) T.r.c.str (by decide +kernel) rfl) pa_nil)))))
          (pw_or1 (pt_cmpR op_notIn_seq (pv 2) (pe_fld (pe_fld (pv 0) rfl) rfl) rfl))))
        (pss_one (ps_raise rfl (takes_of rfl rfl rfl rfl) (pmk_own PySem.F.excBase_ValueError T.sign.q T.sign.g T.sign.k (raises_own T.sign.s T.sign.t) rfl))) pss_nil)
      (pss_cons (ps_set (i := 6) sc_put.nd rfl (.inl rfl) (pe_call GR hr1 rfl T.r.c.m.replaced.g kR bR .nil pass0 (pa_cons (pe_fld (pv 3) rfl) (pa_cons (pv 1) (pa_cons (pe_bmN PySem.F.slot_tuple_index PySem.F.type_tuple_index mt_tup_index (pe_fld (pe_fld (pv 0) rfl) rfl) (pa_cons (pv 2) pa_nil)) pa_nil)))))
      (pss_cons (ps_expr (pe_meth (pv 0) T.r.c.cor.c T.r.record.m GC hr1 bC .nil pass0 (pa_cons (pe_glob (v := .str "put") rfl mT ⟨_, rfl⟩) (pa_cons (pe_tup (pa_cons (pe_make T.r.c.m.state.m GS hr2 rfl T.r.c.m.state.g bS .nil pass0 (pa_cons (pv 6) (pa_cons (pe_fld (pv 3) rfl) pa_nil))) (pa_cons (pv 4) (pa_cons (pv 5) pa_nil)))) pa_nil))))
      (pss_one (ps_ret (pe_ix ix_tup (pe_fld (pe_fld (pv 0) rfl) rfl) (pe_ix ix_tup (pe_fld (pv 3) rfl) (pv 1) (fun _ _ => rfl)) (fun _ _ => rfl))))))))), ?_⟩
    have hc := hi.cor
    obtain ⟨sa, su, e1, hst, hsu⟩ := id hc.now
    obtain ⟨ds, fa, ra, ras, q1, q2, q3, q4⟩ := id hst
    have hlf : c.now.st.floor.length = pln.floor.length := hi.wf.now.wf.fl
    refine ⟨_, rfl, p, _, _, _, _, rfl, hc.ob, T.r.c.cor.c, T.r.c.cor.n _ (by simp), lc_now, L.na, _, rfl, SqT.of e1, rfl, _, _, rfl, _, _, rfl, _, _, rfl, rfl, ?_⟩
    refine ⟨_, rfl, _, rfl, sa, _, ds, _, _, rfl, q1, T.r.c.m.state.c, T.r.c.m.state.n _ (by simp), ls_floor, fa, _, rfl, .inr (SqT.of q2), _, _, rfl, rfl, ?_⟩
    refine ⟨v, n, 0, _, rfl, hv, ?_⟩
    rw [List.length_map, hlf]
    refine ⟨_, rfl, ?_⟩
    cases hb : isIntIn v 0 ((pln.floor.length : Int) - 1) with
    | false => exact hbad hb H (Same.refl H)
    | true =>
      have hbad3 := hbad2 hb
      obtain ⟨i, rfl⟩ : ∃ i, v = .int i := by
        cases v <;> first | exact ⟨_, rfl⟩ | cases hb
      have hb' : (decide (0 ≤ i) && decide (i ≤ (pln.floor.length : Int) - 1)) = true := hb
      rw [Bool.and_eq_true, decide_eq_true_eq, decide_eq_true_eq] at hb'
      obtain ⟨kk, rfl⟩ : ∃ kk : Nat, i = kk := ⟨i.toNat, by omega⟩
      have hk : kk < pln.floor.length := by omega
      have isBad : ∀ m : String, n2 = m → m ≠ "str" → ∀ cs ∈ pln.signs, v2 ≠ sV cs := fun m hm hne cs _ z => by
        subst z
        cases hv2
        exact hne hm.symm
      cases hv2 with
      | int i => exact ⟨_, rfl, _, _, _, _, false, rfl, .ty "str", (ArN.int (K := K) i).ty, kit_ty (by decide +kernel), _, rfl, hbad3 (isBad _ rfl (by decide)) H (Same.refl H)⟩
      | bl b => exact ⟨_, rfl, _, _, _, _, false, rfl, .ty "str", (ArN.bl (K := K) b).ty, kit_ty (by decide +kernel), _, rfl, hbad3 (isBad _ rfl (by decide)) H (Same.refl H)⟩
      | non => exact ⟨_, rfl, _, _, _, _, false, rfl, .ty "str", (ArN.non (K := K)).ty, kit_ty (by decide +kernel), _, rfl, hbad3 (isBad _ rfl (by decide)) H (Same.refl H)⟩
      | tup e => exact ⟨_, rfl, _, _, _, _, false, rfl, .ty "str", (ArN.tup (K := K) e).ty, kit_ty (by decide +kernel), _, rfl, hbad3 (isBad _ rfl (by decide)) H (Same.refl H)⟩
      | lst e => exact ⟨_, rfl, _, _, _, _, false, rfl, .ty "str", (ArN.lst (K := K) e).ty, kit_ty (by decide +kernel), _, rfl, hbad3 (isBad _ rfl (by decide)) H (Same.refl H)⟩
      | str z =>
        obtain ⟨cs, rfl⟩ := sx_surj z
        refine ⟨_, rfl, _, _, _, _, true, rfl, .ty "str", (ArN.str (K := K) _).ty, kit_ty (by decide +kernel), _, rfl, ?_⟩
        obtain ⟨dp, sga, mda, fla, rba, rda, ras2, g1, g2, g3, g4, g5⟩ := id hc.plan
        refine ⟨_, rfl, _, rfl, p, _, _, _, _, rfl, hc.ob, T.r.c.cor.c, T.r.c.cor.n _ (by simp), lc_parsed, L.pa, _, dp, _, _, rfl, g1, T.r.c.m.lo.plan.c, T.r.c.m.lo.plan.n _ (by simp), lpl_signs, sga, _, rfl, .inr g2.sq, rfl, flat_sx pln.signs, ?_⟩
        rw [inV_sx]
        refine ⟨_, rfl, ?_⟩
        by_cases hm : cs ∈ pln.signs
        · rw [decide_eq_true hm]
          obtain ⟨g, hg, hno⟩ := first_at hm
          have k := hok kk g rfl hk cs hg rfl hno
          have hgl : g < pln.signs.length := (List.getElem?_eq_some_iff.mp hg).1
          refine ⟨_, rfl, sa, _, ds, _, _, rfl, q1, T.r.c.m.state.c, T.r.c.m.state.n _ (by simp), ls_floor, _, rfl, ?_⟩
          refine ⟨_, rfl, p, _, _, _, _, rfl, hc.ob, T.r.c.cor.c, T.r.c.cor.n _ (by simp), lc_parsed, L.pa, _, dp, _, _, rfl, g1, T.r.c.m.lo.plan.c, T.r.c.m.lo.plan.n _ (by simp), lpl_signs, ⟨sga, _, rfl, g2⟩, _, rfl, sga, pln.signs.map sx, sx cs, g, rfl, rfl, ?_, ?_, ?_, ?_⟩
          · rw [List.map_map]
            exact g2.sq
          · rw [List.getElem?_map, hg]
            rfl
          · intro m hm1 z
            rw [List.getElem?_map] at z
            cases hq : pln.signs[m]? with
            | none => rw [hq] at z; cases z
            | some cs2 =>
              rw [hq] at z
              have : cs2 = cs := sx_inj (Option.some.inj z)
              exact hno m hm1 (by rw [hq, this])
          refine ⟨fa, kk, .int g, c.now.st.floor.map iV, rfl, q2, by rw [List.length_map]; omega, by rw [List.length_map]; have := hi.n1; omega, fun ft H2 s2 hft => ?_⟩
          have hc2 := hc.same' T.r.c.ap s2
          refine ⟨_, rfl, p, _, _, rfl, hc2.ob, lc_no_record, ?_⟩
          refine ⟨_, rfl, _, rfl, sa, _, ds, _, _, rfl, s2 _ _ q1, T.r.c.m.state.c, T.r.c.m.state.n _ (by simp), ls_robots, ?_⟩
          intro x dx0 nx ndx ne0
          refine init_at (names := ["floor", "robots"]) rfl nx ndx fun H3 s3 hx => ⟨rfl, ?_⟩
          obtain ⟨dxs, hx⟩ := hx
          have hc3 := hc2.same' T.r.c.ap s3
          have hst3 : StateAt K H3 x ⟨c.now.st.floor.set kk g, c.now.st.robots⟩ := by
            refine ⟨dxs, ft, ra, ras, hx, ?_, s3 _ _ (s2 _ _ q3), Paired.mapP q4 fun _ _ q => s3 _ _ (s2 _ _ q)⟩
            rw [List.map_set]
            exact s3 _ _ hft
          refine ⟨_, rfl, _, rfl, (by show 3 ≤ sizeLine; decide), fun nb nnb => ?_⟩
          have s4 := sameUpd (o := .tup [.ref x, .int c.now.tick, .ref su]) (Same.refl H3) nnb
          have hst4 := hst.same ((s2.trans s3).trans s4)
          have hc4 := hc3.same' T.r.c.ap s4
          have hsu4 := s4 _ _ (s3 _ _ (s2 _ _ hsu))
          have hst5 := hst3.same s4
          have hnb : NowAt K (upd H3 nb (.tup [.ref x, .int c.now.tick, .ref su])) nb (putNow c.now kk g) := ⟨x, su, upd_same, hst5, hsu4⟩
          generalize upd H3 nb (.tup [.ref x, .int c.now.tick, .ref su]) = H4 at *
          refine ⟨cutH H4 (L.all p), p, nb, L, pln, c, wPut, _, rfl, hc4.refit, hnb, hi.lp, fun L' H' hc' h1 h2 => ?_⟩
          have fz := hc4.fzOf hc'.same
          obtain ⟨ds5, fa5, ra5, ras5, z1, z2, z3, z4⟩ := hst4.fz T.r.c.ap fz
          obtain ⟨dp2, sga2, mda2, fla2, rba2, rda2, ras3, w1, w2, w3, w4, w5⟩ := id hc'.plan
          have hk3 : kk < c.now.st.floor.length := by omega
          have hfl : c.now.st.floor[kk] < pln.signs.length := hi.wf.now.si _ (List.getElem_mem hk3)
          have eg : c.now.st.floor.getD kk 0 = c.now.st.floor[kk] := by simp [List.getD_eq_getElem?_getD, List.getElem?_eq_getElem hk3]
          have eg2 : pln.signs.getD (c.now.st.floor[kk]) [] = pln.signs[c.now.st.floor[kk]] := by simp [List.getD_eq_getElem?_getD, List.getElem?_eq_getElem hfl]
          have kf := k L' H' (hc'.mono hc4.cut) h1 h2
          rw [eg, eg2] at kf
          refine ⟨_, rfl, p, _, _, _, _, rfl, hc'.ob, T.r.c.cor.c, T.r.c.cor.n _ (by simp), lc_parsed, L'.pa, _, dp2, _, _, rfl, w1, T.r.c.m.lo.plan.c, T.r.c.m.lo.plan.n _ (by simp), lpl_signs, ?_⟩
          refine ⟨_, rfl, sa, _, ds5, _, _, rfl, z1, T.r.c.m.state.c, T.r.c.m.state.n _ (by simp), ls_floor, _, rfl, fa5, _, _, _, rfl, rfl, SqT.of z2, atI_nat (by rw [List.getElem?_map, List.getElem?_eq_getElem hk3]; rfl), ?_⟩
          refine ⟨sga2, _, _, _, rfl, rfl, w2.sq, atI_nat (by rw [List.getElem?_map, List.getElem?_eq_getElem hfl]; rfl), kf⟩
        · rw [decide_eq_false hm]
          exact hbad3 (fun cs2 h2 z => hm (sx_inj (V.str.inj z) ▸ h2)) H (Same.refl H)
end
end Sw

end

section
set_option maxRecDepth 100000
set_option maxHeartbeats 4000000
/-! step -/
namespace Sw
open PySem PySem.Spec PyProof.Rows L2 SwA
theorem CorAt.has {K : PySem.W.Frag} {H0 H : Hp} {p : Addr} {L : CLoc} {pln : Plan} {c : CSt} (h : CorAt K H0 H p L pln c) {a : Addr} (ha : a ∈ L.all p) : ∃ o, H a = some o := by
  rcases List.mem_cons.mp ha with z | z
  · exact ⟨_, z ▸ h.ob⟩
  rcases List.mem_cons.mp z with z | z
  · obtain ⟨ps, q, _⟩ := h.past
    exact ⟨_, z ▸ q⟩
  rcases List.mem_cons.mp z with z | z
  · obtain ⟨ps, q, _⟩ := h.und
    exact ⟨_, z ▸ q⟩
  rcases List.mem_cons.mp z with z | z
  · obtain ⟨ps, q, _⟩ := h.sav
    exact ⟨_, z ▸ q⟩
  · exact (let ⟨xs, q⟩ := h.ow a z; ⟨_, q⟩)
theorem CorAt.fresh {K : PySem.W.Frag} {H0 H : Hp} {p : Addr} {L : CLoc} {pln : Plan} {c : CSt} (h : CorAt K H0 H p L pln c) {a : Addr} (ha : H a = none) : a ∉ L.all p := fun z => by
  obtain ⟨o, q⟩ := h.has z
  rw [ha] at q
  cases q
/-- a thing that is none of the corridor's is changed -/
theorem CorAt.beside {K : PySem.W.Frag} (A : ApK K) {H0 H : Hp} {p : Addr} {L : CLoc} {pln : Plan} {c : CSt} (h : CorAt K H0 H p L pln c) {x : Addr} {o o' : HO} (hx : H x = some o) (nf : ¬ Fixed K o) (h0 : H0 x = none) (hn : x ∉ L.all p) : CorAt K H0 (upd H x o') p L pln c :=
  h.keep A (Fz.put (Fz.refl _) hx nf) (sameUpd h.same h0) fun a ha => upd_ne fun z => hn (z ▸ ha)
theorem Paired_memL {α β : Type} {F : α → β → Prop} : ∀ {l : List α} {m : List β} {a : α}, Paired F l m → a ∈ l → ∃ b, b ∈ m ∧ F a b
  | _, _, _, .nil, h => by cases h
  | _, _, a, .cons h t, ha => by
    rcases List.mem_cons.mp ha with z | z
    · exact ⟨_, List.mem_cons_self, z ▸ h⟩
    · obtain ⟨b, h1, h2⟩ := Paired_memL t z
      exact ⟨b, List.mem_cons_of_mem _ h1, h2⟩
theorem Paired_memMap {α β : Type} {F G : α → β → Prop} : ∀ {l : List α} {m : List β}, Paired F l m → (∀ a b, a ∈ l → F a b → G a b) → Paired G l m
  | _, _, .nil, _ => .nil
  | _, _, .cons h t, k => .cons (k _ _ List.mem_cons_self h) (Paired_memMap t fun a b ha q => k a b (List.mem_cons_of_mem _ ha) q)
theorem addSums_take (sums swept : List Nat) (i : Nat) : ((List.range (i + 1)).map fun j => sums.getD j 0 + swept.count j) = ((List.range i).map fun j => sums.getD j 0 + swept.count j) ++ [sums.getD i 0 + swept.count i] := by
  rw [List.range_succ, List.map_append]
  rfl
theorem count_iV (l : List Nat) (k : Nat) : (l.map fun n : Nat => (n : Int)).count (k : Int) = l.count k := by
  induction l with
  | nil => rfl
  | cons a l ih =>
    rw [List.map_cons, List.count_cons, List.count_cons, ih]
    congr 1
    by_cases h : a = k
    · simp [h]
    · have : ¬ (a : Int) = (k : Int) := by omega
      simp [h, this]
def LsAt (H : Hp) (a : Addr) (l : List Nat) : Prop := H a = some (.lst (l.map iV))
section
variable {P : Program} {w : World} {K : PySem.W.Frag} {mg : Str → Option Value} {base : Heap}
def spStep (K : PySem.W.Frag) : Sp := fun vs H Q E => ∃ (H0 : Hp) (p : Addr) (L : CLoc) (pln : Plan) (c : CSt) (v : V) (n : String), vs = [.ref p, v] ∧ OpIn K H0 H p L pln c ∧ ArN K H v n ∧
  (isIntIn v 0 500 = false → ∀ H', Same H H' → E (.ref (He.ga K "InvalidNumber")) none H') ∧
  (∀ k : Nat, v = .int k → k ≤ 500 → ∀ (L' : CLoc) (H' : Hp) (f : Addr) (fs : List Addr), CorAt K H0 H' p L' pln (recordC c wStep (stepNow pln.rules c.now k)) → L'.own = L.own → L'.sd = L.sd → H0 f = none → f ∉ L'.all p →
    (∀ a ∈ fs, a ∉ L'.all p ∧ H0 a = none) → f ∉ fs → H' f = some (.lst (fs.map V.ref)) → Paired (LsAt H') fs (stepsM pln.rules c.now.st c.now.sums k).1 → Q (.ref f) H')
abbrev stN : List Str := ["self", "count", "state", "tick", "sums", "found", "turn", "one", "tile", "number"]
theorem sc_step : FnScope stN ["self", "count"] (defScope s_Corridor_step) := ⟨rfl, rfl, rfl, by decide +kernel, rfl, by decide +kernel, by decide +kernel⟩
theorem ok_step (T : OpsT K w mg) : FnE P w K mg base (L2.CX P w) 6 ("Corridor", some "step") ["self", "count"] (spStep K) := by
  obtain ⟨fd, F⟩ := T.step.d
  obtain ⟨fdI, GI, bI, kI⟩ := ok_is_int_in (P := P) (w := w) (base := base) T.r.c.m
  obtain ⟨fdN, GN, bN, kN⟩ := ok_next_tick (P := P) (w := w) (base := base) T.r.c.m
  obtain ⟨fdC, GC, bC, kC⟩ := ok_record (P := P) (w := w) (base := base) T.r
  obtain ⟨tT, mT⟩ := T.STEP
  obtain ⟨tM, mM⟩ := T.MAX_STEP
  refine ⟨fd, F.ok sc_step (fun vs H Q E h => ?_) (fun cdv A outer s H vs Q E hr h => ?_), F.bindsN fun _ _ _ _ _ _ us hl => match us, hl with | [_, _], _ => rfl, F.kp⟩
  · obtain ⟨H0, p, L, pln, c, v, n, rfl, _⟩ := h
    rfl
  · obtain ⟨H0, p, L, pln, c, v, n, rfl, hi, hv, hbad, hok⟩ := h
    have hr1 : Room 1 _ := hr.mono (by decide)
    have hr4 : Room 4 _ := hr.mono (by decide)
    refine ⟨_, (pss_cons (ps_if (pt_not (pt_val (pe_call GI hr1 rfl T.r.c.m.is_int_in.g kI bI .nil pass0 (pa_cons (pv 1) (pa_cons pe_int (pa_cons (pe_glob (v := .int 500) rfl mM ⟨_, rfl⟩) pa_nil))))))
        (pss_one (ps_raise rfl (takes_of rfl rfl rfl rfl) (pmk_own PySem.F.excBase_ValueError T.number.q T.number.g T.number.k (raises_own T.number.s T.number.t) rfl))) pss_nil)
      (pss_cons (ps_asg (pe_fld (pv 0) rfl) (pg_tup rfl (pgs_cons (pg_name (i := 2) sc_step.nd rfl (.inl rfl)) (pgs_cons (pg_name (i := 3) sc_step.nd rfl (.inl rfl)) (pgs_cons (pg_name (i := 4) sc_step.nd rfl (.inl rfl)) pgs_nil)))))
      (pss_cons (ps_set (i := 5) sc_step.nd rfl (.inl rfl) (pe_lst pa_nil))
      (pss_cons (ps_for (passes_of rfl) rfl (pi_range1 (by rfl) T.r.c.m.lo.p.range (pa_cons (pv 1) pa_nil)) (pg_name (i := 6) sc_step.nd rfl (.inl rfl))
        (pss_cons (ps_set (i := 7) sc_step.nd rfl (.inr rfl) (pe_call GN hr4 rfl T.r.c.m.next_tick.g kN bN .nil pass0 (pa_cons (pe_fld (pv 0) rfl) (pa_cons (pv 2) pa_nil))))
        (pss_cons (ps_set (i := 2) sc_step.nd rfl (.inl rfl) (pe_fld (pv 7) rfl))
        (pss_cons (ps_set (i := 4) sc_step.nd rfl (.inl rfl) (pe_callTy call_tuple_of (by rfl) T.r.c.m.lo.p.tuple (by decide +kernel) (pa_cons
          (pe_lc (own := [("tile", 8), ("number", 9)]) (g := gTup K 2 (gCons (gName 8) (gCons (gName 9) gNil))) (tt := tYes) (te := tOp (rI0 fun i j => .int (i + j)) (tVar 9) (tBMN (rCntT K) (tFld K (tVar 7) "swept") (tCons (tVar 8) tNil))) rfl sc_step.nd (pi_enumT (by rfl) T.enumerate (pa_cons (pv 4) pa_nil))
            (blkOk_by (own := [("tile", 8), ("number", 9)]) (N := stN) (sc := defScope s_Corridor_step) (by decide +kernel)) (fun _ _ _ _ _ => pg_tup rfl (pgs_cons (pg_name (i := 8) sc_step.nd rfl (Or.inl rfl)) (pgs_cons (pg_name (i := 9) sc_step.nd rfl (Or.inl rfl)) pgs_nil))) (fun _ _ _ _ _ => pts_nil)
            (fun _ _ _ _ _ => pe_op op_add (pv 9) (pe_bmN PySem.F.slot_tuple_count PySem.F.type_tuple_count mt_tcount (pe_fld (pv 7) rfl) (pa_cons (pv 8) pa_nil)))) pa_nil)))
        (pss_one (ps_expr (pe_bm PySem.F.plainAttrs_list PySem.F.slot_list_append PySem.F.type_list_append mt_append (pv 5) (pa_cons (pe_callTy call_list_of (by rfl) T.r.c.list (by decide +kernel) (pa_cons (pe_fld (pv 7) rfl) pa_nil)) pa_nil))))))))
      (pss_cons (ps_expr (pe_meth (pv 0) T.r.c.cor.c T.r.record.m GC hr1 bC .nil pass0 (pa_cons (pe_glob (v := .str "step") rfl mT ⟨_, rfl⟩) (pa_cons (pe_tup (pa_cons (pv 2) (pa_cons (pe_op op_add (pv 3) (pv 1)) (pa_cons (pv 4) pa_nil)))) pa_nil))))
      (pss_one (ps_ret (pv 5)))))))), ?_⟩
    have hc := hi.cor
    refine ⟨_, rfl, v, n, 0, 500, rfl, hv, ?_⟩
    refine ⟨_, rfl, ?_⟩
    cases hb : isIntIn v 0 500 with
    | false => exact hbad hb H (Same.refl H)
    | true =>
      obtain ⟨i, rfl⟩ : ∃ i, v = .int i := by
        cases v <;> first | exact ⟨_, rfl⟩ | cases hb
      have hb' : (decide (0 ≤ i) && decide (i ≤ 500)) = true := hb
      rw [Bool.and_eq_true, decide_eq_true_eq, decide_eq_true_eq] at hb'
      obtain ⟨kk, rfl⟩ : ∃ kk : Nat, i = kk := ⟨i.toNat, by omega⟩
      have k := hok kk rfl (by omega)
      obtain ⟨sa, su, e1, hst, hsu⟩ := id hc.now
      refine ⟨_, rfl, p, _, _, _, _, rfl, hc.ob, T.r.c.cor.c, T.r.c.cor.n _ (by simp), lc_now, L.na, _, rfl, SqT.of e1, rfl, _, _, rfl, _, _, rfl, _, _, rfl, rfl, ?_⟩
      refine ⟨(by show 0 ≤ sizeLine; decide), fun fl nfl => ?_⟩
      have s1 := sameUpd (o := .lst []) (Same.refl H) nfl
      have hfl := @upd_same H fl (.lst [])
      have hc1 := hc.same' T.r.c.ap s1
      have nfl0 : H0 fl = none := hc.same.free nfl
      have nfA : fl ∉ L.all p := hc.fresh nfl
      have hst1 := hst.same s1
      have hsu1 := s1 _ _ hsu
      generalize upd H fl (.lst []) = H1 at *
      refine ⟨_, rfl, _, rfl, by omega, by omega, ?_⟩
      rw [Int.toNat_natCast]
      have wfs := steps_wf hi.ru hi.wf.now.wf hi.wf.now.si hi.wf.now.su
      refine for_range (lo := 0) (n := kk) (fun i σ H5 => ∃ (sb su : Addr) (o6 o7 : Option V) (fs : List Addr), σ = [some (.ref p), some (.int kk), some (.ref sb), some (.int c.now.tick), some (.ref su), some (.ref fl), o6, o7, none, none] ∧ CorAt K H0 H5 p L pln c ∧
        StateAt K H5 sb (stepsM pln.rules c.now.st c.now.sums i).2.1 ∧ H5 su = some (.tup ((stepsM pln.rules c.now.st c.now.sums i).2.2.map iV)) ∧ H5 fl = some (.lst (fs.map V.ref)) ∧ Paired (LsAt H5) fs (stepsM pln.rules c.now.st c.now.sums i).1 ∧
        (∀ a ∈ fs, a ∉ L.all p ∧ H0 a = none) ∧ fl ∉ fs) ⟨sa, su, none, none, [], rfl, hc1, hst1, hsu1, hfl, .nil, by simp, by simp⟩ ?_ ?_
      · rintro i σ H5 hii ⟨sb, su5, o6, o7, fs, rfl, hc5, hst5, hsu5, hfl5, hfs5, hfa, hfn⟩
        obtain ⟨wf1, wf2, wf3⟩ := wfs i
        refine ⟨_, rfl, p, _, _, _, _, rfl, hc5.ob, T.r.c.cor.c, T.r.c.cor.n _ (by simp), lc_parsed, _, rfl, L.pa, sb, _, _, pln, _, rfl, hc5.plan, hst5, wf1, hi.n1, hi.n2, fun on H6 s6 hon => ?_⟩
        obtain ⟨dt, sw, wo, sc, t1, t2, t3, t4⟩ := id hon
        have hc6 := hc5.same' T.r.c.ap s6
        refine ⟨_, rfl, on, _, dt, _, _, rfl, t1, T.r.c.m.tick.c, T.r.c.m.tick.n _ (by simp), lt_state, ?_⟩
        refine ⟨_, rfl, su5, _, rfl, SqT.of (s6 _ _ hsu5), fun D nD => ?_⟩
        have hl5 : ((stepsM pln.rules c.now.st c.now.sums i).2.2.map iV).length = pln.floor.length := by rw [List.length_map, wf3]
        refine lc_it (walk_enumT (K := K) (a := su5) (xs := (stepsM pln.rules c.now.st c.now.sums i).2.2.map iV)) (vs := [8, 9]) (fun j H7 => H7 D = some (.lst (((List.range j).map fun j => (stepsM pln.rules c.now.st c.now.sums i).2.2.getD j 0 + (nextM pln.rules (stepsM pln.rules c.now.st c.now.sums i).2.1).swept.count j).map iV)) ∧ Same H6 H7)
          ⟨upd_same, sameUpd (Same.refl H6) nD⟩ (fun j H7 _ ⟨_, sm⟩ => SqT.of (sm _ _ (s6 _ _ hsu5))) ?_ ?_
        · rintro j x H7 H8 hj ⟨hD, sm⟩ ⟨T0, x0, y0, rfl, nT0, rfl, hx0, hy0⟩
          cases hx0
          replace hy0 : ((stepsM pln.rules c.now.st c.now.sums i).2.2.map iV)[j]? = some y0 := hy0
          rw [List.getElem?_map] at hy0
          have hj2 : j < (stepsM pln.rules c.now.st c.now.sums i).2.2.length := by rw [← List.length_map (f := iV)]; exact hj
          rw [List.getElem?_eq_getElem hj2] at hy0
          cases hy0
          have s8 := sameUpd (o := .tup [.int (j : Nat), iV (stepsM pln.rules c.now.st c.now.sums i).2.2[j]]) (Same.refl H7) nT0
          have sm8 := sm.trans s8
          have hD8 := s8 _ _ hD
          refine ⟨T0, _, rfl, SqT.of upd_same, rfl, _, _, rfl, _, _, rfl, rfl, rfl, ?_⟩
          generalize upd H7 T0 (.tup [.int (j : Nat), iV (stepsM pln.rules c.now.st c.now.sums i).2.2[j]]) = H8 at *
          refine ⟨_, rfl, _, rfl, on, _, dt, _, _, rfl, sm8 _ _ t1, T.r.c.m.tick.c, T.r.c.m.tick.n _ (by simp), lt_swept, ⟨sw, _, rfl, t2.mono fun _ z => sm8 _ _ z⟩, _, rfl, ?_⟩
          refine ⟨sw, (nextM pln.rules (stepsM pln.rules c.now.st c.now.sums i).2.1).swept.map (fun n : Nat => (n : Int)), (j : Nat), rfl, rfl, ?_, ?_⟩
          · rw [List.map_map]
            exact (t2.mono fun _ z => sm8 _ _ z).sq
          · refine ⟨_, _, rfl, rfl, _, hD8, ?_, ?_, sameUpd sm8 nD⟩
            · rw [List.length_map, List.length_map, List.length_range, sizeLine_eq]
              have := hi.n1
              omega
            · rw [upd_same, addSums_take, List.map_append, count_iV]
              have eg : (stepsM pln.rules c.now.st c.now.sums i).2.2.getD j 0 = (stepsM pln.rules c.now.st c.now.sums i).2.2[j] := by simp [List.getD_eq_getElem?_getD, List.getElem?_eq_getElem hj2]
              rw [eg]
              rfl
        · rintro H7 ⟨hD, sm⟩
          have eS : ((List.range ((stepsM pln.rules c.now.st c.now.sums i).2.2.map iV).length).map fun j => (stepsM pln.rules c.now.st c.now.sums i).2.2.getD j 0 + (nextM pln.rules (stepsM pln.rules c.now.st c.now.sums i).2.1).swept.count j) = (stepsM pln.rules c.now.st c.now.sums (i + 1)).2.2 := by
            rw [List.length_map]
            rfl
          rw [eS] at hD
          refine ⟨D, _, rfl, .inl ⟨SqL.of hD, fun st nst => ?_⟩⟩
          have s8 := sameUpd (o := .tup ((stepsM pln.rules c.now.st c.now.sums (i + 1)).2.2.map iV)) (Same.refl H7) nst
          have hst8 := @upd_same H7 st (.tup ((stepsM pln.rules c.now.st c.now.sums (i + 1)).2.2.map iV))
          have sm8 := sm.trans s8
          generalize upd H7 st (.tup ((stepsM pln.rules c.now.st c.now.sums (i + 1)).2.2.map iV)) = H8 at *
          have hc8 := hc6.same' T.r.c.ap sm8
          have hfl8 := sm8 _ _ (s6 _ _ hfl5)
          refine ⟨_, rfl, .inl ⟨rfl, _, SqL.of hfl8⟩, _, rfl, on, _, dt, _, _, rfl, sm8 _ _ t1, T.r.c.m.tick.c, T.r.c.m.tick.n _ (by simp), lt_swept, sw, _, rfl, .inr (t2.mono fun _ z => sm8 _ _ z).sq, fun la nla => ?_⟩
          have s9 := sameUpd (o := .lst ((nextM pln.rules (stepsM pln.rules c.now.st c.now.sums i).2.1).swept.map iV)) (Same.refl H8) nla
          have hla := @upd_same H8 la (.lst ((nextM pln.rules (stepsM pln.rules c.now.st c.now.sums i).2.1).swept.map iV))
          have hc9 := hc8.same' T.r.c.ap s9
          have laA := hc8.fresh nla
          have la0 := hc8.same.free nla
          have hfl9 := s9 _ _ hfl8
          have lafl : la ≠ fl := fun z => by rw [z, hfl8] at nla; cases nla
          have lafs : la ∉ fs := fun z => by
            obtain ⟨l, hl, hal⟩ := Paired_memL hfs5 z
            have := sm8 _ _ (s6 _ _ hal)
            rw [nla] at this
            cases this
          have st9 := s6.trans (sm8.trans s9)
          generalize upd H8 la (.lst ((nextM pln.rules (stepsM pln.rules c.now.st c.now.sums i).2.1).swept.map iV)) = H9 at *
          refine ⟨fl, _, _, rfl, rfl, hfl9, ?_, ?_⟩
          · rw [List.length_map, hfs5.length, steps_len, sizeLine_eq]
            omega
          have f9 : Fz K H9 (upd H9 fl (.lst (fs.map V.ref ++ [.ref la]))) := Fz.put (Fz.refl _) hfl9 (fun q => q)
          have fzA := (Fz.same (sm8.trans s9)).trans f9
          refine ⟨sc, st, _, _, fs ++ [la], rfl, hc9.beside T.r.c.ap hfl9 (fun q => q) nfl0 nfA, t4.fz T.r.c.ap fzA, f9 _ _ (s9 _ _ hst8) trivial, ?_, ?_, ?_, ?_⟩
          · rw [upd_same, List.map_append]
            rfl
          · refine Paired_snoc (Paired_memMap hfs5 fun a l ha q => ?_) ?_
            · have naf : a ≠ fl := fun z => hfn (z ▸ ha)
              show (upd H9 fl _) a = _
              rw [upd_ne naf]
              exact st9 _ _ q
            · show (upd H9 fl _) la = _
              rw [upd_ne lafl]
              exact hla
          · intro a ha
            rcases List.mem_append.mp ha with z | z
            · exact hfa a z
            · rw [List.mem_singleton.mp z]
              exact ⟨laA, la0⟩
          · intro z
            rcases List.mem_append.mp z with z | z
            · exact hfn z
            · exact lafl (List.mem_singleton.mp z).symm
      · rintro σ H5 ⟨sb, su5, o6, o7, fs, rfl, hc5, hst5, hsu5, hfl5, hfs5, hfa, hfn⟩
        refine ⟨_, rfl, p, _, _, rfl, hc5.ob, lc_no_record, ?_⟩
        refine ⟨_, rfl, _, rfl, _, rfl, _, _, rfl, rfl, _, rfl, (by show 3 ≤ sizeLine; decide), fun nb nnb => ?_⟩
        have s6 := sameUpd (o := .tup [.ref sb, .int ((c.now.tick : Int) + (kk : Int)), .ref su5]) (Same.refl H5) nnb
        have hc6 := hc5.same' T.r.c.ap s6
        have hnb : NowAt K (upd H5 nb (.tup [.ref sb, .int ((c.now.tick : Int) + (kk : Int)), .ref su5])) nb (stepNow pln.rules c.now kk) := ⟨sb, su5, upd_same, hst5.same s6, s6 _ _ hsu5⟩
        have hfl6 := s6 _ _ hfl5
        have hfs6 : Paired (LsAt _) fs _ := Paired.mapP hfs5 fun _ _ q => s6 _ _ q
        generalize upd H5 nb (.tup [.ref sb, .int ((c.now.tick : Int) + (kk : Int)), .ref su5]) = H6 at *
        refine ⟨cutH H6 (L.all p), p, nb, L, pln, c, wStep, _, rfl, hc6.refit, hnb, hi.lp, fun L' H' hc' h1 h2 => ?_⟩
        have keep : ∀ a o, a ∉ L.all p → H6 a = some o → H' a = some o ∧ a ∉ L'.all p := fun a o ha ho => by
          have e : cutH H6 (L.all p) a = some o := (cutH_out ha).trans ho
          refine ⟨hc'.same _ _ e, fun z => ?_⟩
          rw [hc'.new a z] at e
          cases e
        have kf := keep fl _ nfA hfl6
        refine ⟨_, rfl, k L' H' fl fs (hc'.mono hc6.cut) h1 h2 nfl0 kf.2 (fun a ha => ?_) hfn kf.1 ?_⟩
        · obtain ⟨l, hl, hal⟩ := Paired_memL hfs6 ha
          exact ⟨(keep a _ (hfa a ha).1 hal).2, (hfa a ha).2⟩
        · exact Paired_memMap hfs6 fun a l ha q => (keep a _ (hfa a ha).1 q).1
end
end Sw

end

section
set_option maxRecDepth 100000
set_option maxHeartbeats 4000000
/-! execute -/
namespace Sw
open PySem PySem.Spec PyProof.Rows L2 SwA
inductive Op
  | step (v : V)
  | put (v v2 : V)
  | turn (v : V)
  | undo
  | redo
inductive OpErr
  | number
  | sign
def natV : V → Nat
  | .int i => i.toNat
  | _ => 0
/-- the sign that is named -/
def signIx (signs : List Cs) (v : V) : Option Nat := match v with
  | .str z => (List.range signs.length).find? fun g => decide (signs.getD g [] = z.cps.toList)
  | _ => none
def execM (pln : Plan) (c : CSt) : Op → OpErr ⊕ CSt
  | .step v => if isIntIn v 0 500 = true then .inr (recordC c wStep (stepNow pln.rules c.now (natV v))) else .inl .number
  | .put v v2 => if isIntIn v 0 ((pln.floor.length : Int) - 1) = true then (match signIx pln.signs v2 with
    | some g => .inr (recordC c wPut (putNow c.now (natV v) g))
    | none => .inl .sign) else .inl .number
  | .turn v => if isIntIn v 0 ((pln.robots.length : Int) - 1) = true then .inr (recordC c wTurn (turnNow c.now (natV v))) else .inl .number
  | .undo => .inr (undoC c)
  | .redo => .inr (redoC c)
def errV (K : PySem.W.Frag) : OpErr → Value
  | .number => .ref (He.ga K "InvalidNumber")
  | .sign => .ref (He.ga K "UnknownSign")
/-- what an operation gives back -/
def ResAt (H0 H : Hp) (p : Addr) (L : CLoc) (pln : Plan) (c : CSt) (v : V) : Op → Prop
  | .step k => ∃ (f : Addr) (fs : List Addr), v = .ref f ∧ H0 f = none ∧ f ∉ L.all p ∧ (∀ a ∈ fs, a ∉ L.all p ∧ H0 a = none) ∧ f ∉ fs ∧ H f = some (.lst (fs.map V.ref)) ∧ Paired (LsAt H) fs (stepsM pln.rules c.now.st c.now.sums (natV k)).1
  | .put k _ => v = sV (pln.signs.getD (c.now.st.floor.getD (natV k) 0) [])
  | .turn k => v = .int (c.now.st.robots.getD (natV k) (0, true, 0)).1
  | .undo => v = .bl (!decide (c.past = []))
  | .redo => v = .bl (!decide (c.undone = []))
def OpTup (K : PySem.W.Frag) (H : Hp) (a : Addr) : Op → Prop
  | .step v => H a = some (.tup [.str "step", v]) ∧ ∃ n, ArN K H v n
  | .put v v2 => H a = some (.tup [.str "put", v, v2]) ∧ (∃ n, ArN K H v n) ∧ ∃ n, ArN K H v2 n
  | .turn v => H a = some (.tup [.str "turn", v]) ∧ ∃ n, ArN K H v n
  | .undo => H a = some (.tup [.str "undo"])
  | .redo => H a = some (.tup [.str "redo"])
theorem signIx_none {signs : List Cs} {v : V} (h : ∀ cs ∈ signs, v ≠ sV cs) : signIx signs v = none := by
  unfold signIx
  split
  · rename_i z
    rw [List.find?_eq_none]
    intro g hg e
    have hg : g < signs.length := List.mem_range.mp hg
    have e := of_decide_eq_true e
    have eg : signs.getD g [] = signs[g] := by simp [List.getD_eq_getElem?_getD, List.getElem?_eq_getElem hg]
    rw [eg] at e
    refine h signs[g] (List.getElem_mem hg) ?_
    rw [e]
    obtain ⟨cs, rfl⟩ := sx_surj z
    simp [sV, sx]
  · rfl
theorem signIx_some {signs : List Cs} {g : Nat} {cs : Cs} (h : signs[g]? = some cs) (hno : ∀ j, j < g → signs[j]? ≠ some cs) : signIx signs (sV cs) = some g := by
  have hg : g < signs.length := (List.getElem?_eq_some_iff.mp h).1
  show (List.range signs.length).find? (fun g => decide (signs.getD g [] = (sx cs).cps.toList)) = some g
  have ec : (sx cs).cps.toList = cs := by simp [sx]
  rw [ec, List.find?_range_eq_some]
  refine ⟨decide_eq_true ?_, List.mem_range.mpr hg, fun j hj => ?_⟩
  · simp [List.getD_eq_getElem?_getD, h]
  · have hjl : j < signs.length := by omega
    have := hno j hj
    rw [List.getElem?_eq_getElem hjl] at this
    have e2 : signs.getD j [] = signs[j] := by simp [List.getD_eq_getElem?_getD, List.getElem?_eq_getElem hjl]
    rw [e2]
    simpa using this
theorem lc_no_step {a b c d e : V} : List.lookup ("step" : Str) (corFs a b c d e) = none := by kernel_rfl
theorem lc_no_put {a b c d e : V} : List.lookup ("put" : Str) (corFs a b c d e) = none := by kernel_rfl
theorem lc_no_turn {a b c d e : V} : List.lookup ("turn" : Str) (corFs a b c d e) = none := by kernel_rfl
theorem lc_no_undo {a b c d e : V} : List.lookup ("undo" : Str) (corFs a b c d e) = none := by kernel_rfl
theorem lc_no_redo {a b c d e : V} : List.lookup ("redo" : Str) (corFs a b c d e) = none := by kernel_rfl
theorem lc_no_execute {a b c d e : V} : List.lookup ("execute" : Str) (corFs a b c d e) = none := by kernel_rfl
end Sw

end

section
set_option maxRecDepth 100000
set_option maxHeartbeats 4000000
/-! texts that are read without a fault: the lexer -/
namespace Sw
open PySem
abbrev KT := Kd × Cs
def kt (t : Tk) : KT := (t.kind, t.text)
def dec (n : Nat) : Cs := if n < 10 then [48 + n] else [48 + n / 10, 48 + n % 10]
/-- a word of letters -/
def Wd (w : Cs) : Prop := (∀ c ∈ w, isL c = true) ∧ 1 ≤ w.length ∧ w.length ≤ 8
/-- digits, at most two, no zero ahead -/
def Nm (w : Cs) : Prop := (∀ c ∈ w, isD c = true) ∧ 1 ≤ w.length ∧ w.length ≤ 2 ∧ (w.length = 1 ∨ w.head? ≠ some 48)
def kdOf (w : Cs) : Kd := match w with
  | [] => .name
  | c :: _ => if isD c = true then .number else if w ∈ kws then .keyword else .name
def ktOf (w : Cs) : KT := (kdOf w, w)
theorem tw_app {p : Nat → Bool} {w : Cs} {r : Cs} (h : ∀ c ∈ w, p c = true) (hr : ∀ c, r.head? = some c → p c = false) : (w ++ r).takeWhile p = w := by
  induction w with
  | nil =>
    cases r with
    | nil => rfl
    | cons c r => simp [hr c rfl]
  | cons a w ih =>
    have ha : p a = true := h a List.mem_cons_self
    simp only [List.cons_append, List.takeWhile_cons, ha, if_true]
    rw [ih fun c hc => h c (List.mem_cons_of_mem _ hc)]
theorem isL_isD {c : Nat} (h : isL c = true) : isD c = false := by
  unfold isL at h
  unfold isD
  rw [Bool.and_eq_true, Nat.ble_eq, Nat.ble_eq] at h
  cases e : (Nat.ble 48 c && Nat.ble c 57) with
  | false => rfl
  | true =>
    rw [Bool.and_eq_true, Nat.ble_eq, Nat.ble_eq] at e
    omega
theorem isL_ne {c : Nat} (h : isL c = true) : c ≠ 59 ∧ isS c = false := by
  unfold isL at h
  rw [Bool.and_eq_true, Nat.ble_eq, Nat.ble_eq] at h
  refine ⟨by omega, ?_⟩
  unfold isS
  have h1 : (c == 32) = false := by simp; omega
  have h2 : (c == 10) = false := by simp; omega
  rw [h1, h2]
  rfl
theorem isD_ne {c : Nat} (h : isD c = true) : c ≠ 59 ∧ isS c = false := by
  unfold isD at h
  rw [Bool.and_eq_true, Nat.ble_eq, Nat.ble_eq] at h
  refine ⟨by omega, ?_⟩
  unfold isS
  have h1 : (c == 32) = false := by simp; omega
  have h2 : (c == 10) = false := by simp; omega
  rw [h1, h2]
  rfl
/-- what may stand behind a word -/
def Brk (r : Cs) : Prop := ∀ c, r.head? = some c → isL c = false ∧ isD c = false
theorem read_word {line col : Nat} {w r : Cs} (hw : Wd w ∨ Nm w) (hr : Brk r) : readTok line col (w ++ r) = some ⟨kdOf w, w, line, col⟩ := by
  rcases hw with ⟨h1, h2, h3⟩ | ⟨h1, h2, h3, h4⟩
  · cases w with
    | nil => simp at h2
    | cons c w =>
      have hc := h1 c List.mem_cons_self
      have tw : ((c :: w) ++ r).takeWhile isL = c :: w := tw_app h1 fun x hx => (hr x hx).1
      have e : (c :: w) ++ r = c :: (w ++ r) := rfl
      rw [e] at tw ⊢
      simp only [readTok, if_neg (isL_ne hc).1, isL_isD hc, tw, kdOf]
      by_cases hk : (c :: w) ∈ kws
      · simp [hk]
      · have hp : 1 ≤ (c :: w).length ∧ (c :: w).length ≤ 8 := ⟨h2, h3⟩
        simp only [hk, hp, if_true, if_false, Bool.false_eq_true, and_self]
  · cases w with
    | nil => simp at h2
    | cons c w =>
      have hc := h1 c List.mem_cons_self
      have tw : ((c :: w) ++ r).takeWhile isD = c :: w := tw_app h1 fun x hx => (hr x hx).2
      have e : (c :: w) ++ r = c :: (w ++ r) := rfl
      rw [e] at tw ⊢
      simp only [readTok, if_neg (isD_ne hc).1, hc, tw, kdOf, if_true]
      rw [if_neg]
      rintro (q | ⟨q1, q2⟩)
      · omega
      · rcases h4 with z | z
        · omega
        · exact z (by rw [q2]; rfl)
theorem lex_word {line col f : Nat} {w r : Cs} {ts : List Tk} (hw : Wd w ∨ Nm w) (hr : Brk r) (h : lexRow line f (col + w.length) r = .ok ts) : lexRow line (f + 1) col (w ++ r) = .ok (⟨kdOf w, w, line, col⟩ :: ts) := by
  have rd := read_word (line := line) (col := col) hw hr
  cases w with
  | nil => rcases hw with ⟨_, q, _⟩ | ⟨_, q, _⟩ <;> simp at q
  | cons c w =>
    have hs : isS c = false := by
      rcases hw with ⟨q, _⟩ | ⟨q, _⟩
      · exact (isL_ne (q c List.mem_cons_self)).2
      · exact (isD_ne (q c List.mem_cons_self)).2
    have e : (c :: w) ++ r = c :: (w ++ r) := rfl
    rw [e] at rd ⊢
    simp only [lexRow, hs, rd]
    have ed : (c :: (w ++ r)).drop (c :: w).length = r := by rw [← e, List.drop_left]
    rw [ed, h]
    rfl
theorem lex_space {line col f c : Nat} {r : Cs} (hs : isS c = true) : lexRow line (f + 1) col (c :: r) = lexRow line f (col + 1) r := by
  simp only [lexRow, hs, if_true]
theorem lex_semi {line col f : Nat} {r : Cs} {ts : List Tk} (h : lexRow line f (col + 1) r = .ok ts) : lexRow line (f + 1) col (59 :: r) = .ok (⟨.sign, [59], line, col⟩ :: ts) := by
  have e : readTok line col (59 :: r) = some ⟨.sign, [59], line, col⟩ := rfl
  have hs : isS 59 = false := rfl
  simp only [lexRow, hs, e]
  show (match lexRow line f (col + 1) r with | .error e => Except.error e | .ok ts => .ok (_ :: ts)) = _
  rw [h]
/-! ### a line: words with a space between, then ; -/
def wordsOf : List Cs → Cs
  | [] => []
  | [w] => w
  | w :: r => w ++ 32 :: wordsOf r
def lineOf (ws : List Cs) : Cs := wordsOf ws ++ [59]
theorem brk_semi {r : Cs} : Brk (59 :: r) := fun c h => by
  cases h
  exact ⟨rfl, rfl⟩
theorem brk_space {r : Cs} : Brk (32 :: r) := fun c h => by
  cases h
  exact ⟨rfl, rfl⟩
theorem lex_line {line : Nat} : ∀ {ws : List Cs} {f col : Nat}, ws ≠ [] → (∀ w ∈ ws, Wd w ∨ Nm w) → (lineOf ws).length ≤ f → ∃ T, lexRow line f col (lineOf ws) = .ok T ∧ T.map kt = ws.map ktOf ++ [(.sign, wSemi)]
  | [], _, _, h, _, _ => absurd rfl h
  | [w], f, col, _, hw, hf => by
    have hw1 := hw w List.mem_cons_self
    have hl : (lineOf [w]).length = w.length + 1 := by simp [lineOf, wordsOf]
    obtain ⟨f', rfl⟩ : ∃ f', f = f' + 1 + 1 := ⟨f - 2, by rcases hw1 with ⟨_, q, _⟩ | ⟨_, q, _⟩ <;> omega⟩
    have e1 : lexRow line (f' + 1) (col + w.length) [59] = .ok [⟨.sign, [59], line, col + w.length⟩] := by
      refine lex_semi ?_
      cases f' <;> rfl
    exact ⟨_, lex_word hw1 brk_semi e1, rfl⟩
  | w :: w2 :: ws, f, col, _, hw, hf => by
    have hw1 := hw w List.mem_cons_self
    have e : lineOf (w :: w2 :: ws) = w ++ 32 :: lineOf (w2 :: ws) := by
      show (w ++ 32 :: wordsOf (w2 :: ws)) ++ [59] = _
      rw [List.append_assoc]
      rfl
    rw [e] at hf ⊢
    rw [List.length_append, List.length_cons] at hf
    obtain ⟨f', rfl⟩ : ∃ f', f = f' + 1 + 1 := ⟨f - 2, by rcases hw1 with ⟨_, q, _⟩ | ⟨_, q, _⟩ <;> omega⟩
    have hf2 : (lineOf (w2 :: ws)).length ≤ f' := by rcases hw1 with ⟨_, q, _⟩ | ⟨_, q, _⟩ <;> omega
    obtain ⟨T, h1, h2⟩ := lex_line (line := line) (ws := w2 :: ws) (f := f') (col := col + w.length + 1) (by simp) (fun x hx => hw x (List.mem_cons_of_mem _ hx)) hf2
    refine ⟨_, lex_word hw1 brk_space (by rw [lex_space rfl]; exact h1), ?_⟩
    rw [List.map_cons, h2]
    rfl
theorem lex_lines : ∀ {lss : List (List Cs)} {line : Nat}, (∀ ws ∈ lss, ws ≠ [] ∧ ∀ w ∈ ws, Wd w ∨ Nm w) → ∃ T, lexRows line (lss.map lineOf) = .ok T ∧ T.map kt = (lss.map fun ws => ws.map ktOf ++ [(.sign, wSemi)]).flatten
  | [], _, _ => ⟨[], rfl, rfl⟩
  | ws :: lss, line, h => by
    obtain ⟨hne, hw⟩ := h ws List.mem_cons_self
    obtain ⟨T, h1, h2⟩ := lex_line (line := line) (col := 0) hne hw (Nat.le_refl _)
    obtain ⟨U, h3, h4⟩ := lex_lines (lss := lss) (line := line + 1) fun x hx => h x (List.mem_cons_of_mem _ hx)
    refine ⟨T ++ U, ?_, ?_⟩
    · show (match lexRow line (lineOf ws).length 0 (lineOf ws) with | .error e => Except.error e | .ok ts => match lexRows (line + 1) (lss.map lineOf) with | .error e => .error e | .ok us => .ok (ts ++ us)) = _
      rw [h1, h3]
    · rw [List.map_append, h2, h4]
      rfl
theorem no10_line : ∀ {ws : List Cs}, (∀ w ∈ ws, Wd w ∨ Nm w) → 10 ∉ lineOf ws := by
  have key : ∀ {ws : List Cs}, (∀ w ∈ ws, Wd w ∨ Nm w) → 10 ∉ wordsOf ws := by
    intro ws
    induction ws with
    | nil => intro _ h; cases h
    | cons w ws ih =>
      intro hw h
      have h10 : 10 ∉ w := fun z => by
        rcases hw w List.mem_cons_self with ⟨q, _⟩ | ⟨q, _⟩
        · exact absurd (q 10 z) (by decide)
        · exact absurd (q 10 z) (by decide)
      cases ws with
      | nil => exact h10 h
      | cons w2 ws =>
        rcases List.mem_append.mp h with z | z
        · exact h10 z
        · rcases List.mem_cons.mp z with y | y
          · exact absurd y (by decide)
          · exact ih (fun x hx => hw x (List.mem_cons_of_mem _ hx)) y
  intro ws hw h
  rcases List.mem_append.mp h with z | z
  · exact key hw z
  · exact absurd (List.mem_singleton.mp z) (by decide)
/-- a text of such lines -/
theorem tokenize_lines {lss : List (List Cs)} (hne : lss ≠ []) (h : ∀ ws ∈ lss, ws ≠ [] ∧ ∀ w ∈ ws, Wd w ∨ Nm w) :
    ∃ T, tokenize (TL.joinL [10] (lss.map lineOf)) = .ok T ∧ T.map kt = (lss.map fun ws => ws.map ktOf ++ [(Kd.sign, wSemi)]).flatten ++ [(.fin, [])] := by
  have hr : rowsOf (TL.joinL [10] (lss.map lineOf)) = lss.map lineOf := TL.spl_join (by simpa using hne) (by
    intro p hp
    obtain ⟨ws, hws, rfl⟩ := List.mem_map.mp hp
    exact no10_line (h ws hws).2)
  obtain ⟨T, h1, h2⟩ := lex_lines (line := 0) h
  refine ⟨T ++ [⟨.fin, [], (lss.map lineOf).length, 0⟩], ?_, ?_⟩
  · unfold tokenize
    rw [hr, h1]
  · rw [List.map_append, h2]
    rfl
end Sw

end

section
set_option maxRecDepth 100000
set_option maxHeartbeats 4000000
/-! texts that are read without a fault: the parser -/
namespace Sw
open PySem
/-- what is still to be read -/
def Rest (T : List Tk) (st : PSt) (l : List KT) : Prop := (T.map kt).drop st.at_ = l
section
variable {T : List Tk} {st : PSt} {k : Kd} {w : Cs} {l : List KT}
theorem Rest.cons (h : Rest T st ((k, w) :: l)) : (peek T st).kind = k ∧ (peek T st).text = w ∧ Rest T st.next l := by
  have e0 : (T.map kt)[st.at_]? = some (k, w) := by
    have := congrArg List.head? h
    rw [List.head?_drop] at this
    exact this
  rw [List.getElem?_map] at e0
  cases ht : T[st.at_]? with
  | none => rw [ht] at e0; cases e0
  | some t =>
    rw [ht] at e0
    have e1 : kt t = (k, w) := Option.some.inj e0
    have ep : peek T st = t := by
      unfold peek
      rw [List.getD_eq_getElem?_getD, ht]
      rfl
    refine ⟨by rw [ep]; exact congrArg Prod.fst e1, by rw [ep]; exact congrArg Prod.snd e1, ?_⟩
    show (T.map kt).drop (st.at_ + 1) = l
    have := congrArg List.tail h
    rw [List.tail_drop] at this
    exact this
theorem Rest.of_at {st2 : PSt} (h : Rest T st l) (e : st2.at_ = st.at_) : Rest T st2 l := by
  unfold Rest at *
  rw [e]
  exact h
theorem take_ok' (h : Rest T st ((k, w) :: l)) : ∃ t, take T k st = .ok (t, st.next) ∧ t.text = w ∧ Rest T st.next l := by
  obtain ⟨h1, h2, h3⟩ := h.cons
  exact ⟨peek T st, by unfold take; rw [if_pos h1], h2, h3⟩
theorem word_ok (h : Rest T st ((k, w) :: l)) : ∃ t, takeWord T w st = .ok (t, st.next) ∧ t.text = w ∧ Rest T st.next l := by
  obtain ⟨h1, h2, h3⟩ := h.cons
  exact ⟨peek T st, by unfold takeWord; rw [if_pos h2], h2, h3⟩
theorem kw_ok {ws : List Cs} (h : Rest T st ((.keyword, w) :: l)) (hw : w ∈ ws) : ∃ t, takeKw T ws st = .ok (t, st.next) ∧ t.text = w ∧ Rest T st.next l := by
  obtain ⟨h1, h2, h3⟩ := h.cons
  exact ⟨peek T st, by unfold takeKw; rw [if_pos ⟨h1, by rw [h2]; exact hw⟩], h2, h3⟩
end
/-- all but the place -/
def PSt.at' (st : PSt) (n : Nat) : PSt := { st with at_ := n }
/-! ### names -/
def pushAll (b : Bool) (ws : List Cs) (st : PSt) : PSt := if b then { st with moods := st.moods ++ ws } else { st with signs := st.signs ++ ws }
theorem more_names {T : List Tk} {k : Kd} {w : Cs} {l : List KT} (hk : k ≠ .name) : ∀ {ws : List Cs} {f : Nat} {st : PSt} {acc : List Tk}, Rest T st (ws.map (fun w => (Kd.name, w)) ++ (k, w) :: l) → ws.length ≤ f →
    ∃ ts : List Tk, moreNames T f st acc = (acc ++ ts, { st with at_ := st.at_ + ws.length }) ∧ ts.map (·.text) = ws
  | [], f, st, acc, h, hf => by
    obtain ⟨h1, _, _⟩ := h.cons
    cases f with
    | zero => exact ⟨[], by simp [moreNames], rfl⟩
    | succ f => exact ⟨[], by simp only [moreNames]; rw [if_neg (by rw [h1]; exact hk)]; simp, rfl⟩
  | x :: ws, f, st, acc, h, hf => by
    obtain ⟨h1, h2, h3⟩ := h.cons
    obtain ⟨f', rfl⟩ : ∃ f', f = f' + 1 := ⟨f - 1, by simp at hf; omega⟩
    obtain ⟨ts, e1, e2⟩ := more_names hk (ws := ws) (f := f') (st := st.next) (acc := acc ++ [peek T st]) h3 (by simpa using hf)
    refine ⟨peek T st :: ts, ?_, by simp [h2, e2]⟩
    simp only [moreNames]
    rw [if_pos h1, e1]
    simp [PSt.next, Nat.add_comm, Nat.add_left_comm]
theorem add_names {b : Bool} : ∀ {ts : List Tk} {st : PSt}, (ts.map (·.text)).Nodup → (∀ w ∈ ts.map (·.text), w ∉ st.names b) → (st.names b).length + ts.length ≤ mostOf b →
    ts.foldl (addName b) st = pushAll b (ts.map (·.text)) st
  | [], st, _, _, _ => by cases b <;> simp [pushAll]
  | t :: ts, st, hn, hm, hl => by
    have h1 : addName b st t = st.push b t.text := by
      unfold addName
      rw [if_neg (hm t.text (by simp)), if_neg (by simp at hl; omega)]
    rw [List.foldl_cons, h1]
    rw [List.map_cons, List.nodup_cons] at hn
    have e2 : (st.push b t.text).names b = st.names b ++ [t.text] := by cases b <;> rfl
    rw [add_names hn.2 (by
      intro w hw
      rw [e2]
      intro z
      rcases List.mem_append.mp z with y | y
      · exact hm w (List.mem_cons_of_mem _ hw) y
      · exact hn.1 (List.mem_singleton.mp y ▸ hw)) (by rw [e2, List.length_append]; simp at hl ⊢; omega)]
    cases b <;> simp [pushAll, PSt.push]
theorem names_ok {T : List Tk} {b : Bool} {st : PSt} {ws : List Cs} {k0 k1 : Kd} {l : List KT} (h : Rest T st ((k0, wordOf b) :: (ws.map (fun w => (Kd.name, w)) ++ (k1, wSemi) :: l))) (hk : k1 ≠ .name) (hne : ws ≠ []) (hT : ws.length ≤ T.length) (hn : ws.Nodup) (hm : (st.names b) = []) (hl : ws.length ≤ mostOf b) :
    ∃ st2, parseNames T b st = .ok ((), st2) ∧ st2 = { pushAll b ws st with at_ := st.at_ + ws.length + 2 } ∧ Rest T st2 l := by
  cases ws with
  | nil => exact absurd rfl hne
  | cons x ws =>
    obtain ⟨t1, e1, _, r1⟩ := word_ok h
    obtain ⟨t2, e2, x2, r2⟩ := take_ok' r1
    obtain ⟨ts, e3, x3⟩ := more_names (T := T) hk (ws := ws) (f := T.length) (st := st.next.next) (acc := [t2]) r2 (by simp at hT; omega)
    have r3 : Rest T { st.next.next with at_ := st.next.next.at_ + ws.length } ((k1, wSemi) :: l) := by
      have r2' : (T.map kt).drop st.next.next.at_ = ws.map (fun w => (Kd.name, w)) ++ (k1, wSemi) :: l := r2
      show (T.map kt).drop (st.next.next.at_ + ws.length) = _
      rw [← List.drop_drop, r2']
      have : ws.length = (ws.map (fun w => (Kd.name, w))).length := by simp
      rw [this, List.drop_left]
    obtain ⟨t4, e4, _, r4⟩ := word_ok r3
    have ets : ([t2] ++ ts).map (·.text) = x :: ws := by simp [x2, x3]
    refine ⟨_, ?_, rfl, ?_⟩
    · unfold parseNames
      simp only [e1, e2, e3, e4]
      rw [add_names (by rw [ets]; exact hn) (by
        intro w _ z
        have : (PSt.next { st.next.next with at_ := st.next.next.at_ + ws.length }).names b = st.names b := by cases b <;> rfl
        rw [this, hm] at z
        cases z) (by
        have : (PSt.next { st.next.next with at_ := st.next.next.at_ + ws.length }).names b = st.names b := by cases b <;> rfl
        rw [this, hm]
        have : ([t2] ++ ts).length = (x :: ws).length := by rw [← ets, List.length_map]
        rw [this]
        simpa using hl), ets]
      cases b <;> simp [pushAll, PSt.next, Nat.add_assoc, Nat.add_comm, Nat.add_left_comm]
    · refine r4.of_at ?_
      simp [PSt.next]
      omega
end Sw

end

section
set_option maxRecDepth 100000
set_option maxHeartbeats 4000000
/-! texts that are read without a fault: the statements -/
namespace Sw
open PySem
inductive Stm
  | robot (t : Nat) (r : Bool)
  | put (g tile : Nat)
  | rule (k : Nat × Nat) (r : Rule)
def wayOf (r : Bool) : Cs := if r then wRight else wLeft
def stmW (signs moods : List Cs) : Stm → List Cs
  | .robot t r => [wRobot, dec t, wayOf r]
  | .put g t => [wPut, signs.getD g [], dec t]
  | .rule k r => [wWhen, moods.getD k.1 [], signs.getD k.2 [], wLeave, signs.getD r.left [], r.move, moods.getD r.later []]
def stmKT (signs moods : List Cs) (s : Stm) : List KT := (stmW signs moods s).map ktOf ++ [(.sign, wSemi)]
/-- a name: a word, no keyword -/
def NameOk (w : Cs) : Prop := Wd w ∧ w ∉ kws
structure NamesOk (ws : List Cs) : Prop where
  nd : ws.Nodup
  ok : ∀ w ∈ ws, NameOk w
theorem kd_name {w : Cs} (h : NameOk w) : kdOf w = .name := by
  obtain ⟨⟨h1, h2, _⟩, h3⟩ := h
  cases w with
  | nil => simp at h2
  | cons c w =>
    have := isL_isD (h1 c List.mem_cons_self)
    simp only [kdOf, this, if_neg h3]
    rfl
theorem dec_nm {n : Nat} (h : n < 100) : Nm (dec n) ∧ kdOf (dec n) = .number ∧ numVal (dec n) = n := by
  have key : ∀ n, n < 100 → ((dec n).all isD && (decide (1 ≤ (dec n).length) && (decide ((dec n).length ≤ 2) && ((decide ((dec n).length = 1) || decide ((dec n).head? ≠ some 48)) && (decide (kdOf (dec n) = .number) && decide (numVal (dec n) = n)))))) = true := by decide +kernel
  have := key n h
  simp only [Bool.and_eq_true, Bool.or_eq_true, decide_eq_true_eq, List.all_eq_true] at this
  exact ⟨⟨this.1, this.2.1, this.2.2.1, this.2.2.2.1⟩, this.2.2.2.2.1, this.2.2.2.2.2⟩
theorem getD_in {ws : List Cs} {g : Nat} (h : g < ws.length) : ws.getD g [] ∈ ws := by
  rw [List.getD_eq_getElem?_getD, List.getElem?_eq_getElem h]
  exact List.getElem_mem h
theorem num_ok {ws : List Cs} {g : Nat} {t : Tk} {st : PSt} (hn : ws.Nodup) (hg : g < ws.length) (ht : t.text = ws.getD g []) : numberOf ws t st = (g, st) := by
  unfold numberOf
  rw [if_pos (by rw [ht]; exact getD_in hg), ht]
  have : ws.getD g [] = ws[g] := by rw [List.getD_eq_getElem?_getD, List.getElem?_eq_getElem hg]; rfl
  rw [this, List.Nodup.idxOf_getElem hn]
def applyS (signs moods : List Cs) (st : PSt) : Stm → PSt
  | .robot t r => { st with robots := st.robots ++ [(t, r)] }
  | .put g t => { st with spots := st.spots ++ [(t, g)] }
  | .rule k r => { st with pairs := st.pairs ++ [(moods.getD k.1 [], signs.getD k.2 [])], rules := st.rules ++ [(k, r)] }
/-- a statement that fits -/
def StmOk (tiles : Nat) (signs moods : List Cs) (st : PSt) : Stm → Prop
  | .robot t _ => t < tiles ∧ st.robots.length < 3
  | .put g t => t < tiles ∧ g < signs.length ∧ ∀ q ∈ st.spots, q.1 ≠ t
  | .rule k r => k.1 < moods.length ∧ k.2 < signs.length ∧ r.left < signs.length ∧ r.later < moods.length ∧ r.move ∈ moves ∧ (moods.getD k.1 [], signs.getD k.2 []) ∉ st.pairs ∧ ∀ q ∈ st.rules, q.1 ≠ k
theorem putA_new {κ α : Type} [DecidableEq κ] {l : List (κ × α)} {k : κ} {v : α} (h : ∀ q ∈ l, q.1 ≠ k) : putA l k v = l ++ [(k, v)] := by
  unfold putA
  rw [if_neg]
  intro z
  obtain ⟨q, hq, e⟩ := List.any_eq_true.mp z
  exact h q hq (of_decide_eq_true e)
theorem move_kd {w : Cs} (h : w ∈ moves) : kdOf w = .keyword := by
  have : ∀ w ∈ moves, kdOf w = .keyword := by decide +kernel
  exact this w h
theorem way_kd (r : Bool) : kdOf (wayOf r) = .keyword ∧ wayOf r ∈ ways ∧ (decide (wayOf r = wRight)) = r := by cases r <;> decide +kernel
section
variable {T : List Tk} {tiles : Nat} {st : PSt} {l : List KT}
theorem tile_ok {t : Nat} (h : Rest T st (ktOf (dec t) :: l)) (ht : t < tiles) (h99 : t < 100) : tileOf T tiles st = .ok (t, st.next) ∧ Rest T st.next l := by
  obtain ⟨_, hk, hv⟩ := dec_nm h99
  have h' : Rest T st ((.number, dec t) :: l) := by rw [← hk]; exact h
  obtain ⟨tk, e1, e2, e3⟩ := take_ok' h'
  refine ⟨?_, e3⟩
  unfold tileOf
  simp only [e1, e2, hv]
  rw [if_neg (by omega)]
theorem robot_ok {signs moods : List Cs} {t : Nat} {r : Bool} (h : Rest T st (stmKT signs moods (.robot t r) ++ l)) (ht : t < tiles) (h16 : tiles ≤ 16) (hr : st.robots.length < 3) :
    ∃ st2, parseRobot T tiles st = .ok ((), st2) ∧ st2 = { applyS signs moods st (.robot t r) with at_ := st.at_ + 4 } ∧ Rest T st2 l := by
  obtain ⟨t1, e1, _, r1⟩ := word_ok (k := kdOf wRobot) (w := wRobot) h
  obtain ⟨e2, r2⟩ := tile_ok (tiles := tiles) (t := t) r1 ht (by omega)
  obtain ⟨w1, w2, w3⟩ := way_kd r
  have r2' : Rest T st.next.next ((.keyword, wayOf r) :: (.sign, wSemi) :: l) := by
    have : ktOf (wayOf r) = (.keyword, wayOf r) := by unfold ktOf; rw [w1]
    rw [← this]
    exact r2
  obtain ⟨t3, e3, x3, r3⟩ := kw_ok r2' w2
  obtain ⟨t4, e4, _, r4⟩ := word_ok r3
  refine ⟨_, ?_, rfl, r4.of_at rfl⟩
  unfold parseRobot
  have hn : ¬ st.next.robots.length = 3 := by
    show ¬ st.robots.length = 3
    omega
  simp only [e1, if_neg hn, e2, e3, e4, x3, w3]
  rfl
theorem put_ok {moods : List Cs} {g t : Nat} (hN : NamesOk st.signs) (h : Rest T st (stmKT st.signs moods (.put g t) ++ l)) (h16 : tiles ≤ 16) (ho : StmOk tiles st.signs moods st (.put g t)) :
    ∃ st2, parsePut T tiles st = .ok ((), st2) ∧ st2 = { applyS st.signs moods st (.put g t) with at_ := st.at_ + 4 } ∧ Rest T st2 l := by
  obtain ⟨ht, hg, hno⟩ := ho
  obtain ⟨t1, e1, _, r1⟩ := word_ok (k := kdOf wPut) (w := wPut) h
  have r1' : Rest T st.next ((.name, st.signs.getD g []) :: ktOf (dec t) :: (.sign, wSemi) :: l) := by
    have : ktOf (st.signs.getD g []) = (.name, st.signs.getD g []) := by unfold ktOf; rw [kd_name (hN.ok _ (getD_in hg))]
    rw [← this]
    exact r1
  obtain ⟨t2, e2, x2, r2⟩ := take_ok' r1'
  have en : ∀ s : PSt, numberOf st.signs t2 s = (g, s) := fun s => num_ok hN.nd hg x2
  obtain ⟨e3, r3⟩ := tile_ok (tiles := tiles) (t := t) r2 ht (by omega)
  obtain ⟨t4, e4, _, r4⟩ := word_ok r3
  refine ⟨_, ?_, rfl, r4.of_at rfl⟩
  unfold parsePut
  simp only [e1, e2]
  have en2 : numberOf st.next.next.signs t2 st.next.next = (g, st.next.next) := en _
  simp only [en2, e3, e4]
  have hany : (st.next.next.next.next.spots.any fun kv => decide (kv.1 = t)) = false := by
    show (st.spots.any fun kv => decide (kv.1 = t)) = false
    rw [List.any_eq_false]
    intro q hq z
    exact hno q hq (of_decide_eq_true z)
  rw [hany]
  have ep : putA st.spots t g = st.spots ++ [(t, g)] := putA_new hno
  simp only [Bool.false_eq_true, if_false]
  show Except.ok ((), { st.next.next.next.next with spots := putA st.spots t g }) = _
  rw [ep]
  rfl
theorem rule_ok {k : Nat × Nat} {r : Rule} (hN : NamesOk st.signs) (hM : NamesOk st.moods) (h : Rest T st (stmKT st.signs st.moods (.rule k r) ++ l)) (ho : StmOk tiles st.signs st.moods st (.rule k r)) :
    ∃ st2, parseRule T st = .ok ((), st2) ∧ st2 = { applyS st.signs st.moods st (.rule k r) with at_ := st.at_ + 8 } ∧ Rest T st2 l := by
  obtain ⟨hk1, hk2, hl, hla, hm, hp, hno⟩ := ho
  have nm : ∀ g, g < st.signs.length → ktOf (st.signs.getD g []) = (.name, st.signs.getD g []) := fun g hg => by unfold ktOf; rw [kd_name (hN.ok _ (getD_in hg))]
  have nm2 : ∀ g, g < st.moods.length → ktOf (st.moods.getD g []) = (.name, st.moods.getD g []) := fun g hg => by unfold ktOf; rw [kd_name (hM.ok _ (getD_in hg))]
  have km : ktOf r.move = (.keyword, r.move) := by unfold ktOf; rw [move_kd hm]
  have h0 : Rest T st (ktOf wWhen :: ktOf (st.moods.getD k.1 []) :: ktOf (st.signs.getD k.2 []) :: ktOf wLeave :: ktOf (st.signs.getD r.left []) :: ktOf r.move :: ktOf (st.moods.getD r.later []) :: (.sign, wSemi) :: l) := h
  rw [nm2 _ hk1, nm _ hk2, nm _ hl, nm2 _ hla, km] at h0
  obtain ⟨t1, e1, _, r1⟩ := word_ok (k := kdOf wWhen) (w := wWhen) h0
  obtain ⟨t2, e2, x2, r2⟩ := take_ok' r1
  have n2 : numberOf st.next.next.moods t2 st.next.next = (k.1, st.next.next) := num_ok hM.nd hk1 x2
  obtain ⟨t3, e3, x3, r3⟩ := take_ok' r2
  have n3 : numberOf st.next.next.next.signs t3 st.next.next.next = (k.2, st.next.next.next) := num_ok hN.nd hk2 x3
  obtain ⟨t4, e4, _, r4⟩ := word_ok (k := kdOf wLeave) (w := wLeave) r3
  obtain ⟨t5, e5, x5, r5⟩ := take_ok' r4
  have n5 : numberOf st.next.next.next.next.next.signs t5 st.next.next.next.next.next = (r.left, st.next.next.next.next.next) := num_ok hN.nd hl x5
  obtain ⟨t6, e6, x6, r6⟩ := kw_ok r5 hm
  obtain ⟨t7, e7, x7, r7⟩ := take_ok' r6
  have n7 : numberOf st.next.next.next.next.next.next.next.moods t7 st.next.next.next.next.next.next.next = (r.later, st.next.next.next.next.next.next.next) := num_ok hM.nd hla x7
  obtain ⟨t8, e8, _, r8⟩ := word_ok r7
  refine ⟨_, ?_, rfl, r8.of_at rfl⟩
  unfold parseRule
  simp only [e1, e2, n2, e3, n3, e4, e5, n5, e6, e7, n7, e8, x2, x3, x6]
  have hp2 : (st.moods.getD k.1 [], st.signs.getD k.2 []) ∉ st.next.next.next.next.next.next.next.next.pairs := hp
  rw [if_neg hp2, if_neg hp2]
  have ep : putA st.rules k r = st.rules ++ [(k, r)] := putA_new hno
  show Except.ok ((), { st.next.next.next.next.next.next.next.next with pairs := st.pairs ++ [(st.moods.getD k.1 [], st.signs.getD k.2 [])], rules := putA st.rules (k.1, k.2) ⟨r.left, r.move, r.later⟩ }) = _
  have e0 : putA st.rules (k.1, k.2) ⟨r.left, r.move, r.later⟩ = putA st.rules k r := rfl
  rw [e0, ep]
  rfl
end
end Sw

end

section
set_option maxRecDepth 100000
set_option maxHeartbeats 4000000
/-! texts that are read without a fault: the whole -/
namespace Sw
open PySem
def Fits (tiles : Nat) (signs moods : List Cs) : PSt → List Stm → Prop
  | _, [] => True
  | st, s :: r => StmOk tiles signs moods st s ∧ Fits tiles signs moods (applyS signs moods st s) r
theorem apply_at {signs moods : List Cs} {st : PSt} {n : Nat} (s : Stm) : applyS signs moods { st with at_ := n } s = { applyS signs moods st s with at_ := n } := by cases s <;> rfl
theorem Fits.at_ {tiles : Nat} {signs moods : List Cs} : ∀ {ss : List Stm} {st : PSt} {n : Nat}, Fits tiles signs moods st ss → Fits tiles signs moods { st with at_ := n } ss
  | [], _, _, _ => trivial
  | s :: r, st, n, h => by
    refine ⟨?_, ?_⟩
    · have := h.1
      cases s <;> exact this
    · rw [apply_at]
      exact Fits.at_ h.2
theorem fold_at {signs moods : List Cs} : ∀ {ss : List Stm} {st : PSt} {n m : Nat}, { ss.foldl (applyS signs moods) { st with at_ := n } with at_ := m } = { ss.foldl (applyS signs moods) st with at_ := m }
  | [], _, _, _ => rfl
  | s :: r, st, n, m => by
    rw [List.foldl_cons, List.foldl_cons, apply_at]
    exact fold_at
theorem apply_si {signs moods : List Cs} {st : PSt} (s : Stm) : (applyS signs moods st s).signs = st.signs ∧ (applyS signs moods st s).moods = st.moods := by cases s <;> exact ⟨rfl, rfl⟩
section
variable {T : List Tk} {tiles : Nat} {signs moods : List Cs}
theorem stm_ok {st : PSt} {l : List KT} (s : Stm) (e1 : st.signs = signs) (e2 : st.moods = moods) (hN : NamesOk signs) (hM : NamesOk moods) (h16 : tiles ≤ 16) (h : Rest T st (stmKT signs moods s ++ l)) (ho : StmOk tiles signs moods st s) :
    ∃ n, parseStmt T tiles st = .ok ((), { applyS signs moods st s with at_ := n }) ∧ (peek T st).kind ≠ .fin ∧ Rest T { applyS signs moods st s with at_ := n } l := by
  subst e1
  subst e2
  cases s with
  | robot t r =>
    obtain ⟨p1, p2, _⟩ := Rest.cons (k := kdOf wRobot) (w := wRobot) h
    obtain ⟨st2, e, rfl, hr⟩ := robot_ok (tiles := tiles) h ho.1 h16 ho.2
    refine ⟨_, ?_, by rw [p1]; decide, hr⟩
    unfold parseStmt
    rw [if_pos p2]
    exact e
  | put g t =>
    obtain ⟨p1, p2, _⟩ := Rest.cons (k := kdOf wPut) (w := wPut) h
    obtain ⟨st2, e, rfl, hr⟩ := put_ok (tiles := tiles) hN h h16 ho
    refine ⟨_, ?_, by rw [p1]; decide, hr⟩
    unfold parseStmt
    rw [if_neg (by rw [p2]; decide), if_pos p2]
    exact e
  | rule k r =>
    obtain ⟨p1, p2, _⟩ := Rest.cons (k := kdOf wWhen) (w := wWhen) h
    obtain ⟨st2, e, rfl, hr⟩ := rule_ok (tiles := tiles) hN hM h ho
    refine ⟨_, ?_, by rw [p1]; decide, hr⟩
    unfold parseStmt
    rw [if_neg (by rw [p2]; decide), if_neg (by rw [p2]; decide), if_pos p2]
    exact e
theorem stmts_ok (hN : NamesOk signs) (hM : NamesOk moods) (h16 : tiles ≤ 16) : ∀ {ss : List Stm} {f : Nat} {st : PSt}, st.signs = signs → st.moods = moods → Rest T st ((ss.map (stmKT signs moods)).flatten ++ [(.fin, [])]) → Fits tiles signs moods st ss → ss.length ≤ f →
    ∃ n, parseStmts T tiles f st = .ok ((), { ss.foldl (applyS signs moods) st with at_ := n })
  | [], f, st, _, _, h, _, _ => by
    obtain ⟨p1, _, _⟩ := Rest.cons (k := .fin) (w := []) h
    cases f with
    | zero => exact ⟨st.at_, rfl⟩
    | succ f => exact ⟨st.at_, by simp only [parseStmts]; rw [if_pos p1]; rfl⟩
  | s :: r, f, st, e1, e2, h, hf, hl => by
    obtain ⟨f', rfl⟩ : ∃ f', f = f' + 1 := ⟨f - 1, by simp at hl; omega⟩
    have h' : Rest T st (stmKT signs moods s ++ ((r.map (stmKT signs moods)).flatten ++ [(.fin, [])])) := by
      rw [← List.append_assoc]
      exact h
    obtain ⟨n, p1, p2, p3⟩ := stm_ok s e1 e2 hN hM h16 h' hf.1
    obtain ⟨m, q⟩ := stmts_ok hN hM h16 (ss := r) (f := f') (st := { applyS signs moods st s with at_ := n }) ((apply_si s).1.trans e1) ((apply_si s).2.trans e2) p3 (Fits.at_ hf.2) (by simpa using hl)
    refine ⟨m, ?_⟩
    simp only [parseStmts]
    rw [if_neg p2, p1]
    show parseStmts T tiles f' { applyS signs moods st s with at_ := n } = _
    rw [q, fold_at]
    rfl
/-- the lines' words of a plan told by statements -/
def headW (tiles : Nat) (signs moods : List Cs) : List (List Cs) := [[wCorridor, dec tiles], wSigns :: signs, wMoods :: moods]
theorem flat_len {l : List (List KT)} (h : ∀ x ∈ l, x ≠ []) : l.length ≤ l.flatten.length := by
  induction l with
  | nil => simp
  | cons a l ih =>
    have h1 := List.length_pos_iff.mpr (h a List.mem_cons_self)
    have h2 := ih fun x hx => h x (List.mem_cons_of_mem _ hx)
    rw [List.flatten_cons, List.length_append, List.length_cons]
    omega
def stN0 (signs moods : List Cs) : PSt := ⟨0, [], signs, moods, [], [], [], []⟩
theorem parse_ok {t0 : Nat} {r0 : Bool} {ss : List Stm} (hN : NamesOk signs) (hM : NamesOk moods) (hs1 : signs ≠ []) (hm1 : moods ≠ []) (hs4 : signs.length ≤ 4) (hm6 : moods.length ≤ 6) (h1 : 1 ≤ tiles) (h16 : tiles ≤ 16)
    (hT : T.map kt = (((headW tiles signs moods ++ (Stm.robot t0 r0 :: ss).map (stmW signs moods)).map fun ws => ws.map ktOf ++ [(Kd.sign, wSemi)]).flatten) ++ [(.fin, [])])
    (hf : Fits tiles signs moods (stN0 signs moods) (.robot t0 r0 :: ss)) :
    ∃ n, parsePlan T = .ok (tiles, { (Stm.robot t0 r0 :: ss).foldl (applyS signs moods) (stN0 signs moods) with at_ := n }) := by
  have nmS : signs.map ktOf = signs.map (fun w => (Kd.name, w)) := List.map_congr_left fun w hw => by unfold ktOf; rw [kd_name (hN.ok w hw)]
  have nmM : moods.map ktOf = moods.map (fun w => (Kd.name, w)) := List.map_congr_left fun w hw => by unfold ktOf; rw [kd_name (hM.ok w hw)]
  obtain ⟨_, dk, dv⟩ := dec_nm (n := tiles) (by omega)
  have hflat : T.map kt = (kdOf wCorridor, wCorridor) :: (.number, dec tiles) :: (.sign, wSemi) :: (kdOf wSigns, wSigns) :: (signs.map (fun w => (Kd.name, w)) ++ (.sign, wSemi) :: ((kdOf wMoods, wMoods) :: (moods.map (fun w => (Kd.name, w)) ++ (.sign, wSemi) ::
      (stmKT signs moods (.robot t0 r0) ++ ((ss.map (stmKT signs moods)).flatten ++ [(.fin, [])]))))) := by
    rw [hT]
    have e0 : ktOf (dec tiles) = (.number, dec tiles) := by unfold ktOf; rw [dk]
    simp only [headW, List.map_append, List.map_cons, List.map_nil, List.flatten_append, List.flatten_cons, List.flatten_nil, List.append_nil, e0, nmS, nmM, List.map_map]
    have es : (ss.map ((fun ws => ws.map ktOf ++ [(Kd.sign, wSemi)]) ∘ stmW signs moods)) = ss.map (stmKT signs moods) := rfl
    rw [es]
    simp [stmKT, ktOf]
  have hlen : T.length = (T.map kt).length := by simp
  have r0' : Rest T st0 (T.map kt) := rfl
  rw [hflat] at r0'
  obtain ⟨t1, e1, _, r1⟩ := word_ok r0'
  obtain ⟨t2, e2, x2, r2⟩ := take_ok' r1
  obtain ⟨t3, e3, _, r3⟩ := word_ok r2
  have lenS : signs.length ≤ T.length := by
    rw [hlen, hflat]
    simp
    omega
  have lenM : moods.length ≤ T.length := by
    rw [hlen, hflat]
    simp
    omega
  have lenF : ss.length ≤ T.length := by
    have := flat_len (l := ss.map (stmKT signs moods)) (by
      intro x hx
      obtain ⟨s, _, rfl⟩ := List.mem_map.mp hx
      simp [stmKT])
    rw [List.length_map] at this
    rw [hlen, hflat]
    simp at this ⊢
    omega
  obtain ⟨s4, e4, x4, r4⟩ := names_ok (b := false) (ws := signs) (k1 := .sign) r3 (by decide) hs1 lenS hN.nd rfl hs4
  have hm0 : s4.names true = [] := by rw [x4]; rfl
  obtain ⟨s5, e5, x5, r5⟩ := names_ok (b := true) (ws := moods) (k1 := .sign) r4 (by decide) hm1 lenM hM.nd hm0 hm6
  have es5 : ∃ n, s5 = { stN0 signs moods with at_ := n } := by
    refine ⟨s5.at_, ?_⟩
    rw [x5, x4]
    simp [pushAll, stN0, PSt.next, st0]
  obtain ⟨n5, es5⟩ := es5
  subst es5
  have hf2 := Fits.at_ (n := n5) hf
  obtain ⟨s6, e6, x6, r6⟩ := robot_ok (tiles := tiles) (signs := signs) (moods := moods) r5 hf2.1.1 h16 hf2.1.2
  obtain ⟨m, e7⟩ := stmts_ok hN hM h16 (ss := ss) (f := T.length) (st := s6) (by rw [x6]; rfl) (by rw [x6]; rfl) r6 (by rw [x6]; exact Fits.at_ hf2.2) lenF
  refine ⟨m, ?_⟩
  unfold parsePlan
  simp only [e1, e2, e3, x2, dv]
  rw [if_pos ⟨h1, h16⟩]
  simp only [e4, e5, e6, e7]
  rw [x6, fold_at, apply_at, fold_at]
  rfl
end
end Sw

end

section
set_option maxRecDepth 100000
set_option maxHeartbeats 4000000
/-! the text of a plan, read again -/
namespace Sw
open PySem
structure RuleOk (g m : Nat) (kv : (Nat × Nat) × Rule) : Prop where
  k1 : kv.1.1 < m
  k2 : kv.1.2 < g
  l : kv.2.left < g
  la : kv.2.later < m
  mv : kv.2.move ∈ moves
/-- a plan that a text can tell -/
structure WfP (pl : Plan) : Prop where
  sN : NamesOk pl.signs
  mN : NamesOk pl.moods
  s1 : pl.signs ≠ []
  s4 : pl.signs.length ≤ 4
  m1 : pl.moods ≠ []
  m6 : pl.moods.length ≤ 6
  n1 : 1 ≤ pl.floor.length
  n16 : pl.floor.length ≤ 16
  fl : ∀ x ∈ pl.floor, x < pl.signs.length
  r1 : pl.robots ≠ []
  r3 : pl.robots.length ≤ 3
  rt : ∀ r ∈ pl.robots, r.1 < pl.floor.length
  rn : (pl.rules.map (·.1)).Nodup
  ru : ∀ kv ∈ pl.rules, RuleOk pl.signs.length pl.moods.length kv
def putsL (floor : List Nat) : List (Nat × Nat) := (List.range floor.length).filterMap fun t => if 0 < floor.getD t 0 then some (t, floor.getD t 0) else none
def robS (r : Nat × Bool) : Stm := .robot r.1 r.2
def putS (q : Nat × Nat) : Stm := .put q.2 q.1
def rulS (kv : (Nat × Nat) × Rule) : Stm := .rule kv.1 kv.2
def stmsOf (pl : Plan) : List Stm := pl.robots.map robS ++ ((putsL pl.floor).map putS ++ pl.rules.map rulS)
def linesW (pl : Plan) : List (List Cs) := headW pl.floor.length pl.signs pl.moods ++ (stmsOf pl).map (stmW pl.signs pl.moods)
def textOf (pl : Plan) : Cs := TL.joinL [10] ((linesW pl).map lineOf)
section
variable {tiles : Nat} {signs moods : List Cs}
theorem fits_app : ∀ {a b : List Stm} {st : PSt}, Fits tiles signs moods st a → Fits tiles signs moods (a.foldl (applyS signs moods) st) b → Fits tiles signs moods st (a ++ b)
  | [], _, _, _, h => h
  | s :: a, b, st, h, h2 => ⟨h.1, fits_app h.2 h2⟩
theorem fold_rob : ∀ {rs : List (Nat × Bool)} {st : PSt}, (rs.map robS).foldl (applyS signs moods) st = { st with robots := st.robots ++ rs }
  | [], st => by simp
  | r :: rs, st => by
    rw [List.map_cons, List.foldl_cons, fold_rob]
    simp [robS, applyS]
theorem fits_rob : ∀ {rs : List (Nat × Bool)} {st : PSt}, (∀ r ∈ rs, r.1 < tiles) → st.robots.length + rs.length ≤ 3 → Fits tiles signs moods st (rs.map robS)
  | [], _, _, _ => trivial
  | r :: rs, st, h, hl => by
    refine ⟨⟨h r List.mem_cons_self, by simp at hl; omega⟩, fits_rob (fun x hx => h x (List.mem_cons_of_mem _ hx)) ?_⟩
    simp [robS, applyS] at hl ⊢
    omega
theorem fold_put : ∀ {ps : List (Nat × Nat)} {st : PSt}, (ps.map putS).foldl (applyS signs moods) st = { st with spots := st.spots ++ ps }
  | [], st => by simp
  | r :: rs, st => by
    rw [List.map_cons, List.foldl_cons, fold_put]
    simp [putS, applyS]
theorem fits_put : ∀ {ps : List (Nat × Nat)} {st : PSt}, (∀ q ∈ ps, q.1 < tiles ∧ q.2 < signs.length) → (ps.map (·.1)).Nodup → (∀ q ∈ ps, ∀ x ∈ st.spots, x.1 ≠ q.1) → Fits tiles signs moods st (ps.map putS)
  | [], _, _, _, _ => trivial
  | q :: ps, st, h, hn, hd => by
    rw [List.map_cons, List.nodup_cons] at hn
    refine ⟨⟨(h q List.mem_cons_self).1, (h q List.mem_cons_self).2, hd q List.mem_cons_self⟩, fits_put (fun x hx => h x (List.mem_cons_of_mem _ hx)) hn.2 ?_⟩
    intro x hx y hy
    rcases List.mem_append.mp hy with z | z
    · exact hd x (List.mem_cons_of_mem _ hx) y z
    · rw [List.mem_singleton.mp z]
      intro e
      exact hn.1 (List.mem_map.mpr ⟨x, hx, e.symm⟩)
theorem fold_rul : ∀ {rs : List ((Nat × Nat) × Rule)} {st : PSt}, (rs.map rulS).foldl (applyS signs moods) st = { st with pairs := st.pairs ++ rs.map (fun kv => (moods.getD kv.1.1 [], signs.getD kv.1.2 [])), rules := st.rules ++ rs }
  | [], st => by simp
  | r :: rs, st => by
    rw [List.map_cons, List.foldl_cons, fold_rul]
    simp [rulS, applyS]
theorem name_inj {ws : List Cs} (hn : ws.Nodup) {a b : Nat} (ha : a < ws.length) (hb : b < ws.length) (e : ws.getD a [] = ws.getD b []) : a = b := by
  rw [List.getD_eq_getElem?_getD, List.getD_eq_getElem?_getD, List.getElem?_eq_getElem ha, List.getElem?_eq_getElem hb] at e
  exact (List.getElem_inj hn).mp e
theorem fits_rul (hN : NamesOk signs) (hM : NamesOk moods) : ∀ {rs done : List ((Nat × Nat) × Rule)} {st : PSt}, (∀ kv ∈ rs, RuleOk signs.length moods.length kv) → (∀ kv ∈ done, RuleOk signs.length moods.length kv) → ((done ++ rs).map (·.1)).Nodup →
    st.rules = done → st.pairs = done.map (fun kv => (moods.getD kv.1.1 [], signs.getD kv.1.2 [])) → Fits tiles signs moods st (rs.map rulS)
  | [], _, _, _, _, _, _, _ => trivial
  | kv :: rs, done, st, h, hd, hn, e1, e2 => by
    have o := h kv List.mem_cons_self
    have nk : ∀ q ∈ done, q.1 ≠ kv.1 := fun q hq z => by
      rw [List.map_append, List.nodup_append] at hn
      exact hn.2.2 q.1 (List.mem_map.mpr ⟨q, hq, rfl⟩) kv.1 (by simp) z
    refine ⟨⟨o.k1, o.k2, o.l, o.la, o.mv, ?_, ?_⟩, fits_rul hN hM (done := done ++ [kv]) (fun x hx => h x (List.mem_cons_of_mem _ hx)) ?_ ?_ ?_ ?_⟩
    · rw [e2]
      intro z
      obtain ⟨q, hq, e⟩ := List.mem_map.mp z
      obtain ⟨ea, eb⟩ := Prod.mk.inj e
      exact nk q hq (Prod.ext (name_inj hM.nd (hd q hq).k1 o.k1 ea) (name_inj hN.nd (hd q hq).k2 o.k2 eb))
    · rw [e1]
      exact nk
    · intro x hx
      rcases List.mem_append.mp hx with z | z
      · exact hd x z
      · rw [List.mem_singleton.mp z]
        exact o
    · rw [List.append_assoc]
      exact hn
    · show st.rules ++ [(kv.1, kv.2)] = _
      rw [e1]
    · show st.pairs ++ [_] = _
      rw [e2, List.map_append]
      rfl
end
theorem puts_mem {floor : List Nat} {q : Nat × Nat} (h : q ∈ putsL floor) : q.1 < floor.length ∧ q.2 = floor.getD q.1 0 ∧ 0 < q.2 := by
  obtain ⟨t, ht, e⟩ := List.mem_filterMap.mp h
  split at e
  · rename_i h0
    cases e
    exact ⟨List.mem_range.mp ht, rfl, h0⟩
  · cases e
theorem puts_nodup (floor : List Nat) : ((putsL floor).map (·.1)).Nodup := by
  have key : ∀ l : List Nat, l.Nodup → ((l.filterMap fun t => if 0 < floor.getD t 0 then some (t, floor.getD t 0) else none).map (·.1)).Nodup ∧ ∀ x ∈ (l.filterMap fun t => if 0 < floor.getD t 0 then some (t, floor.getD t 0) else none).map (·.1), x ∈ l := by
    intro l
    induction l with
    | nil => intro _; exact ⟨List.nodup_nil, fun x hx => by cases hx⟩
    | cons a l ih =>
      intro hn
      rw [List.nodup_cons] at hn
      obtain ⟨i1, i2⟩ := ih hn.2
      rw [List.filterMap_cons]
      by_cases h : 0 < floor.getD a 0
      · rw [if_pos h]
        refine ⟨?_, fun x hx => ?_⟩
        · rw [List.map_cons, List.nodup_cons]
          exact ⟨fun z => hn.1 (i2 _ z), i1⟩
        · rcases List.mem_cons.mp hx with z | z
          · exact z ▸ List.mem_cons_self
          · exact List.mem_cons_of_mem _ (i2 x z)
      · rw [if_neg h]
        exact ⟨i1, fun x hx => List.mem_cons_of_mem _ (i2 x hx)⟩
  exact (key _ List.nodup_range).1
theorem getA_mem {κ α : Type} [DecidableEq κ] {l : List (κ × α)} {k : κ} {v : α} (hn : (l.map (·.1)).Nodup) (h : (k, v) ∈ l) : getA l k = some v := by
  induction l with
  | nil => cases h
  | cons a l ih =>
    unfold getA
    rw [List.find?_cons]
    rw [List.map_cons, List.nodup_cons] at hn
    rcases List.mem_cons.mp h with z | z
    · subst z
      simp
    · have : ¬ a.1 = k := fun e => hn.1 (List.mem_map.mpr ⟨(k, v), z, e.symm⟩)
      rw [decide_eq_false this]
      exact ih hn.2 z
theorem getA_none {κ α : Type} [DecidableEq κ] {l : List (κ × α)} {k : κ} (h : ∀ q ∈ l, q.1 ≠ k) : getA l k = none := by
  unfold getA
  have : l.find? (fun kv => decide (kv.1 = k)) = none := List.find?_eq_none.mpr fun q hq z => h q hq (of_decide_eq_true z)
  rw [this]
  rfl
theorem puts_floor (floor : List Nat) : ((List.range floor.length).map fun i => (getA (putsL floor) i).getD 0) = floor := by
  apply List.ext_getElem?
  intro i
  rw [List.getElem?_map]
  by_cases h : i < floor.length
  · rw [List.getElem?_range h, List.getElem?_eq_getElem h]
    have ef : floor.getD i 0 = floor[i] := by rw [List.getD_eq_getElem?_getD, List.getElem?_eq_getElem h]; rfl
    show some ((getA (putsL floor) i).getD 0) = _
    by_cases h0 : 0 < floor.getD i 0
    · have hm : (i, floor.getD i 0) ∈ putsL floor := List.mem_filterMap.mpr ⟨i, List.mem_range.mpr h, by rw [if_pos h0]⟩
      rw [getA_mem (puts_nodup floor) hm, ef]
      rfl
    · rw [getA_none]
      · show some 0 = some floor[i]
        rw [← ef]
        congr 1
        omega
      · intro q hq z
        obtain ⟨_, h2, h3⟩ := puts_mem hq
        rw [z] at h2
        omega
  · rw [List.getElem?_eq_none (by simpa using h), List.getElem?_eq_none (by simpa using h)]
    rfl
theorem kw_wd : ∀ w ∈ kws, Wd w := by
  have key : ∀ w ∈ kws, (w.all isL && (decide (1 ≤ w.length) && decide (w.length ≤ 8))) = true := by decide +kernel
  intro w hw
  have := key w hw
  simp only [Bool.and_eq_true, decide_eq_true_eq, List.all_eq_true] at this
  exact ⟨this.1, this.2.1, this.2.2⟩
theorem stm_words {pl : Plan} (h : WfP pl) : ∀ s ∈ stmsOf pl, stmW pl.signs pl.moods s ≠ [] ∧ ∀ w ∈ stmW pl.signs pl.moods s, Wd w ∨ Nm w := by
  have kw : ∀ w, w ∈ kws → Wd w ∨ Nm w := fun w hw => .inl (kw_wd w hw)
  have si : ∀ g, g < pl.signs.length → Wd (pl.signs.getD g []) ∨ Nm (pl.signs.getD g []) := fun g hg => .inl (h.sN.ok _ (getD_in hg)).1
  have mo : ∀ g, g < pl.moods.length → Wd (pl.moods.getD g []) ∨ Nm (pl.moods.getD g []) := fun g hg => .inl (h.mN.ok _ (getD_in hg)).1
  have n16 := h.n16
  intro s hs
  rcases List.mem_append.mp hs with z | z
  · obtain ⟨r, hr, rfl⟩ := List.mem_map.mp z
    have := h.rt r hr
    refine ⟨by simp [robS, stmW], fun w hw => ?_⟩
    simp only [robS, stmW, List.mem_cons, List.not_mem_nil, or_false] at hw
    rcases hw with rfl | rfl | rfl
    · exact kw _ (by decide +kernel)
    · exact .inr (dec_nm (by omega)).1
    · refine kw _ ?_
      cases r.2 <;> decide +kernel
  · rcases List.mem_append.mp z with z | z
    · obtain ⟨q, hq, rfl⟩ := List.mem_map.mp z
      obtain ⟨q1, q2, _⟩ := puts_mem hq
      have hg : q.2 < pl.signs.length := by
        rw [q2]
        refine h.fl _ ?_
        rw [List.getD_eq_getElem?_getD, List.getElem?_eq_getElem q1]
        exact List.getElem_mem q1
      refine ⟨by simp [putS, stmW], fun w hw => ?_⟩
      simp only [putS, stmW, List.mem_cons, List.not_mem_nil, or_false] at hw
      rcases hw with rfl | rfl | rfl
      · exact kw _ (by decide +kernel)
      · exact si _ hg
      · exact .inr (dec_nm (by omega)).1
    · obtain ⟨q, hq, rfl⟩ := List.mem_map.mp z
      have o := h.ru q hq
      refine ⟨by simp [rulS, stmW], fun w hw => ?_⟩
      simp only [rulS, stmW, List.mem_cons, List.not_mem_nil, or_false] at hw
      rcases hw with rfl | rfl | rfl | rfl | rfl | rfl | rfl
      · exact kw _ (by decide +kernel)
      · exact mo _ o.k1
      · exact si _ o.k2
      · exact kw _ (by decide +kernel)
      · exact si _ o.l
      · refine kw _ ?_
        have : ∀ w ∈ moves, w ∈ kws := by decide +kernel
        exact this _ o.mv
      · exact mo _ o.la
/-- THE ROUND TRIP -/
theorem loads_text {pl : Plan} (h : WfP pl) : ∃ s, loads (textOf pl) = .ok (pl.floor.length, s) ∧ s.faults = [] ∧ planOf pl.floor.length s = pl := by
  have kw : ∀ w, w ∈ kws → Wd w ∨ Nm w := fun w hw => .inl (kw_wd w hw)
  have n16 := h.n16
  obtain ⟨T, hT, hK⟩ := tokenize_lines (lss := linesW pl) (by simp [linesW, headW]) (by
    intro ws hws
    rcases List.mem_append.mp hws with z | z
    · simp only [headW, List.mem_cons, List.not_mem_nil, or_false] at z
      rcases z with rfl | rfl | rfl
      · refine ⟨by simp, fun w hw => ?_⟩
        simp only [List.mem_cons, List.not_mem_nil, or_false] at hw
        rcases hw with rfl | rfl
        · exact kw _ (by decide +kernel)
        · exact .inr (dec_nm (by omega)).1
      · refine ⟨by simp, fun w hw => ?_⟩
        rcases List.mem_cons.mp hw with rfl | hw
        · exact kw _ (by decide +kernel)
        · exact .inl (h.sN.ok w hw).1
      · refine ⟨by simp, fun w hw => ?_⟩
        rcases List.mem_cons.mp hw with rfl | hw
        · exact kw _ (by decide +kernel)
        · exact .inl (h.mN.ok w hw).1
    · obtain ⟨s, hs, rfl⟩ := List.mem_map.mp z
      exact stm_words h s hs)
  obtain ⟨r0, rs, er⟩ : ∃ r0 rs, pl.robots = r0 :: rs := by
    cases e : pl.robots with
    | nil => exact absurd e h.r1
    | cons a b => exact ⟨a, b, rfl⟩
  have est : stmsOf pl = Stm.robot r0.1 r0.2 :: (rs.map robS ++ ((putsL pl.floor).map putS ++ pl.rules.map rulS)) := by
    unfold stmsOf
    rw [er]
    rfl
  have hfold : (stmsOf pl).foldl (applyS pl.signs pl.moods) (stN0 pl.signs pl.moods) = ⟨0, [], pl.signs, pl.moods, pl.robots, pl.rules, pl.rules.map (fun kv => (pl.moods.getD kv.1.1 [], pl.signs.getD kv.1.2 [])), putsL pl.floor⟩ := by
    unfold stmsOf
    rw [List.foldl_append, List.foldl_append, fold_rob, fold_put, fold_rul]
    simp [stN0]
  have hfit : Fits pl.floor.length pl.signs pl.moods (stN0 pl.signs pl.moods) (stmsOf pl) := by
    refine fits_app (fits_rob h.rt (by simpa [stN0] using h.r3)) (fits_app (fits_put ?_ (puts_nodup _) ?_) (fits_rul (done := []) h.sN h.mN h.ru (by simp) (by simpa using h.rn) ?_ ?_))
    · intro q hq
      obtain ⟨q1, q2, _⟩ := puts_mem hq
      refine ⟨q1, ?_⟩
      rw [q2]
      refine h.fl _ ?_
      rw [List.getD_eq_getElem?_getD, List.getElem?_eq_getElem q1]
      exact List.getElem_mem q1
    · intro q hq x hx
      rw [fold_rob] at hx
      cases hx
    · rw [fold_put, fold_rob]
      rfl
    · rw [fold_put, fold_rob]
      rfl
  rw [est] at hfit
  obtain ⟨n, hp⟩ := parse_ok (T := T) (tiles := pl.floor.length) (signs := pl.signs) (moods := pl.moods) h.sN h.mN h.s1 h.m1 h.s4 h.m6 h.n1 h.n16 (by rw [hK]; unfold linesW; rw [est]) hfit
  rw [← est, hfold] at hp
  refine ⟨_, (by
    unfold loads textOf
    rw [hT]
    exact hp), ?_, ?_⟩
  · rfl
  · unfold planOf
    simp only
    rw [puts_floor]
end Sw

end

section
set_option maxRecDepth 100000
set_option maxHeartbeats 4000000
/-! what an operation keeps -/
namespace Sw
open PySem PySem.Spec PyProof.Rows L2 SwA
/-- the situation after an operation -/
def nowM (pln : Plan) (c : CNow) : Op → OpErr ⊕ CNow
  | .step v => if isIntIn v 0 500 = true then .inr (stepNow pln.rules c (natV v)) else .inl .number
  | .put v v2 => if isIntIn v 0 ((pln.floor.length : Int) - 1) = true then (match signIx pln.signs v2 with
    | some g => .inr (putNow c (natV v) g)
    | none => .inl .sign) else .inl .number
  | .turn v => if isIntIn v 0 ((pln.robots.length : Int) - 1) = true then .inr (turnNow c (natV v)) else .inl .number
  | _ => .inl .number
theorem isIn_nat {k n : Nat} : isIntIn (.int k) 0 ((n : Int) - 1) = decide (k < n) := by
  show (decide (0 ≤ (k : Int)) && decide ((k : Int) ≤ (n : Int) - 1)) = _
  by_cases h : k < n
  · rw [decide_eq_true h, decide_eq_true (by omega), decide_eq_true (by omega)]; rfl
  · rw [decide_eq_false h, decide_eq_false (by omega : ¬ (k : Int) ≤ (n : Int) - 1), Bool.and_false]
theorem isIn_step {k : Nat} : isIntIn (.int k) 0 500 = decide (k ≤ 500) := by
  show (decide (0 ≤ (k : Int)) && decide ((k : Int) ≤ 500)) = _
  by_cases h : k ≤ 500
  · rw [decide_eq_true h, decide_eq_true (by omega), decide_eq_true (by omega)]; rfl
  · rw [decide_eq_false h, decide_eq_false (by omega : ¬ (k : Int) ≤ 500), Bool.and_false]
theorem ruOk {pl : Plan} (h : WfP pl) : RuOk pl.signs.length pl.rules := fun k r e => by
  unfold getA at e
  cases hf : pl.rules.find? (fun q => decide (q.1 = k)) with
  | none => rw [hf] at e; cases e
  | some q =>
    rw [hf] at e
    cases e
    exact (h.ru q (List.mem_of_find?_eq_some hf)).l
/-- moods that are named -/
def MoS (m : Nat) (st : MSt) : Prop := ∀ r ∈ st.robots, r.2.2 < m
def LaOk (m : Nat) (rules : List ((Nat × Nat) × Rule)) : Prop := ∀ k r, getA rules k = some r → r.later < m
theorem laOk {pl : Plan} (h : WfP pl) : LaOk pl.moods.length pl.rules := fun k r e => by
  unfold getA at e
  cases hf : pl.rules.find? (fun q => decide (q.1 = k)) with
  | none => rw [hf] at e; cases e
  | some q =>
    rw [hf] at e
    cases e
    exact (h.ru q (List.mem_of_find?_eq_some hf)).la
theorem act_mo {m : Nat} {rules : List ((Nat × Nat) × Rule)} {st : MSt} {k : Nat} (hr : LaOk m rules) (h : MoS m st) : MoS m (actM rules st k).2 := by
  unfold actM
  split
  · exact h
  · split
    · exact h
    · rename_i r hr2
      intro x hx
      rcases List.mem_or_eq_of_mem_set hx with z | z
      · exact h x z
      · rw [z]
        exact hr _ _ hr2
theorem acts_mo {m : Nat} {rules : List ((Nat × Nat) × Rule)} {st : MSt} (hr : LaOk m rules) (h : MoS m st) : ∀ k, MoS m (actsM rules st k).2
  | 0 => h
  | k + 1 => act_mo hr (acts_mo hr h k)
theorem next_mo {m : Nat} {rules : List ((Nat × Nat) × Rule)} {st : MSt} (hr : LaOk m rules) (h : MoS m st) : MoS m (nextM rules st).state := acts_mo hr h _
theorem steps_mo {m : Nat} {rules : List ((Nat × Nat) × Rule)} {st : MSt} {sums : List Nat} (hr : LaOk m rules) (h : MoS m st) : ∀ k, MoS m (stepsM rules st sums k).2.1
  | 0 => h
  | k + 1 => next_mo hr (steps_mo hr h k)
theorem first_mo {pl : Plan} (h : WfP pl) : MoS pl.moods.length (firstM pl) := fun r hr => by
  obtain ⟨q, hq, rfl⟩ := List.mem_map.mp hr
  exact List.length_pos_iff.mpr h.m1
def ChP : List Ent → CNow → Prop
  | [], _ => True
  | e :: es, n => e.new = n ∧ ChP es e.old
def ChU : List Ent → CNow → Prop
  | [], _ => True
  | e :: es, n => e.old = n ∧ ChU es e.new
/-- one situation follows another -/
structure ChC (c : CSt) : Prop where
  p : ChP c.past.reverse c.now
  u : ChU c.undone.reverse c.now
theorem ChC.first (pl : Plan) : ChC (firstC pl) := ⟨trivial, trivial⟩
theorem ChC.record {c : CSt} {w : Cs} {n : CNow} (h : ChC c) : ChC (recordC c w n) := by
  refine ⟨?_, trivial⟩
  show ChP (c.past ++ [_]).reverse n
  rw [List.reverse_append]
  exact ⟨rfl, h.p⟩
theorem last_app {es : List Ent} {e : Ent} (h : es.getLast? = some e) : es = es.dropLast ++ [e] := by
  have hn : es ≠ [] := fun z => by rw [z] at h; cases h
  rw [List.getLast?_eq_some_getLast hn] at h
  rw [← Option.some.inj h]
  exact (List.dropLast_concat_getLast hn).symm
theorem ChC.last {c : CSt} {e : Ent} (h : ChC c) (he : c.past.getLast? = some e) : e.new = c.now := by
  have h1 := h.p
  rw [last_app he, List.reverse_append] at h1
  exact h1.1
theorem ChC.next {c : CSt} {e : Ent} (h : ChC c) (he : c.undone.getLast? = some e) : e.old = c.now := by
  have h1 := h.u
  rw [last_app he, List.reverse_append] at h1
  exact h1.1
theorem ChC.undo {c : CSt} (h : ChC c) : ChC (undoC c) := by
  unfold undoC
  split
  · exact h
  · rename_i e he
    have h1 := h.p
    rw [last_app he, List.reverse_append] at h1
    refine ⟨h1.2, ?_⟩
    show ChU (c.undone ++ [e]).reverse e.old
    rw [List.reverse_append]
    refine ⟨rfl, ?_⟩
    rw [h1.1]
    exact h.u
theorem ChC.redo {c : CSt} (h : ChC c) : ChC (redoC c) := by
  unfold redoC
  split
  · exact h
  · rename_i e he
    have h1 := h.u
    rw [last_app he, List.reverse_append] at h1
    refine ⟨?_, h1.2⟩
    show ChP (c.past ++ [e]).reverse e.new
    rw [List.reverse_append]
    refine ⟨rfl, ?_⟩
    rw [h1.1]
    exact h.p
def wordO : Op → Cs
  | .step _ => wStep
  | .put _ _ => wPut
  | .turn _ => wTurn
  | .undo => wUndo
  | .redo => wRedo
theorem exec_now {pl : Plan} {c : CSt} {op : Op} (h1 : op ≠ .undo) (h2 : op ≠ .redo) : execM pl c op = match nowM pl c.now op with
    | .inl e => .inl e
    | .inr n => .inr (recordC c (wordO op) n) := by
  cases op with
  | undo => exact absurd rfl h1
  | redo => exact absurd rfl h2
  | step v =>
    simp only [execM, nowM]
    by_cases h : isIntIn v 0 500 = true
    · rw [if_pos h, if_pos h]; rfl
    · rw [if_neg h, if_neg h]
  | turn v =>
    simp only [execM, nowM]
    by_cases h : isIntIn v 0 ((pl.robots.length : Int) - 1) = true
    · rw [if_pos h, if_pos h]; rfl
    · rw [if_neg h, if_neg h]
  | put v v2 =>
    simp only [execM, nowM]
    by_cases h : isIntIn v 0 ((pl.floor.length : Int) - 1) = true
    · rw [if_pos h, if_pos h]
      cases signIx pl.signs v2 <;> rfl
    · rw [if_neg h, if_neg h]
theorem signIx_lt {signs : List Cs} {v : V} {g : Nat} (h : signIx signs v = some g) : g < signs.length := by
  unfold signIx at h
  split at h
  · exact List.mem_range.mp (List.mem_of_find?_eq_some h)
  · cases h
theorem nat_lt {v : V} {n : Nat} (h : isIntIn v 0 ((n : Int) - 1) = true) : natV v < n := by
  cases v <;> try cases h
  rename_i i
  have h : (decide (0 ≤ i) && decide (i ≤ (n : Int) - 1)) = true := h
  rw [Bool.and_eq_true, decide_eq_true_eq, decide_eq_true_eq] at h
  show i.toNat < n
  omega
theorem now_wf {pl : Plan} {n : CNow} {op : Op} {n' : CNow} (ru : RuOk pl.signs.length pl.rules) (h : WfN pl.floor.length pl.robots.length pl.signs.length n) (e : nowM pl n op = .inr n') : WfN pl.floor.length pl.robots.length pl.signs.length n' := by
  cases op with
  | undo => cases e
  | redo => cases e
  | step v =>
    simp only [nowM] at e
    split at e
    · cases e
      exact h.step ru _
    · cases e
  | turn v =>
    simp only [nowM] at e
    split at e
    · rename_i hb
      cases e
      exact h.turn (nat_lt hb)
    · cases e
  | put v v2 =>
    simp only [nowM] at e
    split at e
    · split at e
      · rename_i g hg
        cases e
        exact h.put (signIx_lt hg)
      · cases e
    · cases e
theorem now_mo {pl : Plan} {n : CNow} {op : Op} {n' : CNow} (la : LaOk pl.moods.length pl.rules) (w : WfN pl.floor.length pl.robots.length pl.signs.length n) (h : MoS pl.moods.length n.st) (e : nowM pl n op = .inr n') : MoS pl.moods.length n'.st := by
  cases op with
  | undo => cases e
  | redo => cases e
  | step v =>
    simp only [nowM] at e
    split at e
    · cases e
      exact steps_mo la h _
    · cases e
  | turn v =>
    simp only [nowM] at e
    split at e
    · rename_i hb
      cases e
      intro r hr
      rcases List.mem_or_eq_of_mem_set hr with z | z
      · exact h r z
      · rw [z]
        have hl : natV v < n.st.robots.length := by rw [w.wf.ro]; exact nat_lt hb
        have e : n.st.robots.getD (natV v) (0, true, 0) = n.st.robots[natV v] := by simp [List.getD_eq_getElem?_getD, List.getElem?_eq_getElem hl]
        rw [e]
        exact h n.st.robots[natV v] (List.getElem_mem hl)
    · cases e
  | put v v2 =>
    simp only [nowM] at e
    split at e
    · split at e
      · cases e
        exact h
      · cases e
    · cases e
structure MoC (m : Nat) (c : CSt) : Prop where
  now : MoS m c.now.st
  past : ∀ e ∈ c.past, MoS m e.old.st ∧ MoS m e.new.st
  und : ∀ e ∈ c.undone, MoS m e.old.st ∧ MoS m e.new.st
theorem MoC.undo {m : Nat} {c : CSt} (h : MoC m c) : MoC m (undoC c) := by
  unfold undoC
  split
  · exact h
  · rename_i e he
    have hm := List.mem_of_getLast? he
    refine ⟨(h.past e hm).1, fun x hx => h.past x (List.dropLast_subset _ hx), fun x hx => ?_⟩
    rcases List.mem_append.mp hx with z | z
    · exact h.und x z
    · rw [List.mem_singleton.mp z]
      exact h.past e hm
theorem MoC.redo {m : Nat} {c : CSt} (h : MoC m c) : MoC m (redoC c) := by
  unfold redoC
  split
  · exact h
  · rename_i e he
    have hm := List.mem_of_getLast? he
    refine ⟨(h.und e hm).2, fun x hx => ?_, fun x hx => h.und x (List.dropLast_subset _ hx)⟩
    rcases List.mem_append.mp hx with z | z
    · exact h.past x z
    · rw [List.mem_singleton.mp z]
      exact h.und e hm
theorem MoC.record {m : Nat} {c : CSt} {w : Cs} {n : CNow} (h : MoC m c) (hn : MoS m n.st) : MoC m (recordC c w n) :=
  ⟨hn, fun e he => by
    rcases List.mem_append.mp he with z | z
    · exact h.past e z
    · rw [List.mem_singleton.mp z]
      exact ⟨h.now, hn⟩, fun e he => by cases he⟩
/-- what an operation keeps -/
structure CorOk (pl : Plan) (k : Nat) (c : CSt) : Prop where
  mo : MoC pl.moods.length c
  wf : WfC pl.floor.length pl.robots.length pl.signs.length c
  ch : ChC c
  lp : c.past.length ≤ k
  lu : c.undone.length ≤ k
theorem CorOk.first {pl : Plan} (h : WfP pl) : CorOk pl 0 (firstC pl) :=
  ⟨⟨first_mo h, fun e he => (by cases he), fun e he => (by cases he)⟩, ⟨⟨⟨rfl, by simp [firstC, firstM], fun r hr => by
      obtain ⟨q, hq, rfl⟩ := List.mem_map.mp hr
      exact h.rt q hq⟩, h.fl, by simp [firstC]⟩, fun e he => (by cases he), fun e he => (by cases he)⟩, ChC.first pl, Nat.le_refl _, Nat.le_refl _⟩
theorem CorOk.mono {pl : Plan} {k l : Nat} {c : CSt} (h : CorOk pl k c) (hl : k ≤ l) : CorOk pl l c := ⟨h.mo, h.wf, h.ch, by have := h.lp; omega, by have := h.lu; omega⟩
theorem CorOk.undo {pl : Plan} {k : Nat} {c : CSt} (h : CorOk pl k c) : CorOk pl (k + 1) (undoC c) := by
  have h1 := h.lp
  have h2 := h.lu
  refine ⟨h.mo.undo, h.wf.undo, h.ch.undo, ?_, ?_⟩
  · unfold undoC
    split
    · omega
    · simp; omega
  · unfold undoC
    split
    · omega
    · simp; omega
theorem CorOk.redo {pl : Plan} {k : Nat} {c : CSt} (h : CorOk pl k c) : CorOk pl (k + 1) (redoC c) := by
  have h1 := h.lp
  have h2 := h.lu
  refine ⟨h.mo.redo, h.wf.redo, h.ch.redo, ?_, ?_⟩
  · unfold redoC
    split
    · omega
    · simp; omega
  · unfold redoC
    split
    · omega
    · simp; omega
theorem CorOk.exec {pl : Plan} {k : Nat} {c c' : CSt} {op : Op} (wf : WfP pl) (h : CorOk pl k c) (e : execM pl c op = .inr c') : CorOk pl (k + 1) c' := by
  by_cases h1 : op = .undo
  · subst h1
    cases e
    exact h.undo
  by_cases h2 : op = .redo
  · subst h2
    cases e
    exact h.redo
  rw [exec_now h1 h2] at e
  cases hn : nowM pl c.now op with
  | inl x => rw [hn] at e; cases e
  | inr n =>
    rw [hn] at e
    cases e
    have h3 := h.lp
    exact ⟨h.mo.record (now_mo (laOk wf) h.wf.now h.mo.now hn), h.wf.record (now_wf (ruOk wf) h.wf.now hn), h.ch.record, by simp [recordC]; omega, by simp [recordC]⟩
end Sw

end

section
set_option maxRecDepth 100000
set_option maxHeartbeats 4000000
/-! properties -/
namespace Sw
open PySem PySem.Spec PyProof.Rows L2 SwA
/-- a property -/
structure PrT (K : PySem.W.Frag) (C f q : Str) (st : Stmt) : Prop where
  d : ∃ fd, FunD K f q (defArgs st) (defBody st) (defScope st) [] [] (He5.wf K (He.ga K C) "property" f) fd
  p : PropOf K (He.ga K C) f (He.ma K (He.ga K C) f) (He5.wf K (He.ga K C) "property" f)
/-- a def at an address keeps a promise -/
def FnX (P : Program) (w : World) (K : PySem.W.Frag) (mg : Str → Option Value) (base : Heap) (CX : CXT) (k : Nat) (f : Addr) (ps : List Str) (sp : Sp) : Prop :=
  ∃ fd, FnOk P w K mg base CX k f fd ps sp ∧ Binds K fd ps []
end Sw

end

section
set_option maxRecDepth 100000
set_option maxHeartbeats 4000000
/-! the corridor's properties -/
namespace Sw
open PySem PySem.Spec PyProof.Rows L2 SwA
structure CorP (K : PySem.W.Frag) (w : World) (mg : Str → Option Value) : Prop where
  o : OpsT K w mg
  passed : PrT K "Corridor" "passed" "Corridor.passed" s_Corridor_passed
  signs_now : PrT K "Corridor" "signs_now" "Corridor.signs_now" s_Corridor_signs_now
  sweeps : PrT K "Corridor" "sweeps" "Corridor.sweeps" s_Corridor_sweeps
  operations : PrT K "Corridor" "operations" "Corridor.operations" s_Corridor_operations
abbrev wayS (r : Bool) : Str := if r = true then "right" else "left"
def RobT (moods : List Cs) (H : Hp) (a : Addr) (r : Rob) : Prop := H a = some (.tup [.int r.1, .str (wayS r.2.1), sV (moods.getD r.2.2 [])])
abbrev namesV (signs : List Cs) (floor : List Nat) : List V := floor.map fun s => sV (signs.getD s [])
abbrev wordsV (past : List Ent) : List V := past.map fun e => sV e.word
section
variable {P : Program} {w : World} {K : PySem.W.Frag} {mg : Str → Option Value} {base : Heap}
def spPassed (K : PySem.W.Frag) : Sp := fun vs H Q _ => ∃ (H0 : Hp) (p : Addr) (L : CLoc) (pln : Plan) (c : CSt), vs = [.ref p] ∧ CorAt K H0 H p L pln c ∧ Q (.int c.now.tick) H
theorem sc_passed : FnScope ["self"] ["self"] (defScope s_Corridor_passed) := ⟨rfl, rfl, rfl, by decide +kernel, rfl, by decide +kernel, by decide +kernel⟩
theorem ok_passed (T : CorP K w mg) : FnX P w K mg base CX0 1 (He5.wf K (He.ga K "Corridor") "property" "passed") ["self"] (spPassed K) := by
  obtain ⟨fd, F⟩ := T.passed.d
  refine ⟨fd, F.ok sc_passed (fun vs H Q E h => ?_) (fun cdv A outer s H vs Q E hr h => ?_), F.bindsN fun _ _ _ _ _ _ us hl => match us, hl with | [_], _ => rfl⟩
  · obtain ⟨H0, p, L, pln, c, rfl, _⟩ := h
    rfl
  · obtain ⟨H0, p, L, pln, c, rfl, hc, k⟩ := h
    refine ⟨_, PSs.nox (pss_one (ps_ret (pe_ix ix_tup (pe_fld (pv 0) rfl) pe_int (fun _ _ => rfl)))), ?_⟩
    obtain ⟨sa, su, e1, hst, hsu⟩ := id hc.now
    exact ⟨_, rfl, p, _, _, _, _, rfl, hc.ob, T.o.r.c.cor.c, T.o.r.c.cor.n _ (by simp), lc_now, L.na, _, _, _, rfl, rfl, SqT.of e1, atI_nat (j := 1) rfl, k⟩
def spSweeps (K : PySem.W.Frag) : Sp := fun vs H Q _ => ∃ (H0 : Hp) (p : Addr) (L : CLoc) (pln : Plan) (c : CSt), vs = [.ref p] ∧ CorAt K H0 H p L pln c ∧ ∀ (l : Addr) (H' : Hp), H l = none → Same H H' → H' l = some (.lst (c.now.sums.map iV)) → Q (.ref l) H'
theorem sc_sweeps : FnScope ["self"] ["self"] (defScope s_Corridor_sweeps) := ⟨rfl, rfl, rfl, by decide +kernel, rfl, by decide +kernel, by decide +kernel⟩
theorem ok_sweeps (T : CorP K w mg) : FnX P w K mg base CX0 1 (He5.wf K (He.ga K "Corridor") "property" "sweeps") ["self"] (spSweeps K) := by
  obtain ⟨fd, F⟩ := T.sweeps.d
  refine ⟨fd, F.ok sc_sweeps (fun vs H Q E h => ?_) (fun cdv A outer s H vs Q E hr h => ?_), F.bindsN fun _ _ _ _ _ _ us hl => match us, hl with | [_], _ => rfl⟩
  · obtain ⟨H0, p, L, pln, c, rfl, _⟩ := h
    rfl
  · obtain ⟨H0, p, L, pln, c, rfl, hc, k⟩ := h
    refine ⟨_, PSs.nox (pss_one (ps_ret (pe_callTy call_list_of (by rfl) T.o.r.c.list (by decide +kernel) (pa_cons (pe_ix ix_tup (pe_fld (pv 0) rfl) pe_int (fun _ _ => rfl)) pa_nil)))), ?_⟩
    obtain ⟨sa, su, e1, hst, hsu⟩ := id hc.now
    exact ⟨_, rfl, p, _, _, _, _, rfl, hc.ob, T.o.r.c.cor.c, T.o.r.c.cor.n _ (by simp), lc_now, L.na, _, _, _, rfl, rfl, SqT.of e1, atI_nat (j := 2) rfl, su, _, rfl, .inr (SqT.of hsu), fun l nl => k l _ nl (sameUpd (Same.refl H) nl) upd_same⟩
def spOps (K : PySem.W.Frag) : Sp := fun vs H Q _ => ∃ (H0 : Hp) (p : Addr) (L : CLoc) (pln : Plan) (c : CSt), vs = [.ref p] ∧ CorAt K H0 H p L pln c ∧ c.past.length ≤ 100000 ∧ ∀ (l : Addr) (H' : Hp), H l = none → Same H H' → H' l = some (.lst (wordsV c.past)) → Q (.ref l) H'
abbrev opsN : List Str := ["self", "entry"]
theorem sc_ops : FnScope opsN ["self"] (defScope s_Corridor_operations) := ⟨rfl, rfl, rfl, by decide +kernel, rfl, by decide +kernel, by decide +kernel⟩
theorem ok_ops (T : CorP K w mg) : FnX P w K mg base CX0 1 (He5.wf K (He.ga K "Corridor") "property" "operations") ["self"] (spOps K) := by
  obtain ⟨fd, F⟩ := T.operations.d
  refine ⟨fd, F.ok sc_ops (fun vs H Q E h => ?_) (fun cdv A outer s H vs Q E hr h => ?_), F.bindsN fun _ _ _ _ _ _ us hl => match us, hl with | [_], _ => rfl⟩
  · obtain ⟨H0, p, L, pln, c, rfl, _⟩ := h
    rfl
  · obtain ⟨H0, p, L, pln, c, rfl, hc, hl, k⟩ := h
    refine ⟨_, PSs.nox (pss_one (ps_ret (pe_lc (own := [("entry", 1)]) (g := (gName 1)) (tt := tYes) (te := tOp (rIxT K) (tVar 1) (tC (.int 0))) rfl sc_ops.nd (pi_list (pe_fld (pv 0) rfl)) (blkOk_by (own := [("entry", 1)]) (N := opsN) (sc := defScope s_Corridor_operations) (by decide +kernel)) (fun _ _ _ _ _ => (pg_name (i := 1) sc_ops.nd rfl (.inl rfl))) (fun _ _ _ _ _ => pts_nil) (fun _ _ _ _ _ => (pe_ix ix_tup (pv 1) pe_int (fun _ _ => rfl)))))), ?_⟩
    obtain ⟨ps, hps, hpr⟩ := id hc.past
    refine ⟨_, rfl, p, _, _, _, _, rfl, hc.ob, T.o.r.c.cor.c, T.o.r.c.cor.n _ (by simp), lc_past, L.pl, rfl, ⟨_, SqL.of hps⟩, fun D nD => ?_⟩
    refine lc_list (K := K) (a := L.pl) (xs := ps.map V.ref) (fun i H2 => H2 D = some (.lst (wordsV (c.past.take i))) ∧ Same H H2) ⟨upd_same, sameUpd (Same.refl H) nD⟩ (fun i H2 _ ⟨_, sm⟩ => SqL.of (sm _ _ hps)) ?_ ?_
    · rintro i x H2 hx ⟨hD, sm⟩
      rw [List.getElem?_map] at hx
      cases hai : ps[i]? with
      | none => rw [hai] at hx; cases hx
      | some ai =>
        rw [hai] at hx
        cases hx
        obtain ⟨ri, hri, oa, na, hent, _, _⟩ := Paired_idx hpr hai
        have hil : i < ps.length := (List.getElem?_eq_some_iff.mp hai).1
        have := hpr.length
        refine ⟨rfl, _, rfl, ai, _, _, _, rfl, rfl, SqT.of (sm _ _ hent), rfl, _, hD, ?_, ?_, sameUpd sm nD⟩
        · rw [List.length_map, List.length_take, sizeLine_eq]
          omega
        · rw [upd_same, List.take_succ, hri]
          simp
    · rintro H2 ⟨hD, sm⟩
      rw [List.length_map, hpr.length, List.take_length] at hD
      exact k D H2 nD sm hD
def spSignsNow (K : PySem.W.Frag) : Sp := fun vs H Q _ => ∃ (H0 : Hp) (p : Addr) (L : CLoc) (pln : Plan) (c : CSt), vs = [.ref p] ∧ CorAt K H0 H p L pln c ∧ (∀ x ∈ c.now.st.floor, x < pln.signs.length) ∧ c.now.st.floor.length ≤ 1000 ∧ ∀ (l : Addr) (H' : Hp), H l = none → Same H H' → H' l = some (.lst (namesV pln.signs c.now.st.floor)) → Q (.ref l) H'
abbrev snN : List Str := ["self", "sign"]
theorem sc_sn : FnScope snN ["self"] (defScope s_Corridor_signs_now) := ⟨rfl, rfl, rfl, by decide +kernel, rfl, by decide +kernel, by decide +kernel⟩
theorem ok_sn (T : CorP K w mg) : FnX P w K mg base CX0 1 (He5.wf K (He.ga K "Corridor") "property" "signs_now") ["self"] (spSignsNow K) := by
  obtain ⟨fd, F⟩ := T.signs_now.d
  refine ⟨fd, F.ok sc_sn (fun vs H Q E h => ?_) (fun cdv A outer s H vs Q E hr h => ?_), F.bindsN fun _ _ _ _ _ _ us hl => match us, hl with | [_], _ => rfl⟩
  · obtain ⟨H0, p, L, pln, c, rfl, _⟩ := h
    rfl
  · obtain ⟨H0, p, L, pln, c, rfl, hc, hsi, hlen, k⟩ := h
    refine ⟨_, PSs.nox (pss_one (ps_ret (pe_lc (own := [("sign", 1)]) (g := (gName 1)) (tt := tYes) (te := tOp (rIxT K) (tFld K (tFld K (tVar 0) "parsed") "signs") (tVar 1)) rfl sc_sn.nd (pi_tup (pe_fld (pe_ix ix_tup (pe_fld (pv 0) rfl) pe_int (fun _ _ => rfl)) rfl)) (blkOk_by (own := [("sign", 1)]) (N := snN) (sc := defScope s_Corridor_signs_now) (by decide +kernel)) (fun _ _ _ _ _ => (pg_name (i := 1) sc_sn.nd rfl (.inl rfl))) (fun _ _ _ _ _ => pts_nil) (fun _ _ _ _ _ => (pe_ix ix_tup (pe_fld (pe_fld (pv 0) rfl) rfl) (pv 1) (fun _ _ => rfl)))))), ?_⟩
    obtain ⟨sa, su, e1, hst, hsu⟩ := id hc.now
    obtain ⟨ds, fa, ra, ras, q1, q2, q3, q4⟩ := id hst
    obtain ⟨dp, sga, mda, fla, rba, rda, ras3, w1, w2, w3, w4, w5⟩ := id hc.plan
    refine ⟨_, rfl, p, _, _, _, _, rfl, hc.ob, T.o.r.c.cor.c, T.o.r.c.cor.n _ (by simp), lc_now, L.na, _, _, _, rfl, rfl, SqT.of e1, atI_nat (j := 0) rfl, sa, _, ds, _, _, rfl, q1, T.o.r.c.m.state.c, T.o.r.c.m.state.n _ (by simp), ls_floor, fa, rfl, ⟨_, SqT.of q2⟩, fun D nD => ?_⟩
    refine lc_tup (K := K) (a := fa) (xs := c.now.st.floor.map iV) (fun i H2 => H2 D = some (.lst (namesV pln.signs (c.now.st.floor.take i))) ∧ Same H H2) ⟨upd_same, sameUpd (Same.refl H) nD⟩ (fun i H2 _ ⟨_, sm⟩ => SqT.of (sm _ _ q2)) ?_ ?_
    · rintro i x H2 hx ⟨hD, sm⟩
      rw [List.getElem?_map] at hx
      cases hai : c.now.st.floor[i]? with
      | none => rw [hai] at hx; cases hx
      | some ai =>
        rw [hai] at hx
        cases hx
        have hal := hsi ai (List.mem_of_getElem? hai)
        have eal : pln.signs[ai]? = some pln.signs[ai] := List.getElem?_eq_getElem hal
        refine ⟨rfl, _, rfl, p, _, _, _, _, rfl, sm _ _ hc.ob, T.o.r.c.cor.c, T.o.r.c.cor.n _ (by simp), lc_parsed, L.pa, _, dp, _, _, rfl, sm _ _ w1, T.o.r.c.m.lo.plan.c, T.o.r.c.m.lo.plan.n _ (by simp), lpl_signs, _, rfl, sga, _, _, _, rfl, rfl, (w2.mono fun _ z => sm _ _ z).sq, atI_nat (by rw [List.getElem?_map, eal]; rfl), _, hD, ?_, ?_, sameUpd sm nD⟩
        · rw [List.length_map, List.length_take, sizeLine_eq]
          omega
        · rw [upd_same, List.take_succ, hai]
          simp [List.getD_eq_getElem?_getD, eal]
    · rintro H2 ⟨hD, sm⟩
      rw [List.length_map, List.take_length] at hD
      exact k D H2 nD sm hD
end
end Sw

end

section
set_option maxRecDepth 100000
set_option maxHeartbeats 4000000
/-! the law's own: draws -/
namespace Sw
open PySem PySem.Spec PyProof.Rows L2 SwA
/-- the source of numbers -/
def drawL (s c : Int) (bs : List Int) : HO := .lst (.int s :: .int c :: bs.map V.int)
def DrawAt (H : Hp) (d : Addr) : Prop := ∃ (s c : Int) (bs : List Int), bs.length ≤ 63 ∧ H d = some (drawL s c bs)
/-- all but d stands, d is drawn from -/
structure Drawn (d : Addr) (H H' : Hp) : Prop where
  same : ∀ b o, b ≠ d → H b = some o → H' b = some o
  at_ : DrawAt H' d
theorem Drawn.trans {d : Addr} {H H1 H2 : Hp} (a : Drawn d H H1) (b : Drawn d H1 H2) : Drawn d H H2 := ⟨fun x o h e => b.same x o h (a.same x o h e), b.at_⟩
theorem Drawn.refl {d : Addr} {H : Hp} (h : DrawAt H d) : Drawn d H H := ⟨fun _ _ _ e => e, h⟩
theorem Drawn.of {d : Addr} {H H' : Hp} (h : DrawAt H d) (s : Same H H') : Drawn d H H' := ⟨fun _ _ _ e => s _ _ e, let ⟨a, b, c, l, e⟩ := h; ⟨a, b, c, l, s _ _ e⟩⟩
theorem Drawn.new {d : Addr} {H H' : Hp} {x : Addr} {o : HO} (h : Drawn d H H') (hx : H' x = none) : Drawn d H (upd H' x o) :=
  h.trans (Drawn.of h.at_ (sameUpd (Same.refl _) hx))
theorem Drawn.free {d : Addr} {H H' : Hp} {a : Addr} (h : Drawn d H H') (h0 : ∃ o, H d = some o) (n : H' a = none) : H a = none := by
  cases e : H a with
  | none => rfl
  | some o =>
    by_cases z : a = d
    · obtain ⟨s, c, bs, _, q⟩ := h.at_
      rw [z, q] at n
      cases n
    · rw [h.same a o z e] at n
      cases n
structure LawT (K : PySem.W.Frag) (mg : Str → Option Value) : Prop where
  len : mg "len" = none
  abs : mg "abs" = none
  list : mg "list" = none
  tuple : mg "tuple" = none
  range : mg "range" = none
  random : DeT K mg "_law_random" s__law_random
  below : DeT K mg "_law_below" s__law_below
theorem at1 {x y : V} {xs : List V} : atI (x :: y :: xs) 1 = some y := atI_nat (j := 1) rfl
theorem atz {x : V} {xs : List V} : atI (x :: xs) 0 = some x := atI_nat (j := 0) rfl
theorem ixN1 {x y : V} {xs : List V} : ixN (x :: y :: xs).length 1 = some 1 := by
  unfold ixN
  rw [if_pos (by decide), if_pos (by simp; omega)]
  rfl
theorem ixN0 {x : V} {xs : List V} : ixN (x :: xs).length 0 = some 0 := by
  unfold ixN
  rw [if_pos (by decide), if_pos (by simp only [List.length_cons]; omega)]
  rfl
theorem sIx2 {x y z : V} {xs : List V} : seqIndex? 2 (x :: y :: z :: xs).length = some 2 := by
  have h : ixN (x :: y :: z :: xs).length 2 = some 2 := by
    unfold ixN
    rw [if_pos (by decide), if_pos (by simp; omega)]
    rfl
  exact (ixN_seq h).1
section
variable {P : Program} {w : World} {K : PySem.W.Frag} {mg : Str → Option Value} {base : Heap}
/-! ### _law_below -/
def spBelow : Sp := fun vs H Q _ => ∃ (d : Addr) (n : Nat), vs = [.ref d, .int n] ∧ DrawAt H d ∧ 1 ≤ n ∧ n < 10000000 ∧ ∀ (r : Nat) (s c : Int) (bs : List Int), r < n → bs.length ≤ 63 → Q (.int r) (upd H d (drawL s c bs))
abbrev beN : List Str := ["_law_d", "_law_limit", "_law_result"]
theorem sc_below : FnScope beN ["_law_d", "_law_limit"] (defScope s__law_below) := ⟨rfl, rfl, rfl, by decide +kernel, rfl, by decide +kernel, by decide +kernel⟩
theorem modNat (i : Int) {n : Nat} (h : 1 ≤ n) : ∃ r : Nat, r < n ∧ i % (n : Int) = r := by
  have h1 := Int.emod_nonneg i (show (n : Int) ≠ 0 by omega)
  have h2 := Int.emod_lt_of_pos i (show (0 : Int) < n by omega)
  exact ⟨(i % (n : Int)).toNat, by omega, by omega⟩
theorem ok_below (T : LawT K mg) : FnE P w K mg base CX0 1 ("_law_below", none) ["_law_d", "_law_limit"] spBelow := by
  obtain ⟨fd, F⟩ := T.below.d
  refine ⟨fd, F.ok sc_below (fun vs H Q E h => ?_) (fun cdv A outer s H vs Q E hr h => ?_), F.bindsN fun _ _ _ _ _ _ us hl => match us, hl with | [_, _], _ => rfl, F.kp⟩
  · obtain ⟨d, n, rfl, _⟩ := h
    rfl
  · obtain ⟨d, n, rfl, ⟨sd, cu, bs, hb, hd⟩, h1, h2, k⟩ := h
    refine ⟨_, PSs.nox (C8.pss_cut (ps_if (PW.pt (pw_and (pt_cmpR op_eq (pe_ix ix_list (pv 0) pe_int (fun _ _ => rfl)) pe_int (nomark _)) (pw_and1 (pt_cmpR op_gt (pe_callB call_len_seq (by rfl) T.len boot_len (pa_cons (pv 0) pa_nil)) pe_int (nomark _)))))
        (pss_one (ps_asg (pe_bm PySem.F.plainAttrs_list PySem.F.slot_list_pop PySem.F.type_list_pop mt_popAt (pv 0) (pa_cons pe_int pa_nil)) (pg_sub (pv 0) pe_int set_list (fun _ => rfl)))) pss_nil)
      (pss_cons (ps_if (pt_cmpR op_gt (pe_ix ix_list (pv 0) pe_int (fun _ _ => rfl)) pe_int (nomark _))
        (pss_cons (ps_set (i := 2) sc_below.nd rfl (.inl rfl) (pe_op op_mod (pe_ix ix_list (pv 0) pe_int (fun _ _ => rfl)) (pv 1)))
        (pss_cons (ps_asg (pe_op op_fdiv (pe_ix ix_list (pv 0) pe_int (fun _ _ => rfl)) (pv 1)) (pg_sub (pv 0) pe_int set_list (fun _ => rfl)))
        (pss_one (ps_ret (pv 2))))) pss_nil)
      (pss_cons (ps_asg (pe_op op_mod (pe_op op_add (pe_op op_mul (pe_ix ix_list (pv 0) pe_int (fun _ _ => rfl)) pe_int) pe_int) pe_int) (pg_sub (pv 0) pe_int set_list (fun _ => rfl)))
      (pss_one (ps_ret (pe_op op_mod (pe_op op_fdiv (pe_ix ix_list (pv 0) pe_int (fun _ _ => rfl)) pe_int) (pv 1))))))), ?_⟩
    have hself : H = upd H d (drawL sd cu bs) := by
      funext b
      by_cases e : b = d
      · rw [e, upd_same, hd]
      · rw [upd_ne e]
    refine ⟨fun σ' H' => σ' = [some (.ref d), some (.int n), none] ∧ ∃ (s c : Int) (bs : List Int), bs.length ≤ 63 ∧ H' = upd H d (drawL s c bs), ?_, ?_⟩
    · refine ⟨_, rfl, d, _, _, _, rfl, rfl, SqL.of hd, at1, rfl, _, rfl, ?_⟩
      refine ite2 (fun h => ?_) (fun h => ?_)
      · refine ⟨_, rfl, d, _, rfl, .inl (SqL.of hd), _, _, rfl, rfl, _, rfl, ?_⟩
        refine ite2 (fun h3 => ?_) (fun h3 => ?_)
        · cases bs with
          | nil => exact absurd (of_decide_eq_true h3) (by simp)
          | cons b bs =>
            refine ⟨_, rfl, .inl ⟨rfl, _, SqL.of hd⟩, d, _, 2, 2, .int b, rfl, rfl, hd, by decide, by decide, ?_, rfl, ?_⟩
            · exact sIx2
            · refine ⟨_, rfl, d, _, _, 1, rfl, rfl, upd_same, ?_, ?_⟩
              · exact ixN1
              · refine ⟨rfl, sd, b, bs, by simp at hb; omega, ?_⟩
                rw [upd_upd]
                rfl
        · exact ⟨rfl, sd, cu, bs, hb, hself⟩
      · exact ⟨rfl, sd, cu, bs, hb, hself⟩
    · rintro σ' H' ⟨rfl, s2, c2, bs2, hb2, rfl⟩
      have hd2 : (upd H d (drawL s2 c2 bs2)) d = some (.lst (.int s2 :: .int c2 :: bs2.map V.int)) := upd_same
      refine ⟨_, rfl, d, _, _, _, rfl, rfl, SqL.of hd2, at1, _, _, rfl, rfl, _, rfl, ?_⟩
      refine ite2 (fun h => ?_) (fun h => ?_)
      · obtain ⟨r, hr1, hr2⟩ := modNat c2 h1
        refine ⟨_, rfl, d, _, _, _, rfl, rfl, SqL.of hd2, at1, _, rfl, _, _, rfl, rfl, by omega, ?_⟩
        replace k := k r s2 (c2 / n) bs2 hr1 hb2
        rw [← hr2] at k
        refine ⟨_, rfl, d, _, _, _, rfl, rfl, SqL.of hd2, at1, _, rfl, _, _, rfl, rfl, ⟨by omega, by omega⟩, ?_⟩
        refine ⟨_, rfl, d, _, _, 1, rfl, rfl, hd2, ?_, ?_⟩
        · exact ixN1
        · refine ⟨_, rfl, ?_⟩
          rw [upd_upd]
          exact k
      · refine ⟨_, rfl, d, _, _, _, rfl, rfl, SqL.of hd2, atz, _, _, rfl, rfl, .inr (by decide), _, _, rfl, rfl, _, _, rfl, rfl, (by show (0 : Int) < 2147483647; decide), ?_⟩
        refine ⟨_, rfl, d, _, _, 0, rfl, rfl, hd2, ?_, ?_⟩
        · exact ixN0
        · rw [upd_upd]
          refine ⟨_, rfl, d, _, _, _, rfl, rfl, SqL.of upd_same, atz, _, _, rfl, rfl, ⟨by decide, by decide⟩, _, rfl, _, _, rfl, rfl, by omega, ?_⟩
          obtain ⟨r, hr1, hr2⟩ := modNat ((s2 * 48271 + 11) % 2147483647 / 64) h1
          replace k := k r ((s2 * 48271 + 11) % 2147483647) c2 bs2 hr1 hb2
          rw [← hr2] at k
          exact k
/-! ### _law_random -/
def spRandom (K : PySem.W.Frag) : Sp := fun vs H Q _ => ∃ (sc : Addr) (salt : Int) (ns : List Int), vs = [.ref sc, .int salt] ∧ SqL K H sc (ns.map V.int) ∧ ns.length ≤ 63 ∧
  ∀ (d : Addr) (H' : Hp), H d = none → Same H H' → DrawAt H' d → Q (.ref d) H'
abbrev raN : List Str := ["_law_script", "_law_salt", "_law_seed", "_law_cell"]
theorem sc_random : FnScope raN ["_law_script", "_law_salt"] (defScope s__law_random) := ⟨rfl, rfl, rfl, by decide +kernel, rfl, by decide +kernel, by decide +kernel⟩
theorem sqL_same {H H' : Hp} (s : Same H H') {a : Addr} {xs : List V} (h : SqL K H a xs) : SqL K H' a xs := h.elim (fun q => .inl (q.elim (fun z => .inl (s _ _ z)) fun ⟨o, z⟩ => .inr ⟨o, s _ _ z⟩)) .inr
theorem ok_random (T : LawT K mg) : FnE P w K mg base CX0 1 ("_law_random", none) ["_law_script", "_law_salt"] (spRandom K) := by
  obtain ⟨fd, F⟩ := T.random.d
  refine ⟨fd, F.ok sc_random (fun vs H Q E h => ?_) (fun cdv A outer s H vs Q E hr h => ?_), F.bindsN fun _ _ _ _ _ _ us hl => match us, hl with | [_, _], _ => rfl, F.kp⟩
  · obtain ⟨sc, salt, ns, rfl, _⟩ := h
    rfl
  · obtain ⟨sc, salt, ns, rfl, hs, hl, k⟩ := h
    refine ⟨_, PSs.nox (pss_cons (ps_set (i := 2) sc_random.nd rfl (.inl rfl) (pv 1))
      (pss_cons (ps_for PassesOwn.never rfl (pi_list (pv 0)) (pg_name (i := 3) sc_random.nd rfl (.inl rfl))
        (pss_one (ps_set (i := 2) sc_random.nd rfl (.inl rfl) (pe_op op_mod (pe_op op_add (pe_op op_mul (pv 2) pe_int) (pe_callB call_abs (by rfl) T.abs (by decide +kernel) (pa_cons (pv 3) pa_nil))) pe_int))))
      (pss_one (ps_ret (pe_op op_cat (pe_lst (pa_cons (pv 2) (pa_cons pe_int pa_nil)))
        (pe_lc (own := [("_law_cell", 3)]) (g := gName 3) (te := tVar 3) rfl sc_random.nd (pi_list (pv 0)) (blkOk_by (own := [("_law_cell", 3)]) (N := raN) (sc := defScope s__law_random) (by decide +kernel))
          (fun _ _ _ _ _ => pg_name (i := 3) sc_random.nd rfl (Or.inl rfl)) (fun _ _ _ _ _ => pts_one (pt_cmpR op_ge (pv 3) (pe_op op_pow pe_int pe_int) (nomark _))) (fun _ _ _ _ _ => pv 3))))))), ?_⟩
    refine ⟨_, rfl, ?_⟩
    refine ⟨_, rfl, sc, rfl, ⟨_, hs⟩, ?_⟩
    refine for_list (K := K) (a := sc) (xs := ns.map V.int) (fun i σ H2 => H2 = H ∧ ∃ (z : Int) (o : Option V), σ = [some (.ref sc), some (.int salt), some (.int z), o]) ⟨rfl, salt, none, rfl⟩ (fun i σ H2 _ h => by rw [h.1]; exact hs) ?_ ?_
    · rintro i x σ H2 hx ⟨rfl, z, o, rfl⟩
      rw [List.getElem?_map] at hx
      cases hn : ns[i]? with
      | none => rw [hn] at hx; cases hx
      | some m =>
        rw [hn] at hx
        cases hx
        exact ⟨_, rfl, _, _, rfl, rfl, .inr (by decide), _, rfl, _, rfl, _, _, rfl, rfl, _, _, rfl, rfl, (by show (0 : Int) < 2147483647; decide), rfl, _, _, rfl⟩
    · rintro σ H2 ⟨rfl, z, o, rfl⟩
      refine ⟨_, rfl, (by show 2 ≤ sizeLine; decide), fun l1 nl1 => ?_⟩
      have s1 := sameUpd (o := .lst [.int z, .int 0]) (Same.refl H2) nl1
      have hl1 := @upd_same H2 l1 (.lst [.int z, .int 0])
      generalize upd H2 l1 (.lst [.int z, .int 0]) = H3 at *
      refine ⟨_, rfl, sc, rfl, ⟨_, sqL_same s1 hs⟩, fun D nD => ?_⟩
      refine lc_list (K := K) (a := sc) (xs := ns.map V.int) (vs := [3]) (fun i H4 => ∃ bs : List Int, bs.length ≤ i ∧ H4 D = some (.lst (bs.map V.int)) ∧ Same H3 H4) ⟨[], Nat.le_refl _, upd_same, sameUpd (Same.refl H3) nD⟩ (fun i H4 _ ⟨_, _, _, sm⟩ => sqL_same sm (sqL_same s1 hs)) ?_ ?_
      · rintro i x H4 hx ⟨bs, hb, hD, sm⟩
        rw [List.getElem?_map] at hx
        cases hn : ns[i]? with
        | none => rw [hn] at hx; cases hx
        | some m =>
          rw [hn] at hx
          cases hx
          have hi : i < ns.length := (List.getElem?_eq_some_iff.mp hn).1
          refine ⟨rfl, _, rfl, _, _, rfl, rfl, ⟨by decide, by decide, by decide⟩, _, _, rfl, rfl, _, rfl, ?_⟩
          refine ite2 (fun h => ?_) (fun h => ?_)
          · refine ⟨_, rfl, _, hD, ?_, bs ++ [m], by simp; omega, ?_, sameUpd sm nD⟩
            · rw [List.length_map, sizeLine_eq]
              omega
            · rw [upd_same, List.map_append]
              rfl
          · exact ⟨bs, by omega, hD, sm⟩
      · rintro H4 ⟨bs, hb, hD, sm⟩
        rw [List.length_map] at hb
        refine ⟨l1, D, _, _, rfl, rfl, sm _ _ hl1, hD, ?_, fun d nd => ?_⟩
        · rw [List.length_map, sizeLine_eq]
          simp
          omega
        · have s4 := sameUpd (o := .lst ([.int z, .int 0] ++ bs.map V.int)) (Same.refl H4) nd
          exact k d _ ((s1.trans sm).free nd) ((s1.trans sm).trans s4) ⟨z, 0, bs, by omega, upd_same⟩
end
theorem Drawn.put {d : Addr} {H H' : Hp} {x : Addr} {o : HO} (h : Drawn d H H') (hx : H x = none) (nd : x ≠ d) : Drawn d H (upd H' x o) :=
  ⟨fun b u hb e => by
    rw [upd_ne (ne_of_none e hx)]
    exact h.same b u hb e, let ⟨s, c, bs, hl, e⟩ := h.at_; ⟨s, c, bs, hl, (upd_ne (Ne.symm nd)).trans e⟩⟩
theorem Drawn.draw {d : Addr} {H H' : Hp} {s c : Int} {bs : List Int} (h : Drawn d H H') (hl : bs.length ≤ 63) : Drawn d H (upd H' d (drawL s c bs)) :=
  ⟨fun b u hb e => by
    rw [upd_ne hb]
    exact h.same b u hb e, ⟨s, c, bs, hl, upd_same⟩⟩
end Sw

end

section
set_option maxRecDepth 100000
set_option maxHeartbeats 4000000
/-! the law's own: a plan -/
namespace Sw
open PySem PySem.Spec PyProof.Rows L2 SwA
/-- the law's tuple of a plan -/
def PlanV (H : Hp) (a : Addr) (pl : Plan) : Prop := ∃ (sa ma fa ra rd : Addr) (ras : List Addr), H a = some (.tup [.ref sa, .ref ma, .ref fa, .ref ra, .ref rd]) ∧ TupN H sa (pl.signs.map sV) ∧ TupN H ma (pl.moods.map sV) ∧
  H fa = some (.tup (pl.floor.map fun n : Nat => V.int n)) ∧ H ra = some (.tup (ras.map V.ref)) ∧ Paired (RobAt H) ras pl.robots ∧ RulesAt H rd pl.rules
theorem perm_ex {ys zs : List V} (h : ys.Perm zs) : ∀ {base : List Cs}, zs = base.map sV → ∃ bs : List Cs, bs.Perm base ∧ ys = bs.map sV := by
  induction h with
  | nil =>
    intro base e
    cases base with
    | nil => exact ⟨[], .refl _, rfl⟩
    | cons _ _ => cases e
  | @cons x l1 l2 _ ih =>
    intro base e
    cases base with
    | nil => cases e
    | cons b base =>
      injection e with e1 e2
      obtain ⟨bs, p, q⟩ := ih e2
      exact ⟨b :: bs, p.cons b, by rw [e1, q]; rfl⟩
  | @swap x y l =>
    intro base e
    cases base with
    | nil => cases e
    | cons b base =>
      cases base with
      | nil => cases e
      | cons c base =>
        injection e with e1 e2
        injection e2 with e3 e4
        exact ⟨c :: b :: base, .swap b c base, by rw [e1, e3, e4]; rfl⟩
  | @trans l1 l2 l3 _ _ ih1 ih2 =>
    intro base e
    obtain ⟨b2, p2, q2⟩ := ih2 e
    obtain ⟨b1, p1, q1⟩ := ih1 q2
    exact ⟨b1, p1.trans p2, q1⟩
def sBase : List Cs := [txt "no", txt "red", txt "blue", txt "longname", txt "x"]
def mBase : List Cs := [txt "go", txt "calm", txt "red", txt "b", txt "cc", txt "mmmmmmmm", txt "z"]
theorem base_ok {base : List Cs} (h : (base.all fun w => w.all isL && (decide (1 ≤ w.length) && (decide (w.length ≤ 8) && !decide (w ∈ kws)))) = true) (hn : base.Nodup) {bs : List Cs} (hp : bs.Perm base) (n : Nat) : NamesOk (bs.take n) := by
  refine ⟨((hp.nodup_iff).mpr hn).sublist (List.take_sublist n bs), fun w hw => ?_⟩
  have hm : w ∈ base := hp.mem_iff.mp (List.mem_of_mem_take hw)
  have := List.all_eq_true.mp h w hm
  simp only [Bool.and_eq_true, decide_eq_true_eq, List.all_eq_true, Bool.not_eq_true', decide_eq_false_iff_not] at this
  exact ⟨⟨this.1, this.2.1, this.2.2.1⟩, this.2.2.2⟩
theorem cut_take {xs : List V} {n : Nat} (h : n ≤ xs.length) : cutV xs none (some (n : Int)) = xs.take n := by
  show (xs.drop (HT.sIx xs.length 0 none)).take (HT.sIx xs.length xs.length (some (n : Int)) - HT.sIx xs.length 0 none) = xs.take n
  rw [HT.sIx_none, HT.sIx_nat, Nat.min_eq_left h]
  rfl
theorem cutS {Hb H : Hp} {l : List Addr} {x : Addr} {o : HO} (s : Same (cutH Hb l) H) (h : x ∈ l) : Same (cutH Hb l) (upd H x o) := sameUpd s (cutH_in h)
theorem cutN {Hb H : Hp} {l : List Addr} {x : Addr} {o : HO} (s : Same (cutH Hb l) H) (h : H x = none) : Same (cutH Hb l) (upd H x o) := sameUpd s (s.free h)
section
variable {P : Program} {w : World} {K : PySem.W.Frag} {mg : Str → Option Value} {base : Heap}
/-- the keys in order -/
def SortedR (rules : List ((Nat × Nat) × Rule)) : Prop := (rules.map (·.1)).Pairwise fun a b => a.1 < b.1 ∨ (a.1 = b.1 ∧ a.2 < b.2)
end
end Sw

end

section
set_option maxRecDepth 100000
set_option maxHeartbeats 4000000
/-! sorted(d) of a dict whose keys are pairs of ints -/
namespace Sw
open PySem PySem.Spec PyProof.Rows L2 SwA
def PairAt (H : Hp) (b : Addr) (k : Nat × Nat) : Prop := H b = some (.tup [.int k.1, .int k.2])
def LeP (a b : Nat × Nat) : Prop := a.1 < b.1 ∨ (a.1 = b.1 ∧ a.2 ≤ b.2)
def rSortedDT : List V → Hp → VK → Prop := fun vs H Q => ∃ (d : Addr) (kvs : List (List Key × V)) (ks : List (Nat × Nat)), vs = [.ref d] ∧ Rd H d (.dT kvs) ∧ kvs.map (·.1) = ks.map keyT ∧
  ∀ (ys : List (Nat × Nat)) (bs : List Addr) (p : Addr), ys.Perm ks → ys.Pairwise LeP → Paired (PairAt H) bs ys → H p = none → Q (.ref p) (upd H p (.lst (bs.map V.ref)))
/-- what a value is to the order -/
def kOf (H : Hp) : Value → Int × Int
  | .ref t => match H t with
    | some (.tup [.int i, .int j]) => (i, j)
    | _ => (0, 0)
  | _ => (0, 0)
theorem kOf_at {H : Hp} {b : Addr} {k : Nat × Nat} (h : PairAt H b k) : kOf H (Value.ref b) = ((k.1 : Int), (k.2 : Int)) := by
  simp only [kOf, show H b = some (.tup [.int k.1, .int k.2]) from h]
theorem pairedL {α β : Type} {R : α → β → Prop} : ∀ {xs : List α} {ys : List β}, Paired R xs ys → ∀ {j : Nat} {x : α}, xs[j]? = some x → ∃ y, ys[j]? = some y ∧ R x y
  | _, _, .nil, _, _, h => by cases h
  | _, _, .cons r t, 0, _, h => by cases h; exact ⟨_, rfl, r⟩
  | _, _, .cons r t, j + 1, _, h => pairedL t (j := j) (by simpa using h)
theorem pairedR {α β : Type} {R : α → β → Prop} : ∀ {xs : List α} {ys : List β}, Paired R xs ys → ∀ {j : Nat} {y : β}, ys[j]? = some y → ∃ x, xs[j]? = some x ∧ R x y
  | _, _, .nil, _, _, h => by cases h
  | _, _, .cons r t, 0, _, h => by cases h; exact ⟨_, rfl, r⟩
  | _, _, .cons r t, j + 1, _, h => pairedR t (j := j) (by simpa using h)
theorem isKeys_pairs {H : Hp} : ∀ {kvs : List (List Key × V)} {bs : List Addr} {ks : List (Nat × Nat)}, IsKeys H kvs bs → kvs.map (·.1) = ks.map keyT → Paired (PairAt H) bs ks
  | _, _, [], .nil, _ => .nil
  | _, _, [], .cons _ _, e => by cases e
  | _, _, k :: ks, .nil, e => by cases e
  | _, _, k :: ks, .cons h t, e => by
    rw [List.map_cons, List.map_cons] at e
    injection e with e1 e2
    refine .cons ?_ (isKeys_pairs t e2)
    unfold PairAt
    rw [h, e1]
    rfl
theorem paired_perm {α β : Type} {R : α → β → Prop} {xs xs' : List α} (hp : xs'.Perm xs) : ∀ {ys : List β}, Paired R xs ys → ∃ ys', ys'.Perm ys ∧ Paired R xs' ys' := by
  induction hp with
  | nil => intro ys h; exact ⟨ys, .refl _, h⟩
  | @cons x l1 l2 _ ih =>
    intro ys h
    cases h with
    | cons r t =>
      obtain ⟨ys', p, q⟩ := ih t
      exact ⟨_ :: ys', p.cons _, .cons r q⟩
  | @swap x y l =>
    intro ys h
    cases h with
    | cons r t =>
      cases t with
      | cons r2 t2 => exact ⟨_, .swap _ _ _, .cons r2 (.cons r t2)⟩
  | @trans l1 l2 l3 _ _ ih1 ih2 =>
    intro ys h
    obtain ⟨y2, p2, q2⟩ := ih2 h
    obtain ⟨y1, p1, q1⟩ := ih1 q2
    exact ⟨y1, p1.trans p2, q1⟩
theorem pairs_sorted {H : Hp} : ∀ {bs : List Addr} {ys : List (Nat × Nat)}, Paired (PairAt H) bs ys → SrtO.Srtd (fun v u => SrtO.lexB (kOf H v) (kOf H u)) (bs.map Value.ref) → ys.Pairwise LeP
  | [], [], _, _ => .nil
  | b :: bs, y :: ys, .cons h t, hs => by
    obtain ⟨h1, h2⟩ := List.pairwise_cons.mp hs
    refine .cons (fun z hz => ?_) (pairs_sorted t h2)
    obtain ⟨j, hj⟩ := List.getElem?_of_mem hz
    obtain ⟨b2, hb2, hP⟩ := pairedR t hj
    have h3 := h1 (Value.ref b2) (List.mem_map.mpr ⟨b2, List.mem_of_getElem? hb2, rfl⟩)
    have e1 := kOf_at h
    have e2 := kOf_at hP
    simp only [e1, e2] at h3
    have h4 := SrtO.lexB_no.mp h3
    simp only at h4
    unfold LeP
    omega
theorem cr_sortedDT {X : Cx} (hc : X.calm = true) : CallR X (.builtin "sorted") rSortedDT := by
  intro pins s σ H xs us Q I r h
  obtain ⟨d, kvs, kks, rfl, hd, hkk, q⟩ := h
  obtain ⟨u, rfl, rx⟩ := r.one
  cases rx
  obtain ⟨z, hs, ks, pr, o, es, ep, ho, hx, hdt, he, hn⟩ := (show ObjOk X.prog X.w H s.heap d (.dT kvs) from hd.ok I.hok)
  have l1 : es.size = ks.length := size_of_entries he
  have l2 : kvs.length = ks.length := Paired.length pr
  refine Calls.call_function_entry PyProof.Rows.kind_sorted PyProof.Rows.plain_sorted PyProof.Rows.entry_sorted (PyProof.Rows.args_sorted1 _) ?_
  unfold Builtin.«sorted»
  refine wpAny_bind (m := checkCount "sorted" 1 1 _) (wpAny_pure ?_)
  refine wpAny_bind (PySem.W.kdu_collect (A := X.A.in1) (kdl_raw hs hx hdt) (I.ok.hd hc) ho (by omega) fun h' tk acc hk it => ?_)
  have ea : acc.toList = ks.map fun x => Value.ref x.2.1 := by
    have hl : acc.toList.length = ks.length := by rw [Array.length_toList, it.1]; exact l1
    apply List.ext_getElem?
    intro j
    rw [List.getElem?_map]
    cases hj : acc.toList[j]? with
    | none =>
      have h1 := List.getElem?_eq_none_iff.mp hj
      rw [List.getElem?_eq_none (by omega)]
      all_goals rfl
    | some v =>
      obtain ⟨en, hen, hv⟩ := it.2 j v (by rw [← Array.getElem?_toList]; exact hj)
      have qe := entry_at he j
      rw [hen] at qe
      cases hb : ks[j]? with
      | none =>
        rw [hb] at qe
        exact nomatch (show some en = none from qe)
      | some b =>
        rw [hb] at qe
        have e2 : en = entryOfKey (tupleKind (mixKind X.prog X.w)) b := Option.some.inj qe
        rw [hv, e2]
        all_goals rfl
  have eb : acc.toList = (ks.map fun x => x.2.1).map Value.ref := by rw [ea, List.map_map]; all_goals rfl
  have hP := isKeys_pairs (isKeys_of pr) hkk
  generalize (ks.map fun x => x.2.1) = bs0 at eb hP
  have hbl : bs0.length = ks.length := by
    have e := congrArg List.length eb
    rw [List.length_map, Array.length_toList, it.1] at e
    omega
  rw [eb]
  have hzz : (bs0.map Value.ref).length ≤ sizeLine := by rw [List.length_map]; omega
  have I1 : Inv X pins σ H { s with heap := h', toks := tk } := I.kept hk
  refine wpAny_bind (wpAny_newList ?_ hzz)
  have hoL : (h'.push (seqObj "list" (bs0.map Value.ref).toArray 0)).get? h'.objs.size = some (seqObj "list" (bs0.map Value.ref).toArray 0) := Heap.get?_push_size _ rfl
  show wpAny _ _ _ _ _ { s with heap := h'.push (seqObj "list" (bs0.map Value.ref).toArray 0), toks := tk }
  refine wpAny_bind (wpAny_holding (wpAny_call_entry PyProof.Rows.slot_list_sort ⟨_, hoL, rfl⟩ PyProof.Rows.entry_list_sort
    (SrtO.list_sort_ord (s := { s with heap := h'.push (seqObj "list" (bs0.map Value.ref).toArray 0), toks := tk }) (SrtO.swo_lex (kOf H)) hoL hzz (fun h2 => SrtO.pairs_sortableO (by omega) (fun v hv => ?_) (fun o e => ?_)) fun out hs2 hb2 => ⟨_, rfl, ?_⟩)
    (PyProof.Rows.args_list_sort _)))
  · obtain ⟨b, hb, rfl⟩ := List.mem_map.mp hv
    obtain ⟨j, hj⟩ := List.getElem?_of_mem hb
    obtain ⟨k, _, hk2⟩ := pairedL hP hj
    have e1 := kOf_at hk2
    rw [e1]
    obtain ⟨_, its2, r2, o2, ho2, hc2, n2, hd2⟩ := I1.hok _ _ hk2
    obtain ⟨u1, u2, rfl, ri, rj⟩ := vals2 r2
    obtain ⟨t1, rfl⟩ := ri
    obtain ⟨t2, rfl⟩ := rj
    exact ⟨b, o2, t1, t2, n2, rfl, Heap.get?_push_of_some _ ho2, hc2, hd2⟩
  · have e' : some o = some (seqObj "list" (bs0.map Value.ref).toArray 0) := e.symm.trans hoL
    cases e'
    intro c
    exact absurd (Value.type.inj c) (by decide)
  · obtain ⟨e', he'⟩ := PyProof.Rows.sortedHeap_at (vs := bs0.map Value.ref) (out := out.toArray) hoL
    have h3 : ∀ u ∈ out, ∃ a, u = Value.ref a := fun u hu => by
      obtain ⟨b, _, e⟩ := List.mem_map.mp (hb2.perm.mem_iff.mp hu)
      exact ⟨b, e.symm⟩
    obtain ⟨bs, rfl⟩ : ∃ bs : List Addr, out = bs.map Value.ref := by
      clear hs2 hb2 he'
      induction out with
      | nil => exact ⟨[], rfl⟩
      | cons u out ih =>
        obtain ⟨a, rfl⟩ := h3 u List.mem_cons_self
        obtain ⟨bs, rfl⟩ := ih fun v hv => h3 v (List.mem_cons_of_mem _ hv)
        exact ⟨a :: bs, rfl⟩
    have hperm : bs.Perm bs0 := by
      have := hb2.perm.map (fun v : Value => match v with | .ref a => a | _ => 0)
      simpa [List.map_map, Function.comp_def] using this
    obtain ⟨ys, hyp, hyP⟩ := paired_perm hperm hP
    have hlen : (bs.map V.ref).length ≤ sizeLine := by
      rw [List.length_map, hperm.length_eq]
      omega
    refine wpAny_pure ⟨_, rfl, .ref h'.objs.size, upd H h'.objs.size (.lst (bs.map V.ref)), I1.laid (t' := tk) (fun b u e => ?_) (Nat.le_refl _)
      (show ObjOk X.prog X.w _ _ _ (.lst (bs.map V.ref)) from ⟨hlen, bs.map Value.ref, e', vals_refs _, he'⟩), rfl, q ys bs _ hyp (pairs_sorted hyP hs2) hyP (I1.hok.fresh (Nat.le_refl _))⟩
    have hb : b < h'.objs.size := Heap.lt_size e
    rw [PyProof.Rows.sortedHeap_old (Nat.ne_of_lt hb) (by rw [size_push']; exact Nat.lt_succ_of_lt hb)]
    exact Heap.get?_push_of_some _ e
end Sw

end

section
set_option maxRecDepth 100000
set_option maxHeartbeats 4000000
/-! the law's own: the lines of a plan -/
namespace Sw
open PySem PySem.Spec PyProof.Rows L2 SwA
theorem sx_app (a b : Cs) : sx a ++ sx b = sx (a ++ b) := by
  have e : (sx a).cps ++ (sx b).cps = (sx (a ++ b)).cps := by simp [sx]
  exact congrArg Str.mk e
theorem sx_len (a : Cs) : (sx a).length = a.length := by simp [sx, Str.length]
theorem words_join : ∀ ws : List Cs, wordsOf ws = TL.joinL [32] ws
  | [] => rfl
  | [w] => rfl
  | w :: v :: r => by
    show w ++ 32 :: wordsOf (v :: r) = w ++ ([32] ++ TL.joinL [32] (v :: r))
    rw [words_join (v :: r)]
    rfl
theorem join_sx (a : Cs) (ys : List Cs) : Txt.join (sx a) (ys.map sx) = sx (TL.joinL a ys) := SX.join_S a ys
theorem str_dec {n : Nat} (h : n < 100) : (toString (n : Int) : Str) = sx (dec n) := by
  have : ∀ m < 100, (toString ((m : Nat) : Int) : Str) = sx (dec m) := by decide +kernel
  exact this n h
theorem log_small {n : Nat} (h : n < 100) : ((n : Nat) : Int).natAbs.log2 < 1920 := by
  rw [Int.natAbs_natCast]
  by_cases h0 : n = 0
  · subst h0; decide
  · have : n.log2 < 7 := (Nat.log2_lt h0).mpr (by omega)
    omega
theorem joinL_len (S : Cs) : ∀ ws : List Cs, (TL.joinL S ws).length ≤ (ws.map (·.length)).sum + ws.length * S.length
  | [] => by simp [TL.joinL]
  | [w] => by simp [TL.joinL]
  | w :: v :: r => by
    have ih := joinL_len S (v :: r)
    show (w ++ (S ++ TL.joinL S (v :: r))).length ≤ _
    rw [List.length_append, List.length_append]
    rw [List.map_cons, List.sum_cons, List.length_cons (a := w), Nat.add_mul, Nat.one_mul]
    omega
theorem sum_le {ws : List Cs} {b : Nat} (h : ∀ w ∈ ws, w.length ≤ b) : (ws.map (·.length)).sum ≤ ws.length * b := by
  induction ws with
  | nil => simp
  | cons w r ih =>
    have h1 := h w List.mem_cons_self
    have h2 := ih fun v hv => h v (List.mem_cons_of_mem _ hv)
    rw [List.map_cons, List.sum_cons, List.length_cons, Nat.add_mul, Nat.one_mul]
    omega
theorem lens_sx (ws : List Cs) : ((ws.map sx).map (·.length)) = ws.map (·.length) := by
  rw [List.map_map]
  exact List.map_congr_left fun w _ => sx_len w
theorem names_len {ws : List Cs} (h : NamesOk ws) : ∀ w ∈ ws, w.length ≤ 8 := fun w hw => (h.ok w hw).1.2.2
theorem dec_len (n : Nat) : (dec n).length ≤ 2 := by unfold dec; split <;> simp
abbrev lnV (ws : List Cs) : V := sV (lineOf ws)
theorem map_sV (ws : List Cs) : ws.map sV = (ws.map sx).map V.str := by rw [List.map_map]; rfl
theorem lenS {a b : Cs} (hl : a.length + b.length ≤ 10000) : (sx a).length + (sx b).length ≤ sizeLine := by rw [sx_len, sx_len, sizeLine_eq]; omega
theorem lenJ {a : Cs} {ys : List Cs} (hl : (ys.map (·.length)).sum + ys.length * a.length ≤ 100000) : ((ys.map sx).map (·.length)).sum + (ys.map sx).length * (sx a).length ≤ 16777216 := by rw [lens_sx, List.length_map, sx_len]; omega
theorem sqJ {K : PySem.W.Frag} {H : Hp} {p : Addr} {ys : List Cs} (h : SqL K H p (ys.map sV) ∨ SqT K H p (ys.map sV)) : SqL K H p ((ys.map sx).map V.str) ∨ SqT K H p ((ys.map sx).map V.str) := by rw [← map_sV]; exact h
theorem LeP.antisymm {a b : Nat × Nat} (h1 : LeP a b) (h2 : LeP b a) : a = b := by
  unfold LeP at h1 h2
  exact Prod.ext (by omega) (by omega)
theorem perm_sorted : ∀ {ys ks : List (Nat × Nat)}, ys.Perm ks → ys.Pairwise LeP → ks.Pairwise LeP → ys = ks
  | [], ks, hp, _, _ => (List.nil_perm.mp hp).symm
  | y :: ys, [], hp, _, _ => absurd (List.perm_nil.mp hp) (by simp)
  | y :: ys, k :: ks, hp, h1, h2 => by
    obtain ⟨a1, a2⟩ := List.pairwise_cons.mp h1
    obtain ⟨b1, b2⟩ := List.pairwise_cons.mp h2
    have e : y = k := by
      rcases List.mem_cons.mp (hp.mem_iff.mp List.mem_cons_self) with z | z
      · exact z
      · rcases List.mem_cons.mp (hp.mem_iff.mpr (List.mem_cons_self (a := k) (l := ks))) with q | q
        · exact q.symm
        · exact LeP.antisymm (a1 k q) (b1 y z)
    subst e
    rw [perm_sorted (hp.cons_inv) a2 b2]
theorem SortedR.le {rules : List ((Nat × Nat) × Rule)} (h : SortedR rules) : (rules.map (·.1)).Pairwise LeP := List.Pairwise.imp (fun {a b} q => by unfold LeP; omega) h
theorem head_lines {n : Nat} {signs moods : List Cs} (h1 : signs ≠ []) (h2 : moods ≠ []) :
    [V.str (sx (wCorridor ++ [32] ++ dec n ++ [59])), V.str (sx (wSigns ++ [32] ++ TL.joinL [32] signs ++ [59])), V.str (sx (wMoods ++ [32] ++ TL.joinL [32] moods ++ [59]))] = (headW n signs moods).map lnV := by
  obtain ⟨s0, sr, rfl⟩ := List.exists_cons_of_ne_nil h1
  obtain ⟨m0, mr, rfl⟩ := List.exists_cons_of_ne_nil h2
  show _ = [lnV [wCorridor, dec n], lnV (wSigns :: s0 :: sr), lnV (wMoods :: m0 :: mr)]
  unfold lnV lineOf
  rw [words_join, words_join, words_join]
  simp [TL.joinL]
theorem put_range {floor : List Nat} {i : Nat} : (List.range (i + 1)).filterMap (fun t => if 0 < floor.getD t 0 then some (t, floor.getD t 0) else none) = (List.range i).filterMap (fun t => if 0 < floor.getD t 0 then some (t, floor.getD t 0) else none) ++ (if 0 < floor.getD i 0 then [(i, floor.getD i 0)] else []) := by
  rw [List.range_succ, List.filterMap_append]
  congr 1
  by_cases h : 0 < floor.getD i 0
  · simp only [List.filterMap_cons, List.filterMap_nil, if_pos h]
  · simp only [List.filterMap_cons, List.filterMap_nil, if_neg h]
theorem snoc_ln {A B : List (List Cs)} {x : List Cs} {v : V} (h : lnV x = v) : (A ++ B).map lnV ++ [v] = (A ++ (B ++ [x])).map lnV := by
  rw [← h]
  simp
theorem snoc_lf {α : Type} {A : List (List Cs)} {L : List α} {f : α → List Cs} {q : α} {v : V} (h : lnV (f q) = v) : (A ++ L.map f).map lnV ++ [v] = (A ++ (L ++ [q]).map f).map lnV := by
  rw [← h]
  simp
theorem inc_len {n : Nat} : ∀ {l : List Nat} {lo : Nat}, l.Pairwise (· < ·) → (∀ x ∈ l, lo ≤ x ∧ x < n) → l.length ≤ n - lo
  | [], _, _, _ => Nat.zero_le _
  | x :: r, lo, hp, h => by
    obtain ⟨h1, h2⟩ := List.pairwise_cons.mp hp
    have hx := h x List.mem_cons_self
    have ih := inc_len (lo := x + 1) h2 fun y hy => ⟨h1 y hy, (h y (List.mem_cons_of_mem _ hy)).2⟩
    rw [List.length_cons]
    omega
theorem rules_few {pl : Plan} (wf : WfP pl) (so : SortedR pl.rules) : pl.rules.length ≤ 24 := by
  have h4 := wf.s4
  have h6 := wf.m6
  have := inc_len (n := 24) (lo := 0) (l := pl.rules.map fun kv => kv.1.1 * 4 + kv.1.2) ?_ ?_
  · rw [List.length_map] at this
    exact this
  · rw [List.pairwise_map]
    unfold SortedR at so
    rw [List.pairwise_map] at so
    refine List.Pairwise.imp_of_mem (fun {a b} ha hb q => ?_) so
    have := (wf.ru a ha).k2
    have := (wf.ru b hb).k2
    omega
  · intro x hx
    obtain ⟨kv, hk, rfl⟩ := List.mem_map.mp hx
    have := (wf.ru kv hk).k2
    have := (wf.ru kv hk).k1
    omega
theorem rules_keys {H : Hp} : ∀ {rs : List ((Nat × Nat) × Rule)} {kvs : List (List Key × V)}, Paired (RuleAt H) rs kvs → kvs.map (·.1) = (rs.map (·.1)).map keyT
  | _, _, .nil => rfl
  | _, _, .cons h t => by rw [List.map_cons, List.map_cons, List.map_cons, rules_keys t, h.1]
theorem nm_get {ws : List Cs} {g : Nat} (h : g < ws.length) : (ws.map sV)[g]? = some (sV (ws.getD g [])) := by
  rw [List.getElem?_map, List.getD_eq_getElem?_getD, List.getElem?_eq_getElem h]
  rfl
theorem line_len {pl : Plan} (wf : WfP pl) : ∀ ws ∈ linesW pl, (lineOf ws).length ≤ 100 := by
  have key : ∀ (ws : List Cs), ws.length ≤ 7 → (∀ w ∈ ws, w.length ≤ 8) → (lineOf ws).length ≤ 100 := by
    intro ws h7 h8
    have h1 := joinL_len [32] ws
    have h2 := sum_le h8
    have h3 : ws.length * 8 ≤ 7 * 8 := Nat.mul_le_mul_right 8 h7
    simp only [List.length_singleton, Nat.mul_one] at h1
    unfold lineOf
    rw [words_join, List.length_append, List.length_singleton]
    omega
  have h4 := wf.s4
  have h6 := wf.m6
  intro ws hws
  rcases List.mem_append.mp hws with h | h
  · simp only [headW, List.mem_cons, List.not_mem_nil, or_false] at h
    rcases h with z | z | z <;> rw [z]
    · refine key _ (by simp) fun w hw => ?_
      simp only [List.mem_cons, List.not_mem_nil, or_false] at hw
      rcases hw with q | q <;> rw [q]
      · decide
      · exact Nat.le_trans (dec_len _) (by decide)
    · refine key _ (by simp; omega) fun w hw => ?_
      rcases List.mem_cons.mp hw with q | q
      · rw [q]; decide
      · exact names_len wf.sN w q
    · refine key _ (by simp; omega) fun w hw => ?_
      rcases List.mem_cons.mp hw with q | q
      · rw [q]; decide
      · exact names_len wf.mN w q
  · obtain ⟨st, hst, rfl⟩ := List.mem_map.mp h
    obtain ⟨_, hw⟩ := stm_words wf st hst
    refine key _ (by cases st <;> simp [stmW]) fun w hw2 => ?_
    rcases hw w hw2 with q | q
    · exact q.2.2
    · exact Nat.le_trans q.2.2.1 (by decide)
theorem lines_few {pl : Plan} (wf : WfP pl) (so : SortedR pl.rules) : (linesW pl).length ≤ 50 := by
  have h1 := rules_few wf so
  have h2 := List.length_filterMap_le (fun t => if 0 < pl.floor.getD t 0 then some (t, pl.floor.getD t 0) else none) (List.range pl.floor.length)
  rw [List.length_range] at h2
  have h3 := wf.r3
  have h4 := wf.n16
  unfold linesW stmsOf putsL
  simp only [List.length_append, List.length_map, headW, List.length_cons, List.length_nil]
  omega
theorem text_len {pl : Plan} (wf : WfP pl) (so : SortedR pl.rules) : (((linesW pl).map lineOf).map (·.length)).sum + (linesW pl).length ≤ 5100 ∧ (textOf pl).length ≤ 6000 := by
  have h1 : (((linesW pl).map lineOf).map (·.length)).sum ≤ ((linesW pl).map lineOf).length * 100 := sum_le fun w hw => by
    obtain ⟨ws, h, rfl⟩ := List.mem_map.mp hw
    exact line_len wf ws h
  have h2 := lines_few wf so
  have h3 := joinL_len [10] ((linesW pl).map lineOf)
  rw [List.length_map] at h1 h3
  simp only [List.length_singleton] at h3
  unfold textOf
  omega
end Sw

end

section
set_option maxRecDepth 100000
set_option maxHeartbeats 4000000
/-! data: what may be compared -/
namespace Sw
open PySem PySem.Spec PyProof.Rows L2 SwA
def ShD (n : Nat) (d : PyData) : Prop := d.canLay0 = true ∧ d.depth ≤ n
theorem ShD.mono {n m : Nat} {d : PyData} (h : ShD n d) (hl : n ≤ m) : ShD m d := ⟨h.1, Nat.le_trans h.2 hl⟩
theorem shd_all {n : Nat} : ∀ {ds : List PyData}, (∀ d ∈ ds, ShD n d) → PyData.canLayAll0 ds = true ∧ PyData.depthAll ds ≤ n
  | [], _ => ⟨rfl, by simp [PyData.depthAll]⟩
  | d :: ds, h => by
    have h1 := h d List.mem_cons_self
    have h2 := shd_all (ds := ds) fun x hx => h x (List.mem_cons_of_mem _ hx)
    refine ⟨?_, ?_⟩
    · rw [PyData.canLayAll0, h1.1, h2.1]; rfl
    · rw [PyData.depthAll]
      have := h1.2
      have := h2.2
      omega
theorem shd_list {n : Nat} {ds : List PyData} (h : ∀ d ∈ ds, ShD n d) : ShD (n + 1) (.list ds) := by
  have h2 := shd_all h
  refine ⟨by rw [PyData.canLay0]; exact h2.1, ?_⟩
  rw [PyData.depth]
  have := h2.2
  omega
theorem shd_tuple {n : Nat} {ds : List PyData} (h : ∀ d ∈ ds, ShD n d) : ShD (n + 1) (.tuple ds) := by
  have h2 := shd_all h
  refine ⟨by rw [PyData.canLay0]; exact h2.1, ?_⟩
  rw [PyData.depth]
  have := h2.2
  omega
theorem shd_int (i : Int) : ShD 1 (.int i) := ⟨by rw [PyData.canLay0], by rw [PyData.depth]; decide⟩
theorem shd_bool (i : Bool) : ShD 1 (.bool i) := ⟨by rw [PyData.canLay0], by rw [PyData.depth]; decide⟩
theorem shd_none : ShD 1 .none := ⟨by rw [PyData.canLay0], by rw [PyData.depth]; decide⟩
theorem shd_str {x : Str} (h : x.cps.all (· < 0x110000) = true) : ShD 1 (.str x) := ⟨by rw [PyData.canLay0]; exact h, by rw [PyData.depth]; decide⟩
theorem shd_sx {cs : Cs} (h : ∀ c ∈ cs, c < 0x110000) : ShD 1 (.str (sx cs)) := shd_str (by
  rw [← Array.all_toList]
  simpa [sx] using h)
theorem shd_nm {cs : Cs} (h : ∀ c ∈ cs, isL c = true) : ShD 1 (.str (sx cs)) := shd_sx fun c hc => by
  have := h c hc
  unfold isL at this
  rw [Bool.and_eq_true, Nat.ble_eq, Nat.ble_eq] at this
  omega
theorem ShD.shaped {n : Nat} {d : PyData} (h : ShD n d) (hn : n ≤ 64) : SeqAt.shaped d = true := Bool.and_eq_true_iff.mpr ⟨h.1, decide_eq_true (Nat.le_trans h.2 hn)⟩
theorem ShD.eqv {n : Nat} {d : PyData} (h : ShD n d) : PyData.eqv d d = true := SeqAt.eqv_refl _ h.1
end Sw

end

section
set_option maxRecDepth 100000
set_option maxHeartbeats 4000000
/-! what operations give back, as data; a corridor of a plan's text -/
namespace Sw
open PySem PySem.Spec PyProof.Rows L2 SwA
/-- what an operation gives back, as data -/
def resD (pln : Plan) (c : CSt) : Op → PyData
  | .step k => .list ((stepsM pln.rules c.now.st c.now.sums (natV k)).1.map fun l => .list (l.map fun n : Nat => .int n))
  | .put k _ => .str (sx (pln.signs.getD (c.now.st.floor.getD (natV k) 0) []))
  | .turn k => .int (c.now.st.robots.getD (natV k) (0, true, 0)).1
  | .undo => .bool (!decide (c.past = []))
  | .redo => .bool (!decide (c.undone = []))
theorem getD_nm {signs : List Cs} (h : NamesOk signs) (i : Nat) : ∀ ch ∈ signs.getD i [], isL ch = true := by
  intro ch hc
  by_cases hi : i < signs.length
  · have e : signs.getD i [] = signs[i] := by simp [List.getD_eq_getElem?_getD, List.getElem?_eq_getElem hi]
    rw [e] at hc
    exact (h.ok _ (List.getElem_mem hi)).1.1 ch hc
  · have e : signs.getD i [] = [] := by simp [List.getD_eq_getElem?_getD, List.getElem?_eq_none (by omega : signs.length ≤ i)]
    rw [e] at hc
    cases hc
theorem resD_sh {pln : Plan} (h : NamesOk pln.signs) (c : CSt) : ∀ op, ShD 3 (resD pln c op)
  | .step k => shd_list fun d hd => by
    obtain ⟨l, _, rfl⟩ := List.mem_map.mp hd
    exact shd_list fun e he => by
      obtain ⟨n, _, rfl⟩ := List.mem_map.mp he
      exact shd_int _
  | .put k _ => (shd_nm (getD_nm h _)).mono (by decide)
  | .turn k => (shd_int _).mono (by decide)
  | .undo => (shd_bool _).mono (by decide)
  | .redo => (shd_bool _).mono (by decide)
theorem dp_iV {K : PySem.W.Frag} {H : Hp} : ∀ l : List Nat, DpAll K H (l.map iV) (l.map fun n : Nat => PyData.int n)
  | [] => .nil
  | n :: l => .cons (.int _) (dp_iV l)
theorem dp_rows {K : PySem.W.Frag} {H : Hp} : ∀ {fs : List Addr} {ls : List (List Nat)}, Paired (LsAt H) fs ls → DpAll K H (fs.map V.ref) (ls.map fun l => PyData.list (l.map fun n : Nat => PyData.int n))
  | _, _, .nil => .nil
  | _, _, .cons h t => .cons (.lst (SqL.of h) (dp_iV _)) (dp_rows t)
/-- the result, in the part that is not the corridor's -/
theorem res_dp {K : PySem.W.Frag} {H0 H : Hp} {p : Addr} {L : CLoc} {pln : Plan} {c : CSt} {v : V} {bad : List Addr} (hb : ∀ a ∈ bad, a ∈ L.all p ∨ H0 a ≠ none) : ∀ {op : Op}, ResAt H0 H p L pln c v op → Dp K (cutH H bad) v (resD pln c op)
  | .step k, ⟨f, fs, e, n0, n1, n2, _, h1, h2⟩ => by
    subst e
    refine .lst (SqL.of ((cutH_out fun z => (hb _ z).elim n1 fun y => y n0).trans h1)) (dp_rows (Paired_memMap h2 fun a l ha q => ?_))
    exact (cutH_out fun z => (hb _ z).elim (n2 a ha).1 fun y => y (n2 a ha).2).trans q
  | .put k _, e => by
    have e : v = _ := e
    rw [e]
    exact .str _
  | .turn k, e => by
    have e : v = _ := e
    rw [e]
    exact .int _
  | .undo, e => by
    have e : v = _ := e
    rw [e]
    exact .bl _
  | .redo, e => by
    have e : v = _ := e
    rw [e]
    exact .bl _
def execAll (pln : Plan) : CSt → List Op → Option (CSt × List PyData)
  | c, [] => some (c, [])
  | c, op :: ops => match execM pln c op with
    | .inl _ => none
    | .inr c' => (execAll pln c' ops).map fun q => (q.1, resD pln c op :: q.2)
theorem all_cons {pln : Plan} {c : CSt} {op : Op} {ops : List Op} {q : CSt × List PyData} (h : execAll pln c (op :: ops) = some q) : ∃ c' r, execM pln c op = .inr c' ∧ execAll pln c' ops = some (q.1, r) ∧ q.2 = resD pln c op :: r := by
  unfold execAll at h
  cases he : execM pln c op with
  | inl x => rw [he] at h; cases h
  | inr c' =>
    rw [he] at h
    cases ha : execAll pln c' ops with
    | none => simp only [ha] at h; cases h
    | some z =>
      simp only [ha] at h
      cases h
      exact ⟨c', z.2, rfl, ha, rfl⟩
theorem DpAll.snoc {K : PySem.W.Frag} {H : Hp} : ∀ {vs : List V} {ds : List PyData} {v : V} {d : PyData}, DpAll K H vs ds → Dp K H v d → DpAll K H (vs ++ [v]) (ds ++ [d])
  | _, _, _, _, .nil, h => .cons h .nil
  | _, _, _, _, .cons a t, h => .cons a (DpAll.snoc t h)
theorem DpAll.len {K : PySem.W.Frag} {H : Hp} : ∀ {vs : List V} {ds : List PyData}, DpAll K H vs ds → vs.length = ds.length
  | _, _, .nil => rfl
  | _, _, .cons _ t => by rw [List.length_cons, List.length_cons, DpAll.len t]
/-- all that is the corridor's own is tracked -/
theorem CorAt.tracked {K : PySem.W.Frag} {H0 H : Hp} {p : Addr} {L : CLoc} {pln : Plan} {c : CSt} (h : CorAt K H0 H p L pln c) : ∀ a ∈ L.all p, H a ≠ none := fun a ha => by
  have : ∃ o, H a = some o := by
    rcases List.mem_cons.mp ha with z | z
    · exact ⟨_, z ▸ h.ob⟩
    rcases List.mem_cons.mp z with z | z
    · obtain ⟨ps, q, _⟩ := h.past
      exact ⟨_, z ▸ q⟩
    rcases List.mem_cons.mp z with z | z
    · obtain ⟨ps, q, _⟩ := h.und
      exact ⟨_, z ▸ q⟩
    rcases List.mem_cons.mp z with z | z
    · obtain ⟨ps, q, _⟩ := h.sav
      exact ⟨_, z ▸ q⟩
    · exact (let ⟨xs, q⟩ := h.ow a z; ⟨_, q⟩)
  obtain ⟨o, ho⟩ := this
  rw [ho]
  simp
/-- what is said of an operation's tuple -/
structure OpOk (K : PySem.W.Frag) (H : Hp) (oa : Addr) (op : Op) : Prop where
  t : OpTup K H oa op
  a : OpA K H (.ref oa) true
theorem ArN.sameH {K : PySem.W.Frag} {H H' : Hp} (s : Same H H') {v : V} {n : String} (h : ArN K H v n) : ArN K H' v n := by
  cases h with
  | int i => exact .int i
  | bl b => exact .bl b
  | non => exact .non
  | str z => exact .str z
  | tup e => exact .tup (s _ _ e)
  | lst e => exact .lst (s _ _ e)
theorem OpTup.sameH {K : PySem.W.Frag} {H H' : Hp} (s : Same H H') {oa : Addr} : ∀ {op : Op}, OpTup K H oa op → OpTup K H' oa op
  | .step _, ⟨e, n, h⟩ => ⟨s _ _ e, n, h.sameH s⟩
  | .put _ _, ⟨e, ⟨n, h⟩, n2, h2⟩ => ⟨s _ _ e, ⟨n, h.sameH s⟩, n2, h2.sameH s⟩
  | .turn _, ⟨e, n, h⟩ => ⟨s _ _ e, n, h.sameH s⟩
  | .undo, e => s _ _ e
  | .redo, e => s _ _ e
theorem OpA.sameH {K : PySem.W.Frag} {H H' : Hp} (s : Same H H') {v : V} {b : Bool} (h : OpA K H v b) : OpA K H' v b := by
  cases h with
  | flat h ne => exact .flat (h.sameH s) ne
  | nil h => exact .nil (s _ _ h)
  | odd h hx ne hd hs => exact .odd (s _ _ h) (hx.sameH s) ne (DpAll.sameH s hd) hs
  | str h hd hs => exact .str (s _ _ h) (DpAll.sameH s hd) hs
theorem OpOk.sameH {K : PySem.W.Frag} {H H' : Hp} (s : Same H H') {oa : Addr} {op : Op} (h : OpOk K H oa op) : OpOk K H' oa op := ⟨h.t.sameH s, h.a.sameH s⟩
theorem CorOk.opIn {K : PySem.W.Frag} {H0 H : Hp} {p : Addr} {L : CLoc} {pln : Plan} {c : CSt} {k : Nat} (wf : WfP pln) (ok : CorOk pln k c) (hk : k ≤ 100000) (h : CorAt K H0 H p L pln c) : OpIn K H0 H p L pln c :=
  ⟨h, ok.wf, by have := wf.n16; omega, by have := wf.r3; omega, by have := wf.s4; omega, ruOk wf, by have := ok.lp; omega, by have := ok.lu; omega⟩
/-- Corridor(text), behind the text -/
theorem cor_at {K : PySem.W.Frag} {H : Hp} {pl : Plan} {R : VK} {E : XK} {x dx : Addr} (wf : WfP pl) (so : SortedR pl.rules) (nx : H x = none) (ndx : H dx = none)
    (q : ∀ (L : CLoc) (H' : Hp), CorAt K H H' x L pl (firstC pl) → L.own = [] → R .non H') :
    spCorInit K (.ref x :: ([sV (textOf pl)] ++ [])) (upd (upd H dx (.own x)) x (.ins (He.ga K "Corridor") dx [])) R E := by
  obtain ⟨st, h1, h2, h3⟩ := loads_text wf
  refine ⟨H, x, dx, textOf pl, rfl, upd_same, sameUpd (sameUpd (Same.refl H) ndx) nx, nx, Nat.le_trans (text_len wf so).2 (by decide), fun n s hns => ?_, fun l c hns => by rw [h1] at hns; cases hns⟩
  rw [h1] at hns
  cases hns
  rw [h3]
  have := wf.n1
  have := wf.n16
  have := wf.r3
  exact ⟨h2, by omega, by omega, by omega, fun L H' hc ho => q L H' hc ho⟩
end Sw

end

section
set_option maxRecDepth 100000
set_option maxHeartbeats 4000000
/-! plain: lists of operations cut, snapshots, undo and redo of all -/
namespace Sw
open PySem PySem.Spec PyProof.Rows L2 SwA
theorem exec_split {pln : Plan} : ∀ {ops : List Op} {c cF : CSt} {ds : List PyData} (n : Nat), execAll pln c ops = some (cF, ds) → ∃ c4, execAll pln c (ops.take n) = some (c4, ds.take n) ∧ execAll pln c4 (ops.drop n) = some (cF, ds.drop n)
  | [], c, cF, ds, n, h => by
    cases h
    exact ⟨c, by simp [execAll], by simp [execAll]⟩
  | op :: ops, c, cF, ds, 0, h => ⟨c, rfl, h⟩
  | op :: ops, c, cF, ds, n + 1, h => by
    obtain ⟨c', r, h1, h2, h3⟩ := all_cons h
    have h3 : ds = _ := h3
    obtain ⟨c4, g1, g2⟩ := exec_split n h2
    refine ⟨c4, ?_, ?_⟩
    · rw [h3, List.take_succ_cons, List.take_succ_cons]
      unfold execAll
      simp only [h1, g1]
      rfl
    · rw [h3, List.drop_succ_cons, List.drop_succ_cons]
      exact g2
theorem exec_len {pln : Plan} : ∀ {ops : List Op} {c cF : CSt} {ds : List PyData}, execAll pln c ops = some (cF, ds) → ds.length = ops.length
  | [], c, cF, ds, h => by cases h; rfl
  | op :: ops, c, cF, ds, h => by
    obtain ⟨c', r, h1, h2, h3⟩ := all_cons h
    have h3 : ds = _ := h3
    rw [h3, List.length_cons, List.length_cons, exec_len h2]
theorem exec_snoc {pln : Plan} : ∀ {ops : List Op} {c cF c' : CSt} {ds : List PyData} {op : Op}, execAll pln c ops = some (cF, ds) → execM pln cF op = .inr c' → execAll pln c (ops ++ [op]) = some (c', ds ++ [resD pln cF op])
  | [], c, cF, c', ds, op, h, h2 => by
    cases h
    show execAll pln c [op] = _
    unfold execAll
    simp only [h2]
    rfl
  | o :: ops, c, cF, c', ds, op, h, h2 => by
    obtain ⟨c1, r, g1, g2, g3⟩ := all_cons h
    have g3 : ds = _ := g3
    have := exec_snoc g2 h2
    rw [g3]
    show execAll pln c (o :: (ops ++ [op])) = _
    unfold execAll
    simp only [g1, this]
    rfl
theorem exec_cor {pln : Plan} (wf : WfP pln) : ∀ {ops : List Op} {c cF : CSt} {ds : List PyData} {k : Nat}, CorOk pln k c → execAll pln c ops = some (cF, ds) → CorOk pln (k + ops.length) cF
  | [], c, cF, ds, k, h, e => by cases e; exact h
  | op :: ops, c, cF, ds, k, h, e => by
    obtain ⟨c1, r, g1, g2, g3⟩ := all_cons e
    have := exec_cor wf (h.exec wf g1) g2
    rw [List.length_cons, show k + (ops.length + 1) = k + 1 + ops.length by omega]
    exact this
theorem exec_sh {pln : Plan} (h : NamesOk pln.signs) : ∀ {ops : List Op} {c cF : CSt} {ds : List PyData}, execAll pln c ops = some (cF, ds) → ∀ d ∈ ds, ShD 3 d
  | [], c, cF, ds, e => by cases e; intro d hd; cases hd
  | op :: ops, c, cF, ds, e => by
    obtain ⟨c1, r, g1, g2, g3⟩ := all_cons e
    have g3 : ds = _ := g3
    intro d hd
    rw [g3] at hd
    rcases List.mem_cons.mp hd with z | z
    · rw [z]
      exact resD_sh h c op
    · exact exec_sh h g2 d z
/-! ### the snapshots do not matter -/
def setS (c : CSt) (s : List (Cs × Snap)) : CSt := ⟨c.now, c.past, c.undone, s⟩
theorem undo_setS (c : CSt) (s : List (Cs × Snap)) : undoC (setS c s) = setS (undoC c) s := by
  unfold undoC
  show (match c.past.getLast? with | none => setS c s | some e => _) = _
  cases c.past.getLast? <;> rfl
theorem redo_setS (c : CSt) (s : List (Cs × Snap)) : redoC (setS c s) = setS (redoC c) s := by
  unfold redoC
  show (match c.undone.getLast? with | none => setS c s | some e => _) = _
  cases c.undone.getLast? <;> rfl
theorem exec_setS {pln : Plan} {c c' : CSt} {op : Op} {s : List (Cs × Snap)} (h : execM pln c op = .inr c') : execM pln (setS c s) op = .inr (setS c' s) := by
  by_cases h1 : op = .undo
  · subst h1
    cases h
    show Sum.inr (undoC (setS c s)) = _
    rw [undo_setS]
  by_cases h2 : op = .redo
  · subst h2
    cases h
    show Sum.inr (redoC (setS c s)) = _
    rw [redo_setS]
  rw [exec_now h1 h2] at h ⊢
  have e : nowM pln (setS c s).now op = nowM pln c.now op := rfl
  rw [e]
  cases hn : nowM pln c.now op with
  | inl x => rw [hn] at h; cases h
  | inr n =>
    rw [hn] at h
    cases h
    rfl
theorem resD_setS (pln : Plan) (c : CSt) (s : List (Cs × Snap)) (op : Op) : resD pln (setS c s) op = resD pln c op := by cases op <;> rfl
theorem all_setS {pln : Plan} {s : List (Cs × Snap)} : ∀ {ops : List Op} {c cF : CSt} {ds : List PyData}, execAll pln c ops = some (cF, ds) → execAll pln (setS c s) ops = some (setS cF s, ds)
  | [], c, cF, ds, e => by cases e; rfl
  | op :: ops, c, cF, ds, e => by
    obtain ⟨c1, r, g1, g2, g3⟩ := all_cons e
    have g3 : ds = _ := g3
    unfold execAll
    simp only [exec_setS g1, all_setS g2, resD_setS, g3]
    rfl
theorem CorOk.setS {pln : Plan} {k : Nat} {c : CSt} (h : CorOk pln k c) (s : List (Cs × Snap)) : CorOk pln k (setS c s) := ⟨⟨h.mo.now, h.mo.past, h.mo.und⟩, ⟨h.wf.now, h.wf.past, h.wf.und⟩, ⟨h.ch.p, h.ch.u⟩, h.lp, h.lu⟩
/-! ### undo of all, redo of all -/
def OrgC (n0 : CNow) (c : CSt) : Prop := match c.past with
  | [] => c.now = n0
  | e :: _ => e.old = n0
theorem OrgC.first (pl : Plan) : OrgC (firstC pl).now (firstC pl) := rfl
theorem OrgC.record {n0 : CNow} {c : CSt} {w : Cs} {n : CNow} (h : OrgC n0 c) : OrgC n0 (recordC c w n) := by
  unfold OrgC recordC at *
  cases hp : c.past with
  | nil => rw [hp] at h; exact h
  | cons e es => rw [hp] at h; exact h
theorem OrgC.undo {n0 : CNow} {c : CSt} (h : OrgC n0 c) : OrgC n0 (undoC c) := by
  unfold undoC
  cases he : c.past.getLast? with
  | none => exact h
  | some e =>
    show OrgC n0 ⟨e.old, c.past.dropLast, c.undone ++ [e], c.saved⟩
    unfold OrgC at *
    have ha := last_app he
    cases hd : c.past.dropLast with
    | nil =>
      rw [hd] at ha
      rw [ha] at h
      exact h
    | cons x xs =>
      rw [hd] at ha
      rw [ha] at h
      exact h
theorem OrgC.redo {n0 : CNow} {c : CSt} (ch : ChC c) (h : OrgC n0 c) : OrgC n0 (redoC c) := by
  unfold redoC
  cases he : c.undone.getLast? with
  | none => exact h
  | some e =>
    show OrgC n0 ⟨e.new, c.past ++ [e], c.undone.dropLast, c.saved⟩
    have h1 := ch.next he
    unfold OrgC at *
    cases hp : c.past with
    | nil =>
      rw [hp] at h
      show e.old = n0
      rw [h1]
      exact h
    | cons x xs => rw [hp] at h; exact h
theorem OrgC.exec {n0 : CNow} {pln : Plan} {c c' : CSt} {op : Op} (ch : ChC c) (h : OrgC n0 c) (e : execM pln c op = .inr c') : OrgC n0 c' := by
  by_cases h1 : op = .undo
  · subst h1
    cases e
    exact h.undo
  by_cases h2 : op = .redo
  · subst h2
    cases e
    exact h.redo ch
  rw [exec_now h1 h2] at e
  cases hn : nowM pln c.now op with
  | inl x => rw [hn] at e; cases e
  | inr n =>
    rw [hn] at e
    cases e
    exact h.record
theorem all_org {pln : Plan} (wf : WfP pln) {n0 : CNow} : ∀ {ops : List Op} {c cF : CSt} {ds : List PyData} {k : Nat}, CorOk pln k c → OrgC n0 c → execAll pln c ops = some (cF, ds) → OrgC n0 cF
  | [], c, cF, ds, k, _, h, e => by cases e; exact h
  | op :: ops, c, cF, ds, k, co, h, e => by
    obtain ⟨c1, r, g1, g2, g3⟩ := all_cons e
    exact all_org wf (co.exec wf g1) (h.exec co.ch g1) g2
def undoN : Nat → CSt → CSt
  | 0, c => c
  | n + 1, c => undoC (undoN n c)
def redoN : Nat → CSt → CSt
  | 0, c => c
  | n + 1, c => redoC (redoN n c)
theorem undo_len {c : CSt} : (undoC c).past.length = c.past.length - 1 := by
  unfold undoC
  cases he : c.past.getLast? with
  | none =>
    have : c.past = [] := List.getLast?_eq_none_iff.mp he
    show c.past.length = _
    rw [this]
    rfl
  | some e =>
    show c.past.dropLast.length = _
    rw [List.length_dropLast]
theorem undoN_len {c : CSt} : ∀ n, (undoN n c).past.length = c.past.length - n
  | 0 => rfl
  | n + 1 => by
    show (undoC (undoN n c)).past.length = _
    rw [undo_len, undoN_len n]
    omega
theorem undoN_ch {c : CSt} (h : ChC c) : ∀ n, ChC (undoN n c)
  | 0 => h
  | n + 1 => (undoN_ch h n).undo
theorem undoN_org {n0 : CNow} {c : CSt} (h : OrgC n0 c) : ∀ n, OrgC n0 (undoN n c)
  | 0 => h
  | n + 1 => (undoN_org h n).undo
theorem redo_undo {c : CSt} (h : ChC c) (hp : c.past ≠ []) : redoC (undoC c) = c := by
  cases he : c.past.getLast? with
  | none => exact absurd (List.getLast?_eq_none_iff.mp he) hp
  | some e =>
    have e1 : undoC c = ⟨e.old, c.past.dropLast, c.undone ++ [e], c.saved⟩ := by unfold undoC; rw [he]
    have h2 := h.last he
    have h3 := last_app he
    rw [e1]
    unfold redoC
    simp only [List.getLast?_append, List.getLast?_singleton, Option.or_some, Option.some_or, List.dropLast_concat]
    rw [h2, ← h3]
/-- n of the k that were undone are redone -/
theorem redo_all {c : CSt} (h : ChC c) : ∀ {n k : Nat}, n ≤ k → k ≤ c.past.length → redoN n (undoN k c) = undoN (k - n) c
  | 0, k, _, _ => rfl
  | n + 1, k, hn, hk => by
    show redoC (redoN n (undoN k c)) = _
    rw [redo_all h (by omega) hk]
    obtain ⟨j, hj⟩ : ∃ j, k - n = j + 1 := ⟨k - n - 1, by omega⟩
    rw [hj, show k - (n + 1) = j by omega]
    show redoC (undoC (undoN j c)) = _
    refine redo_undo (undoN_ch h j) fun z => ?_
    have := undoN_len (c := c) j
    rw [z] at this
    simp at this
    omega
theorem undo_ulen {c : CSt} : (undoC c).undone.length = if c.past = [] then c.undone.length else c.undone.length + 1 := by
  unfold undoC
  cases he : c.past.getLast? with
  | none =>
    have : c.past = [] := List.getLast?_eq_none_iff.mp he
    rw [if_pos this]
  | some e =>
    have : c.past ≠ [] := fun z => by rw [z] at he; cases he
    rw [if_neg this]
    show (c.undone ++ [e]).length = _
    simp
theorem undoN_ulen {c : CSt} : ∀ {n : Nat}, n ≤ c.past.length → (undoN n c).undone.length = c.undone.length + n
  | 0, _ => rfl
  | n + 1, h => by
    show (undoC (undoN n c)).undone.length = _
    have h1 := undoN_len (c := c) n
    have : (undoN n c).past ≠ [] := fun z => by rw [z] at h1; simp at h1; omega
    rw [undo_ulen, if_neg this, undoN_ulen (by omega)]
    omega
theorem undoN_end {n0 : CNow} {c : CSt} (h : OrgC n0 c) : (undoN c.past.length c).past = [] ∧ (undoN c.past.length c).now = n0 := by
  have h1 := undoN_len (c := c) c.past.length
  rw [Nat.sub_self] at h1
  have h2 := List.eq_nil_of_length_eq_zero h1
  refine ⟨h2, ?_⟩
  have h3 := undoN_org h c.past.length
  unfold OrgC at h3
  rw [h2] at h3
  exact h3
end Sw

end

section
set_option maxRecDepth 100000
set_option maxHeartbeats 4000000
/-! a law's turn: a corridor, the source of numbers, some lists that change; all else stands -/
namespace Sw
open PySem PySem.Spec PyProof.Rows L2 SwA
abbrev badL (d : Addr) (ex : List Addr) (L : CLoc) (p : Addr) : List Addr := d :: (ex ++ L.all p)
abbrev Fr (H : Hp) (d : Addr) (ex : List Addr) (L : CLoc) (p : Addr) : Hp := cutH H (badL d ex L p)
theorem cut_some {H : Hp} {l : List Addr} {a : Addr} {o : HO} (e : cutH H l a = some o) : a ∉ l ∧ H a = some o := by
  have ha : a ∉ l := fun z => by rw [cutH_in z] at e; cases e
  rw [cutH_out ha] at e
  exact ⟨ha, e⟩
theorem cut_cut {H : Hp} {a b : List Addr} (h : ∀ x ∈ b, x ∈ a) : Same (cutH H a) (cutH H b) := fun x o e => by
  have hx : x ∉ a := fun z => by rw [cutH_in z] at e; cases e
  rw [cutH_out hx] at e
  exact (cutH_out fun z => hx (h x z)).trans e
/-- a thing of a kind that may change -/
def Chg : HO → Prop
  | .lst _ => True
  | .dK _ => True
  | _ => False
theorem Chg.nofix {K : PySem.W.Frag} {o : HO} (h : Chg o) : ¬ Fixed K o := by
  cases o <;> first
    | exact fun q => q
    | exact h.elim
structure Cs1 (K : PySem.W.Frag) (H : Hp) (d : Addr) (ex : List Addr) (p : Addr) (L : CLoc) (pl : Plan) (c : CSt) : Prop where
  dr : DrawAt H d
  exs : ∀ a ∈ ex, ∃ o, H a = some o ∧ Chg o
  cor : CorAt K (cutH H (L.all p)) H p L pl c
  d1 : d ∉ ex ++ L.all p
  d2 : ∀ a ∈ ex, a ∉ L.all p
section
variable {K : PySem.W.Frag} {H H' : Hp} {d : Addr} {ex : List Addr} {p : Addr} {L L' : CLoc} {pl : Plan} {c c' : CSt}
/-- what changes is none of the things that never change -/
theorem Cs1.nofix (h : Cs1 K H d ex p L pl c) {b : Addr} (hb : b ∈ badL d ex L p) : ∃ o, H b = some o ∧ ¬ Fixed K o := by
  rcases List.mem_cons.mp hb with z | z
  · obtain ⟨s, x, bs, _, e⟩ := h.dr
    subst z
    exact ⟨_, e, fun q => q⟩
  rcases List.mem_append.mp z with z | z
  · obtain ⟨o, e, g⟩ := h.exs b z
    exact ⟨_, e, g.nofix⟩
  rcases List.mem_cons.mp z with z | z
  · subst z
    exact ⟨_, h.cor.ob, fun q => q rfl⟩
  rcases List.mem_cons.mp z with z | z
  · obtain ⟨ps, q, _⟩ := h.cor.past
    subst z
    exact ⟨_, q, fun q => q⟩
  rcases List.mem_cons.mp z with z | z
  · obtain ⟨ps, q, _⟩ := h.cor.und
    subst z
    exact ⟨_, q, fun q => q⟩
  rcases List.mem_cons.mp z with z | z
  · obtain ⟨ps, q, _⟩ := h.cor.sav
    subst z
    exact ⟨_, q, fun q => q⟩
  · obtain ⟨xs, q⟩ := h.cor.ow b z
    exact ⟨_, q, fun q => q⟩
theorem Cs1.tracked (h : Cs1 K H d ex p L pl c) {b : Addr} (hb : b ∈ badL d ex L p) : H b ≠ none := by
  obtain ⟨o, e, _⟩ := h.nofix hb
  rw [e]
  simp
theorem Cs1.new (h : Cs1 K H d ex p L pl c) {b : Addr} (hb : H b = none) : b ∉ badL d ex L p := fun z => h.tracked z hb
theorem Cs1.fixed (h : Cs1 K H d ex p L pl c) {b : Addr} {o : HO} (e : H b = some o) (f : Fixed K o) : (Fr H d ex L p) b = some o := by
  refine (cutH_out fun z => ?_).trans e
  obtain ⟨o2, e2, n⟩ := h.nofix z
  rw [e] at e2
  cases e2
  exact n f
/-- more is tracked -/
theorem Cs1.same (A : ApK K) (h : Cs1 K H d ex p L pl c) (s : Same H H') : Cs1 K H' d ex p L pl c ∧ Same (Fr H d ex L p) (Fr H' d ex L p) := by
  refine ⟨⟨?_, fun a ha => ?_, (h.cor.same' A s).refit, h.d1, h.d2⟩, fun a o e => ?_⟩
  · obtain ⟨x, y, z, l, e⟩ := h.dr
    exact ⟨x, y, z, l, s _ _ e⟩
  · obtain ⟨xs, e, g⟩ := h.exs a ha
    exact ⟨xs, s _ _ e, g⟩
  · obtain ⟨ha, e⟩ := cut_some e
    exact (cutH_out ha).trans (s _ _ e)
theorem Cs1.free (h : Cs1 K H d ex p L pl c) {b : Addr} {o : HO} (hb : H b = none) (e : H' b = some o) : (Fr H' d ex L p) b = some o := (cutH_out (h.new hb)).trans e
theorem Cs1.drawn (A : ApK K) (h : Cs1 K H d ex p L pl c) (s : Drawn d H H') : Cs1 K H' d ex p L pl c ∧ Same (Fr H d ex L p) (Fr H' d ex L p) := by
  have nd : ∀ a ∈ ex ++ L.all p, a ≠ d := fun a ha z => h.d1 (z ▸ ha)
  have sF : Same (Fr H d ex L p) H' := fun a o e => by
    obtain ⟨ha, e⟩ := cut_some e
    exact s.same _ _ (fun z => ha (by rw [z]; exact List.mem_cons_self)) e
  refine ⟨⟨s.at_, fun a ha => ?_, ?_, h.d1, h.d2⟩, fun a o e => ?_⟩
  · obtain ⟨xs, e, g⟩ := h.exs a ha
    exact ⟨xs, s.same _ _ (nd a (List.mem_append_left _ ha)) e, g⟩
  · refine CorAt.refit (H0 := Fr H d ex L p) ?_
    refine (h.cor.mono (cut_cut fun x hx => List.mem_cons_of_mem _ (List.mem_append_right _ hx))).keep A (fun a o e f => ?_) sF fun a ha => ?_
    · refine s.same _ _ (fun z => ?_) e
      obtain ⟨o2, e2, n⟩ := h.nofix (List.mem_cons_self (a := d) (l := ex ++ L.all p))
      rw [← z, e] at e2
      cases e2
      exact n f
    · have := h.cor.tracked a ha
      cases e : H a with
      | none => exact absurd e this
      | some o => exact s.same _ _ (nd a (List.mem_append_right _ ha)) e
  · have ha := (cut_some e).1
    exact (cutH_out ha).trans (sF _ _ e)
/-- an operation upon the corridor -/
theorem Cs1.exec (h : Cs1 K H d ex p L pl c) (hc : CorAt K (cutH H (L.all p)) H' p L' pl c') : Cs1 K H' d ex p L' pl c' ∧ Same (Fr H d ex L p) (Fr H' d ex L' p) := by
  have dB : ∀ {a o}, a ∉ L.all p → H a = some o → H' a = some o ∧ a ∉ L'.all p := fun {a o} ha e => by
    have e2 : cutH H (L.all p) a = some o := (cutH_out ha).trans e
    exact ⟨hc.same _ _ e2, fun z => by rw [hc.new a z] at e2; cases e2⟩
  have dd : d ∉ L.all p := fun z => h.d1 (List.mem_append_right _ z)
  refine ⟨⟨?_, fun a ha => ?_, hc.refit, fun z => ?_, fun a ha => ?_⟩, fun a o e => ?_⟩
  · obtain ⟨x, y, z, l, e⟩ := h.dr
    exact ⟨x, y, z, l, (dB dd e).1⟩
  · obtain ⟨xs, e, g⟩ := h.exs a ha
    exact ⟨xs, (dB (h.d2 a ha) e).1, g⟩
  · rcases List.mem_append.mp z with z | z
    · exact h.d1 (List.mem_append_left _ z)
    · obtain ⟨x, y, w, l, e⟩ := h.dr
      exact (dB dd e).2 z
  · obtain ⟨xs, e, g⟩ := h.exs a ha
    exact (dB (h.d2 a ha) e).2
  · obtain ⟨ha, e⟩ := cut_some e
    have hL : a ∉ L.all p := fun z => ha (List.mem_cons_of_mem _ (List.mem_append_right _ z))
    obtain ⟨e1, e2⟩ := dB hL e
    refine (cutH_out fun z => ?_).trans e1
    rcases List.mem_cons.mp z with z | z
    · exact ha (by rw [z]; exact List.mem_cons_self)
    rcases List.mem_append.mp z with z | z
    · exact ha (List.mem_cons_of_mem _ (List.mem_append_left _ z))
    · exact e2 z
/-- one of the things that change is stored anew -/
theorem Cs1.putO (A : ApK K) (h : Cs1 K H d ex p L pl c) {x : Addr} (hx : x ∈ ex) (o' : HO) (ho' : Chg o') : Cs1 K (upd H x o') d ex p L pl c ∧ Same (Fr H d ex L p) (Fr (upd H x o') d ex L p) := by
  have dx : d ≠ x := fun z => h.d1 (z ▸ List.mem_append_left _ hx)
  have hxL := h.d2 x hx
  obtain ⟨ys, ey, gy⟩ := h.exs x hx
  have bx : x ∈ badL d ex L p := List.mem_cons_of_mem _ (List.mem_append_left _ hx)
  have sF : Same (Fr H d ex L p) (upd H x o') := sameUpd cutH_same (cutH_in bx)
  refine ⟨⟨?_, fun a ha => ?_, ?_, h.d1, h.d2⟩, fun a o e => ?_⟩
  · obtain ⟨a, y, z, l, e⟩ := h.dr
    exact ⟨a, y, z, l, (upd_ne dx).trans e⟩
  · by_cases z : a = x
    · exact ⟨o', by rw [z]; exact upd_same, ho'⟩
    · obtain ⟨zs, e, g⟩ := h.exs a ha
      exact ⟨zs, (upd_ne z).trans e, g⟩
  · refine CorAt.refit (H0 := Fr H d ex L p) ?_
    refine (h.cor.mono (cut_cut fun x hx => List.mem_cons_of_mem _ (List.mem_append_right _ hx))).keep A (Fz.put (Fz.refl _) ey gy.nofix) sF fun a ha => ?_
    exact upd_ne fun z => hxL (z ▸ ha)
  · have ha := (cut_some e).1
    exact (cutH_out ha).trans (sF _ _ e)
theorem Cs1.put (A : ApK K) (h : Cs1 K H d ex p L pl c) {x : Addr} (hx : x ∈ ex) (xs : List V) : Cs1 K (upd H x (.lst xs)) d ex p L pl c ∧ Same (Fr H d ex L p) (Fr (upd H x (.lst xs)) d ex L p) := h.putO A hx _ trivial
theorem Cs1.res {v : V} {op : Op} {bad : List Addr} (h : Cs1 K H d ex p L pl c) (r : ResAt (cutH H (L.all p)) H' p L' pl c v op) : Dp K (Fr H' d ex L' p) v (resD pl c op) := by
  refine res_dp (fun a ha => ?_) r
  rcases List.mem_cons.mp ha with z | z
  · refine .inr ?_
    obtain ⟨x, y, w, l, e⟩ := h.dr
    rw [z, cutH_out (fun q => h.d1 (List.mem_append_right _ q)), e]
    simp
  rcases List.mem_append.mp z with z | z
  · refine .inr ?_
    obtain ⟨xs, e, _⟩ := h.exs a z
    rw [cutH_out (h.d2 a z), e]
    simp
  · exact .inl z
theorem Cs1.resF {v : V} {op : Op} (h : Cs1 K H d ex p L pl c) (r : ResAt (cutH H (L.all p)) H' p L' pl c v op) : ResAt (cutH H (L.all p)) (Fr H' d ex L' p) p L' pl c v op := by
  have hb : ∀ a, a ∉ L'.all p → cutH H (L.all p) a = none → a ∉ badL d ex L' p := fun a h1 h2 ha => by
    rcases List.mem_cons.mp ha with z | z
    · obtain ⟨x, y, w, l, e⟩ := h.dr
      rw [z, cutH_out (fun q => h.d1 (List.mem_append_right _ q)), e] at h2
      cases h2
    rcases List.mem_append.mp z with z | z
    · obtain ⟨xs, e, _⟩ := h.exs a z
      rw [cutH_out (h.d2 a z), e] at h2
      cases h2
    · exact h1 z
  cases op with
  | step k =>
    obtain ⟨f, fs, e, n0, n1, n2, n3, h1, h2⟩ := r
    exact ⟨f, fs, e, n0, n1, n2, n3, (cutH_out (hb f n1 n0)).trans h1, Paired_memMap h2 fun a l ha q => (cutH_out (hb a (n2 a ha).1 (n2 a ha).2)).trans q⟩
  | put a b => exact r
  | turn a => exact r
  | undo => exact r
  | redo => exact r
end
end Sw

end

section
set_option maxRecDepth 100000
set_option maxHeartbeats 4000000
/-! the law's own: the error of a call -/
namespace SwA
open PySem PySem.Spec PyProof.Rows L2
/-! ### xs.count(True) of a list of truth values -/
def rCntB (K : PySem.W.Frag) : V → List V → Hp → VK → Prop := fun x xs H Q => ∃ (p : Addr) (bs : List Bool), x = .ref p ∧ xs = [.bl true] ∧ SqL K H p (bs.map V.bl) ∧ Q (.int ((bs.countP id : Nat) : Int)) H
theorem dp_bools {K : PySem.W.Frag} {H : Hp} : ∀ l : List Bool, DpAll K H (l.map V.bl) (l.map PyData.bool)
  | [] => .nil
  | b :: l => .cons (.bl b) (dp_bools l)
theorem count_bools : ∀ l : List Bool, (l.map PyData.bool).countP (fun y => PyData.eqv y (.bool true)) = l.countP id
  | [] => rfl
  | b :: l => by
    rw [List.map_cons, List.countP_cons, List.countP_cons, count_bools l]
    cases b <;> simp [PyData.eqv]
theorem plain_bools : ∀ l : List Bool, PyData.plainAll (l.map PyData.bool) = true
  | [] => rfl
  | b :: l => by
    rw [List.map_cons, PyData.plainAll, plain_bools l]
    rfl
theorem mt_bcount {X : Cx} (hu : X.A.units + 3 < cLine) : MtR X "list.count" (rCntB X.K) := by
  intro pins s σ H x xs v us Q I rx rxs h
  obtain ⟨p, bs, rfl, rfl, hs, q⟩ := h
  cases rx
  obtain ⟨u, rfl, ru⟩ := rxs.one
  cases ru
  obtain ⟨its, rv, ⟨o, n, ho, hc, hdn, hd⟩, hlen⟩ := I.list hs
  obtain ⟨as, ra⟩ := Dp.readsAll I _ _ _ (dp_bools bs) rv
  refine SeqAt.count_list_data (xs := bs.map PyData.bool) (d := .bool true) ⟨o, ho, hc, n, hd⟩ (by simpa using ra) (Reads.bool true) (plain_bools bs) rfl ?_ ?_
  · have : min (PyData.depthAll (bs.map PyData.bool)) (PyData.depth (.bool true)) ≤ 1 := Nat.le_trans (Nat.min_le_right _ _) (by rw [PyData.depth]; decide)
    omega
  · rw [count_bools]
    exact ⟨.int _, H, I.tok _, ⟨_, rfl⟩, q⟩
/-! ### isinstance(e, ..) in the suite that holds e -/
def rIsEx (K : PySem.W.Frag) (cls : Value) (d : Option Addr) (a : Addr) : List V → Hp → VK → Prop := fun xs H Q => ∃ (D : Addr) (c : V) (cv : Value) (b : Bool), cls = .ref D ∧ d = none ∧ L2.ExcC K D ∧ xs = [.ref a, c] ∧ (∀ u, RelV c u → u = cv) ∧ PySem.W.kitOne K (.ref D) cv = some b ∧ Q (.bl b) H
theorem call_isEx {X : Cx} {a : Addr} {cls : Value} {d : Option Addr} {oe : Obj} {pn : List (Addr × Obj)} (hz : Zc cls d oe) (hf : ∃ vs, oe.data = .fields vs) : CallR (X.suite a ((a, oe) :: pn)) (.builtin "isinstance") (rIsEx X.K cls d a) := by
  intro pins s σ H xs us Q I r h
  obtain ⟨D, c, cv, b, rfl, rfl, C, h⟩ := h
  exact call_isE C hz hf pins s σ H xs us Q I r ⟨c, cv, b, h⟩
theorem pe_no {X : Cx} {e : Expr} : PE X e (fun _ _ _ => False) := ⟨fun pins s σ H Q I h => h.elim⟩
/-- the slots are as many as the names -/
theorem pss_len {X : Cx} {sts : List Stmt} {t : TS} (n : Nat) (hn : X.N.length = n) (h : PSs X sts t) : PSs X sts (fun D σ H => σ.length = n → t D σ H) := ⟨fun pins s σ H D I q => h.run pins s σ H D I (q (I.len.trans hn))⟩
theorem ps_try_asL {X : Cx} {body suite : List Stmt} {b₀ : Stmt} {x n : Str} {np pos pos' : Pos} {i : Nat} {c : Value} {Wout : WX} {tb : WX → TS} {ts : Addr → Value → Option Addr → TS} (k : Nat) (hk : X.N.length = k) (hs : X.stack = X.env :: X.outer) (hf : X.env.frame = some X.env.locals) (hN : X.N.Nodup) (hi : X.N[i]? = some n) (hln : X.env.kindOf n = some .local) (hc : Names X x c) (tk : Takes X Wout)
    (hb : ∀ (W : WX) (pn : List (Addr × Obj)) (xe : Value → Shared → Prop), Takes (X.tr pn xe) W → PassesOwn (model X.prog X.w) X.A X.env xe → PSs (X.tr pn xe) body (tb W))
    (hsu : ∀ (a : Addr) (oe : Obj) (cls : Value) (d : Option Addr) (pn : List (Addr × Obj)), Zc cls d oe → (∃ vs, oe.data = .fields vs) → PSs (X.suite a ((a, oe) :: pn)) (b₀ :: suite) (ts a cls d)) :
    PS X (.Try body [.ExceptHandler (some (.Name x np)) (some n) (b₀ :: suite) pos'] [] [] pos) (fun D σ H => tb (wAs X.K c i (fun a cls d D σ H => σ.length = k → ts a cls d D σ H) Wout D) D σ H) :=
  ps_try_as hs hf hN hi hln hc tk hb (fun a oe cls d pn hz hf => pss_len k hk (hsu a oe cls d pn hz hf))
end SwA

namespace Sw
open PySem PySem.Spec PyProof.Rows L2 SwA
def wordN : List Str := ["tick", "number", "sign", "long", "other", "contradiction", "name", "unknown", "syntax", "check", "code", "operation"]
theorem xcB_ok {K : PySem.W.Frag} {D : Addr} (h : xcB K D = true) : L2.ExcC K D := by
  obtain ⟨h1, h⟩ := He.ba h
  obtain ⟨h2, h⟩ := He.ba h
  obtain ⟨h3, h⟩ := He.ba h
  obtain ⟨h4, h⟩ := He.ba h
  obtain ⟨h5, h⟩ := He.ba h
  obtain ⟨h6, h⟩ := He.ba h
  obtain ⟨h7, h8⟩ := He.ba h
  exact ⟨He.eqO_ok h1, He.eqO_ok h2, of_decide_eq_true h3, h4, He.eqO_ok h5, He.eqO_ok h6, of_decide_eq_true h7, of_decide_eq_true h8⟩
/-- an error's class, the j-th -/
structure EKind (K : PySem.W.Frag) (D : Str) (j : Nat) : Prop where
  ex : L2.ExcC K (He.ga K D)
  exm : PySem.W.exmOne K (.ref (He.ga K D)) (.ref (He.ga K "SweepError")) = some true
  ve : PySem.W.kitOne K (.ref (He.ga K D)) (.type "ValueError") = some true
  kd : ∀ q ∈ clsN.zipIdx, PySem.W.kitOne K (.ref (He.ga K D)) (.ref (He.ga K q.1)) = some (decide (q.2 = j))
theorem ekB_ok {K : PySem.W.Frag} {D : Str} {j : Nat} (h : ekB K D j = true) : EKind K D j := by
  obtain ⟨h1, h⟩ := He.ba h
  obtain ⟨h2, h⟩ := He.ba h
  obtain ⟨h3, h4⟩ := He.ba h
  exact ⟨xcB_ok h1, of_decide_eq_true h2, of_decide_eq_true h3, fun q hq => of_decide_eq_true (List.all_eq_true.mp h4 q hq)⟩
structure EofT (K : PySem.W.Frag) (mg : Str → Option Value) : Prop where
  isinstance : mg "isinstance" = none
  VE : mg "ValueError" = none
  sw : mg "SweepError" = some (.ref (He.ga K "SweepError"))
  g : ∀ n ∈ clsN, mg n = some (.ref (He.ga K n))
  d : DeT K mg "_law_error_of" s__law_error_of
abbrev eofN : List Str := ["_law_call", "e", "_law_kinds", "_law_names", "_law_name"]
theorem sc_eof : FnScope eofN ["_law_call"] (defScope s__law_error_of) := ⟨rfl, rfl, rfl, by decide +kernel, rfl, by decide +kernel, by decide +kernel⟩
/-- an error of no fields, told by the law -/
def ErrW (K : PySem.W.Frag) (cls : Value) (d : Option Addr) (H : Hp) (Q : VK) : Prop := ∃ (D : Str) (j : Nat) (z : Str), cls = .ref (He.ga K D) ∧ d = none ∧ EKind K D j ∧ j < 8 ∧ wordN[j]? = some z ∧ ∀ (t : Addr) (H' : Hp), Same H H' → H' t = some (.tup [.str z, .int 0]) → Q (.ref t) H'
def TErr (K : PySem.W.Frag) : (XK → Hp → VK → Prop) → Hp → VK → Prop := fun tl H Q => tl (fun cls d H' => ErrW K cls d H' Q) H (fun _ H' => Q .non H')
abbrev bsJ (j : Nat) : List Bool := [decide (0 = j), decide (1 = j), decide (2 = j), decide (3 = j), decide (4 = j), decide (5 = j), decide (6 = j), decide (7 = j), decide (8 = j), decide (9 = j), decide (10 = j), decide (11 = j)]
theorem bs_count : ∀ {j : Nat}, j < 12 → (bsJ j).countP id = 1 := by decide
theorem bs_at {j : Nat} (h : j < 12) : ((bsJ j).map V.bl)[j]? = some (.bl true) ∧ ∀ (m : Nat) (z : V), m < j → ((bsJ j).map V.bl)[m]? = some z → eqV z (.bl true) = false := by
  have a : ∀ j, j < 12 → (bsJ j)[j]? = some true ∧ ∀ m, m < j → (bsJ j)[m]? = some false := by decide
  obtain ⟨a1, a2⟩ := a j h
  refine ⟨by rw [List.getElem?_map, a1]; rfl, fun m z hm hz => ?_⟩
  rw [List.getElem?_map, a2 m hm] at hz
  cases hz
  rfl
theorem wordV {j : Nat} {z : Str} (h : wordN[j]? = some z) : (wordN.map V.str)[j]? = some (.str z) := by rw [List.getElem?_map, h]; rfl
theorem word_out {j : Nat} {z : Str} (hj : j < 8) (h : wordN[j]? = some z) : inV (.str z) [.str "syntax", .str "check"] = false ∧ inV (.str z) [.str "code", .str "operation"] = false := by
  have a : ∀ j, j < 8 → ∀ z, wordN[j]? = some z → inV (.str z) [.str "syntax", .str "check"] = false ∧ inV (.str z) [.str "code", .str "operation"] = false := by
    intro j hj z hz
    match j, hj with
    | 0, _ => cases hz; exact ⟨by decide +kernel, by decide +kernel⟩
    | 1, _ => cases hz; exact ⟨by decide +kernel, by decide +kernel⟩
    | 2, _ => cases hz; exact ⟨by decide +kernel, by decide +kernel⟩
    | 3, _ => cases hz; exact ⟨by decide +kernel, by decide +kernel⟩
    | 4, _ => cases hz; exact ⟨by decide +kernel, by decide +kernel⟩
    | 5, _ => cases hz; exact ⟨by decide +kernel, by decide +kernel⟩
    | 6, _ => cases hz; exact ⟨by decide +kernel, by decide +kernel⟩
    | 7, _ => cases hz; exact ⟨by decide +kernel, by decide +kernel⟩
  exact a j hj z h
section
variable {X : Cx}
def hdB : List Stmt → List Stmt
  | (.Try _ [.ExceptHandler _ _ b _] _ _ _) :: _ => b
  | _ => []
abbrev eofX (X : Cx) (g : Addr) (cdg : Value) (s : Shared) (H : Hp) : Cx := (cxOf C8.CX0 X.prog X.w X.K X.mg X.base eofN "_law_error_of" (defScope s__law_error_of) g cdg X.A X.stack s H C8.E0).nox
theorem err_gives (T : EofT X.K X.mg) {g : Addr} {cdg : Value} {q : Str} (hu3 : ∀ s : Shared, (X.A.deeper (envOfC "_law_error_of" (defScope s__law_error_of) s.heap.objs.size g cdg)).units + 3 < cLine) : LamX.GivesTo X eofN "_law_error_of" (defScope s__law_error_of) g cdg (defBody s__law_error_of) "_law_call" q (TErr X.K) := by
  intro f c' s H Q tl act hc h
  replace hu3 := hu3 s
  refine ⟨_, pss_cons (ps_try_asL (X := eofX X g cdg s H) (i := 1) (c := .ref (He.ga X.K "SweepError")) (ts := ?ts)
      (tb := fun W D σ H => ∃ Ech : XK, (∀ cls d σ' H', Ech cls d H' → W cls d σ' H') ∧ σ[0]? = some (some (.ref f)) ∧ H c' = some (LamX.CodeO c' q) ∧ tl Ech H (fun _ H' => D.nx σ H'))
      5 rfl rfl rfl sc_eof.nd rfl rfl ⟨rfl, by decide, .inl T.sw⟩ LamX.takes0 ?bo ?su)
    (pss_one (ps_ret pe_non)), ?fin⟩
  case su =>
    intro a oe cls d pn hz hf
    have su : PSs ((eofX X g cdg s H).suite a ((a, oe) :: pn)) (hdB (defBody s__law_error_of)) _ := (pss_cons (ps_set (i := 2) sc_eof.nd rfl (.inl rfl) (pe_lst (pa_cons (pe_callB (call_isEx (X := eofX X g cdg s H) hz hf) (by rfl) T.isinstance (by decide +kernel) (pa_cons (pv 1) (pa_cons (pe_glob (v := .ref (He.ga X.K "InvalidTick")) (by rfl) (T.g "InvalidTick" (by decide +kernel)) rfl) pa_nil))) (pa_cons (pe_callB (call_isEx (X := eofX X g cdg s H) hz hf) (by rfl) T.isinstance (by decide +kernel) (pa_cons (pv 1) (pa_cons (pe_glob (v := .ref (He.ga X.K "InvalidNumber")) (by rfl) (T.g "InvalidNumber" (by decide +kernel)) rfl) pa_nil))) (pa_cons (pe_callB (call_isEx (X := eofX X g cdg s H) hz hf) (by rfl) T.isinstance (by decide +kernel) (pa_cons (pv 1) (pa_cons (pe_glob (v := .ref (He.ga X.K "UnknownSign")) (by rfl) (T.g "UnknownSign" (by decide +kernel)) rfl) pa_nil))) pa_nil)))))
      (pss_cons (ps_set (i := 2) sc_eof.nd rfl (.inl rfl) (pe_op op_cat (pv 2) (pe_lst (pa_cons (pe_callB (call_isEx (X := eofX X g cdg s H) hz hf) (by rfl) T.isinstance (by decide +kernel) (pa_cons (pv 1) (pa_cons (pe_glob (v := .ref (He.ga X.K "TooLong")) (by rfl) (T.g "TooLong" (by decide +kernel)) rfl) pa_nil))) (pa_cons (pe_callB (call_isEx (X := eofX X g cdg s H) hz hf) (by rfl) T.isinstance (by decide +kernel) (pa_cons (pv 1) (pa_cons (pe_glob (v := .ref (He.ga X.K "OtherCorridor")) (by rfl) (T.g "OtherCorridor" (by decide +kernel)) rfl) pa_nil))) (pa_cons (pe_callB (call_isEx (X := eofX X g cdg s H) hz hf) (by rfl) T.isinstance (by decide +kernel) (pa_cons (pv 1) (pa_cons (pe_glob (v := .ref (He.ga X.K "Contradiction")) (by rfl) (T.g "Contradiction" (by decide +kernel)) rfl) pa_nil))) pa_nil))))))
      (pss_cons (ps_set (i := 2) sc_eof.nd rfl (.inl rfl) (pe_op op_cat (pv 2) (pe_lst (pa_cons (pe_callB (call_isEx (X := eofX X g cdg s H) hz hf) (by rfl) T.isinstance (by decide +kernel) (pa_cons (pv 1) (pa_cons (pe_glob (v := .ref (He.ga X.K "InvalidName")) (by rfl) (T.g "InvalidName" (by decide +kernel)) rfl) pa_nil))) (pa_cons (pe_callB (call_isEx (X := eofX X g cdg s H) hz hf) (by rfl) T.isinstance (by decide +kernel) (pa_cons (pv 1) (pa_cons (pe_glob (v := .ref (He.ga X.K "UnknownName")) (by rfl) (T.g "UnknownName" (by decide +kernel)) rfl) pa_nil))) (pa_cons (pe_callB (call_isEx (X := eofX X g cdg s H) hz hf) (by rfl) T.isinstance (by decide +kernel) (pa_cons (pv 1) (pa_cons (pe_glob (v := .ref (He.ga X.K "SyntaxFault")) (by rfl) (T.g "SyntaxFault" (by decide +kernel)) rfl) pa_nil))) pa_nil))))))
      (pss_cons (ps_set (i := 2) sc_eof.nd rfl (.inl rfl) (pe_op op_cat (pv 2) (pe_lst (pa_cons (pe_callB (call_isEx (X := eofX X g cdg s H) hz hf) (by rfl) T.isinstance (by decide +kernel) (pa_cons (pv 1) (pa_cons (pe_glob (v := .ref (He.ga X.K "CheckFault")) (by rfl) (T.g "CheckFault" (by decide +kernel)) rfl) pa_nil))) (pa_cons (pe_callB (call_isEx (X := eofX X g cdg s H) hz hf) (by rfl) T.isinstance (by decide +kernel) (pa_cons (pv 1) (pa_cons (pe_glob (v := .ref (He.ga X.K "InvalidCode")) (by rfl) (T.g "InvalidCode" (by decide +kernel)) rfl) pa_nil))) (pa_cons (pe_callB (call_isEx (X := eofX X g cdg s H) hz hf) (by rfl) T.isinstance (by decide +kernel) (pa_cons (pv 1) (pa_cons (pe_glob (v := .ref (He.ga X.K "InvalidOperation")) (by rfl) (T.g "InvalidOperation" (by decide +kernel)) rfl) pa_nil))) pa_nil))))))
      (pss_cons (ps_if (PW.pt (pw_or (pt_cmpR op_ne (pe_bm PySem.F.plainAttrs_list PySem.F.slot_list_count PySem.F.type_list_count (mt_bcount (X := (eofX X g cdg s H).suite a ((a, oe) :: pn)) hu3) (pv 2) (pa_cons pe_bl pa_nil)) pe_int (nomark _)) (pw_or1 (pt_not (pt_val (pe_callB (call_isEx (X := eofX X g cdg s H) hz hf) (by rfl) T.isinstance (by decide +kernel) (pa_cons (pv 1) (pa_cons (pe_bltn (v := .ty "ValueError") (by rfl) T.VE (by decide +kernel) rfl) pa_nil))))))))
        (pss_one (ps_ret (pe_tup (pa_cons pe_str (pa_cons pe_int pa_nil))))) pss_nil)
      (pss_cons (ps_set (i := 3) sc_eof.nd rfl (.inl rfl) (pe_lst (pa_cons pe_str (pa_cons pe_str (pa_cons pe_str (pa_cons pe_str (pa_cons pe_str (pa_cons pe_str (pa_cons pe_str (pa_cons pe_str (pa_cons pe_str (pa_cons pe_str pa_nil))))))))))))
      (pss_cons (ps_set (i := 4) sc_eof.nd rfl (.inl rfl) (pe_ix ix_list (pe_op op_cat (pv 3) (pe_lst (pa_cons pe_str (pa_cons pe_str pa_nil)))) (pe_bm PySem.F.plainAttrs_list PySem.F.slot_list_index PySem.F.type_list_index mt_index (pv 2) (pa_cons pe_bl pa_nil)) (fun _ _ => rfl)))
      (pss_cons (ps_if (pt_cmpR op_in_seq (pv 4) (pe_lst (pa_cons pe_str (pa_cons pe_str pa_nil))) (by rfl))
        (pss_one (ps_ret (pe_tup (pa_cons (pv 4) (pa_cons (pe_ifExp (pt_cmpR op_eq (pv 4) pe_str (nomark _)) pe_no pe_no) pa_nil))))) pss_nil)
      (pss_one (ps_ret (pe_tup (pa_cons (pv 4) (pa_cons (pe_ifExp (pt_cmpR op_in_seq (pv 4) (pe_lst (pa_cons pe_str (pa_cons pe_str pa_nil))) (by rfl)) pe_no pe_int) pa_nil)))))))))))))
    have hK : ((eofX X g cdg s H).suite a ((a, oe) :: pn)).K = X.K := rfl
    rw [hK] at su
    exact su
  case bo =>
    intro W pn xe tk _
    refine ⟨fun pins s' σ H' D I h' => ?_⟩
    obtain ⟨Ech, hW, h1, h2, h3⟩ := h'
    exact (pss_one (ps_expr (act W pn xe Ech _ _ tk hW))).run pins s' σ H' D I ⟨h1, h2, h3⟩
  case fin =>
    refine ⟨fun cls d H' => ErrW X.K cls d H' Q, fun cls d σ' H' hE => ?_, rfl, hc, h⟩
    obtain ⟨D, j, z, rfl, rfl, ek, hj, hz, kq⟩ := hE
    refine ⟨true, ek.exm, fun _ a na hl => ?_, fun z => nomatch z⟩
    obtain ⟨x0, x1, x2, x3, x4, rfl⟩ : ∃ x0 x1 x2 x3 x4, σ' = [x0, x1, x2, x3, x4] := by
      have hl : (σ'.set 1 (some (.ref a))).length = 5 := hl
      rw [List.length_set] at hl
      match σ', hl with
      | [x0, x1, x2, x3, x4], _ => exact ⟨x0, x1, x2, x3, x4, rfl⟩
    clear hl
    refine ⟨_, rfl, He.ga X.K D, _, _, decide (0 = j), rfl, rfl, ek.ex, rfl, (fun _ h => h), ek.kd ("InvalidTick", 0) (by decide +kernel), _, rfl, He.ga X.K D, _, _, decide (1 = j), rfl, rfl, ek.ex, rfl, (fun _ h => h), ek.kd ("InvalidNumber", 1) (by decide +kernel), _, rfl, He.ga X.K D, _, _, decide (2 = j), rfl, rfl, ek.ex, rfl, (fun _ h => h), ek.kd ("UnknownSign", 2) (by decide +kernel), (by show 3 ≤ sizeLine; decide), fun p1 np1 => ?_⟩
    have s1 := sameUpd (o := .lst [.bl (decide (0 = j)), .bl (decide (1 = j)), .bl (decide (2 = j))]) (Same.refl H') np1
    have hp1 := @upd_same H' p1 (.lst [.bl (decide (0 = j)), .bl (decide (1 = j)), .bl (decide (2 = j))])
    generalize upd H' p1 (.lst [.bl (decide (0 = j)), .bl (decide (1 = j)), .bl (decide (2 = j))]) = H1 at *
    refine ⟨_, rfl, _, rfl, He.ga X.K D, _, _, decide (3 = j), rfl, rfl, ek.ex, rfl, (fun _ h => h), ek.kd ("TooLong", 3) (by decide +kernel), _, rfl, He.ga X.K D, _, _, decide (4 = j), rfl, rfl, ek.ex, rfl, (fun _ h => h), ek.kd ("OtherCorridor", 4) (by decide +kernel), _, rfl, He.ga X.K D, _, _, decide (5 = j), rfl, rfl, ek.ex, rfl, (fun _ h => h), ek.kd ("Contradiction", 5) (by decide +kernel), (by show 3 ≤ sizeLine; decide), fun p2 np2 => ?_⟩
    have u0 := sameUpd (o := .lst [.bl (decide (3 = j)), .bl (decide (4 = j)), .bl (decide (5 = j))]) (Same.refl H1) np2
    have hp2 := @upd_same H1 p2 (.lst [.bl (decide (3 = j)), .bl (decide (4 = j)), .bl (decide (5 = j))])
    replace hp1 := u0 _ _ hp1
    replace s1 := s1.trans u0
    generalize upd H1 p2 (.lst [.bl (decide (3 = j)), .bl (decide (4 = j)), .bl (decide (5 = j))]) = H2 at *
    refine ⟨p1, p2, _, _, rfl, rfl, hp1, hp2, (by show 6 ≤ sizeLine; decide), fun p3 np3 => ?_⟩
    have u1 := sameUpd (o := .lst ([.bl (decide (0 = j)), .bl (decide (1 = j)), .bl (decide (2 = j))] ++ [.bl (decide (3 = j)), .bl (decide (4 = j)), .bl (decide (5 = j))])) (Same.refl H2) np3
    have hp3 := @upd_same H2 p3 (.lst ([.bl (decide (0 = j)), .bl (decide (1 = j)), .bl (decide (2 = j))] ++ [.bl (decide (3 = j)), .bl (decide (4 = j)), .bl (decide (5 = j))]))
    replace s1 := s1.trans u1
    generalize upd H2 p3 (.lst ([.bl (decide (0 = j)), .bl (decide (1 = j)), .bl (decide (2 = j))] ++ [.bl (decide (3 = j)), .bl (decide (4 = j)), .bl (decide (5 = j))])) = H3 at *
    refine ⟨_, rfl, _, rfl, He.ga X.K D, _, _, decide (6 = j), rfl, rfl, ek.ex, rfl, (fun _ h => h), ek.kd ("InvalidName", 6) (by decide +kernel), _, rfl, He.ga X.K D, _, _, decide (7 = j), rfl, rfl, ek.ex, rfl, (fun _ h => h), ek.kd ("UnknownName", 7) (by decide +kernel), _, rfl, He.ga X.K D, _, _, decide (8 = j), rfl, rfl, ek.ex, rfl, (fun _ h => h), ek.kd ("SyntaxFault", 8) (by decide +kernel), (by show 3 ≤ sizeLine; decide), fun p4 np4 => ?_⟩
    have u2 := sameUpd (o := .lst [.bl (decide (6 = j)), .bl (decide (7 = j)), .bl (decide (8 = j))]) (Same.refl H3) np4
    have hp4 := @upd_same H3 p4 (.lst [.bl (decide (6 = j)), .bl (decide (7 = j)), .bl (decide (8 = j))])
    replace hp3 := u2 _ _ hp3
    replace s1 := s1.trans u2
    generalize upd H3 p4 (.lst [.bl (decide (6 = j)), .bl (decide (7 = j)), .bl (decide (8 = j))]) = H4 at *
    refine ⟨p3, p4, _, _, rfl, rfl, hp3, hp4, (by show 9 ≤ sizeLine; decide), fun p5 np5 => ?_⟩
    have u3 := sameUpd (o := .lst (([.bl (decide (0 = j)), .bl (decide (1 = j)), .bl (decide (2 = j))] ++ [.bl (decide (3 = j)), .bl (decide (4 = j)), .bl (decide (5 = j))]) ++ [.bl (decide (6 = j)), .bl (decide (7 = j)), .bl (decide (8 = j))])) (Same.refl H4) np5
    have hp5 := @upd_same H4 p5 (.lst (([.bl (decide (0 = j)), .bl (decide (1 = j)), .bl (decide (2 = j))] ++ [.bl (decide (3 = j)), .bl (decide (4 = j)), .bl (decide (5 = j))]) ++ [.bl (decide (6 = j)), .bl (decide (7 = j)), .bl (decide (8 = j))]))
    replace s1 := s1.trans u3
    generalize upd H4 p5 (.lst (([.bl (decide (0 = j)), .bl (decide (1 = j)), .bl (decide (2 = j))] ++ [.bl (decide (3 = j)), .bl (decide (4 = j)), .bl (decide (5 = j))]) ++ [.bl (decide (6 = j)), .bl (decide (7 = j)), .bl (decide (8 = j))])) = H5 at *
    refine ⟨_, rfl, _, rfl, He.ga X.K D, _, _, decide (9 = j), rfl, rfl, ek.ex, rfl, (fun _ h => h), ek.kd ("CheckFault", 9) (by decide +kernel), _, rfl, He.ga X.K D, _, _, decide (10 = j), rfl, rfl, ek.ex, rfl, (fun _ h => h), ek.kd ("InvalidCode", 10) (by decide +kernel), _, rfl, He.ga X.K D, _, _, decide (11 = j), rfl, rfl, ek.ex, rfl, (fun _ h => h), ek.kd ("InvalidOperation", 11) (by decide +kernel), (by show 3 ≤ sizeLine; decide), fun p6 np6 => ?_⟩
    have u4 := sameUpd (o := .lst [.bl (decide (9 = j)), .bl (decide (10 = j)), .bl (decide (11 = j))]) (Same.refl H5) np6
    have hp6 := @upd_same H5 p6 (.lst [.bl (decide (9 = j)), .bl (decide (10 = j)), .bl (decide (11 = j))])
    replace hp5 := u4 _ _ hp5
    replace s1 := s1.trans u4
    generalize upd H5 p6 (.lst [.bl (decide (9 = j)), .bl (decide (10 = j)), .bl (decide (11 = j))]) = H6 at *
    refine ⟨p5, p6, _, _, rfl, rfl, hp5, hp6, (by show 12 ≤ sizeLine; decide), fun p7 np7 => ?_⟩
    have u5 := sameUpd (o := .lst ((([.bl (decide (0 = j)), .bl (decide (1 = j)), .bl (decide (2 = j))] ++ [.bl (decide (3 = j)), .bl (decide (4 = j)), .bl (decide (5 = j))]) ++ [.bl (decide (6 = j)), .bl (decide (7 = j)), .bl (decide (8 = j))]) ++ [.bl (decide (9 = j)), .bl (decide (10 = j)), .bl (decide (11 = j))])) (Same.refl H6) np7
    have hp7 := @upd_same H6 p7 (.lst ((([.bl (decide (0 = j)), .bl (decide (1 = j)), .bl (decide (2 = j))] ++ [.bl (decide (3 = j)), .bl (decide (4 = j)), .bl (decide (5 = j))]) ++ [.bl (decide (6 = j)), .bl (decide (7 = j)), .bl (decide (8 = j))]) ++ [.bl (decide (9 = j)), .bl (decide (10 = j)), .bl (decide (11 = j))]))
    replace s1 := s1.trans u5
    generalize upd H6 p7 (.lst ((([.bl (decide (0 = j)), .bl (decide (1 = j)), .bl (decide (2 = j))] ++ [.bl (decide (3 = j)), .bl (decide (4 = j)), .bl (decide (5 = j))]) ++ [.bl (decide (6 = j)), .bl (decide (7 = j)), .bl (decide (8 = j))]) ++ [.bl (decide (9 = j)), .bl (decide (10 = j)), .bl (decide (11 = j))])) = H7 at *
    have hk : H7 p7 = some (.lst ((bsJ j).map V.bl)) := hp7
    have hj12 : j < 12 := by omega
    refine ⟨_, rfl, .inl ⟨rfl, _, SqL.of hk⟩, p7, bsJ j, rfl, rfl, SqL.of hk, ?_⟩
    rw [bs_count hj12]
    refine ⟨rfl, false, rfl, iteF ?_⟩
    refine ⟨_, rfl, He.ga X.K D, _, _, true, rfl, rfl, ek.ex, rfl, (fun _ h => h), ek.ve, _, rfl, ?_⟩
    refine ⟨(by show 10 ≤ sizeLine; decide), fun p8 np8 => ?_⟩
    have u6 := sameUpd (o := .lst [.str "tick", .str "number", .str "sign", .str "long", .str "other", .str "contradiction", .str "name", .str "unknown", .str "syntax", .str "check"]) (Same.refl H7) np8
    have hp8 := @upd_same H7 p8 (.lst [.str "tick", .str "number", .str "sign", .str "long", .str "other", .str "contradiction", .str "name", .str "unknown", .str "syntax", .str "check"])
    replace hk := u6 _ _ hk
    replace s1 := s1.trans u6
    generalize upd H7 p8 (.lst [.str "tick", .str "number", .str "sign", .str "long", .str "other", .str "contradiction", .str "name", .str "unknown", .str "syntax", .str "check"]) = H8 at *
    refine ⟨_, rfl, (by show 2 ≤ sizeLine; decide), fun p9 np9 => ?_⟩
    have u7 := sameUpd (o := .lst [.str "code", .str "operation"]) (Same.refl H8) np9
    have hp9 := @upd_same H8 p9 (.lst [.str "code", .str "operation"])
    replace hk := u7 _ _ hk
    replace hp8 := u7 _ _ hp8
    replace s1 := s1.trans u7
    generalize upd H8 p9 (.lst [.str "code", .str "operation"]) = H9 at *
    refine ⟨p8, p9, _, _, rfl, rfl, hp8, hp9, (by show 12 ≤ sizeLine; decide), fun p10 np10 => ?_⟩
    have u8 := sameUpd (o := .lst ([.str "tick", .str "number", .str "sign", .str "long", .str "other", .str "contradiction", .str "name", .str "unknown", .str "syntax", .str "check"] ++ [.str "code", .str "operation"])) (Same.refl H9) np10
    have hp10 := @upd_same H9 p10 (.lst ([.str "tick", .str "number", .str "sign", .str "long", .str "other", .str "contradiction", .str "name", .str "unknown", .str "syntax", .str "check"] ++ [.str "code", .str "operation"]))
    replace hk := u8 _ _ hk
    replace s1 := s1.trans u8
    generalize upd H9 p10 (.lst ([.str "tick", .str "number", .str "sign", .str "long", .str "other", .str "contradiction", .str "name", .str "unknown", .str "syntax", .str "check"] ++ [.str "code", .str "operation"])) = H10 at *
    obtain ⟨b1, b2⟩ := bs_at hj12
    refine ⟨_, rfl, .inl ⟨rfl, _, SqL.of hk⟩, p7, _, _, j, .bl true, rfl, rfl, SqL.of hk, rfl, rfl, b1, rfl, b2, p10, _, _, _, rfl, rfl, SqL.of hp10, atI_nat (wordV hz), ?_⟩
    obtain ⟨w1, w2⟩ := word_out hj hz
    refine ⟨_, rfl, (by show 2 ≤ sizeLine; decide), fun p11 np11 => ?_⟩
    have u9 := sameUpd (o := .lst [.str "syntax", .str "check"]) (Same.refl H10) np11
    have hp11 := @upd_same H10 p11 (.lst [.str "syntax", .str "check"])
    replace s1 := s1.trans u9
    generalize upd H10 p11 (.lst [.str "syntax", .str "check"]) = H11 at *
    refine ⟨p11, _, rfl, .inl (SqL.of hp11), rfl, rfl, false, congrArg V.bl w1, iteF ?_⟩
    refine ⟨_, rfl, _, rfl, (by show 2 ≤ sizeLine; decide), fun p12 np12 => ?_⟩
    have u10 := sameUpd (o := .lst [.str "code", .str "operation"]) (Same.refl H11) np12
    have hp12 := @upd_same H11 p12 (.lst [.str "code", .str "operation"])
    replace s1 := s1.trans u10
    generalize upd H11 p12 (.lst [.str "code", .str "operation"]) = H12 at *
    refine ⟨p12, _, rfl, .inl (SqL.of hp12), rfl, rfl, false, congrArg V.bl w2, iteF ?_⟩
    exact ⟨(by show 2 ≤ sizeLine; decide), fun t nt => kq t _ (s1.trans (sameUpd (Same.refl _) nt)) upd_same⟩
end
end Sw

end

section
set_option maxRecDepth 100000
set_option maxHeartbeats 4000000
/-! heaps without the tables of code objects -/
namespace Sw
open PySem PySem.Spec PyProof.Rows L2 SwA
def NT (H : Hp) (b : Addr) : Prop := ∀ ps, H b ≠ some (.tbl ps)
theorem nt {H : Hp} {b : Addr} {o : HO} (e : H b = some o) (n : ∀ ps, o ≠ .tbl ps := by intro ps z; cases z) : NT H b := fun ps z => by
  rw [e] at z
  exact n ps (Option.some.inj z)
/-- the heap without tables -/
def noT (H : Hp) : Hp := fun b => match H b with
  | some (.tbl _) => none
  | o => o
theorem noT_some {H : Hp} {b : Addr} {o : HO} (e : noT H b = some o) : H b = some o ∧ ∀ ps, o ≠ .tbl ps := by
  unfold noT at e
  split at e
  · cases e
  · rename_i n
    refine ⟨e, fun ps z => ?_⟩
    subst z
    exact n _ e
theorem noT_of {H : Hp} {b : Addr} {o : HO} (e : H b = some o) (n : ∀ ps, o ≠ .tbl ps := by intro ps z; cases z) : noT H b = some o := by
  unfold noT
  rw [e]
  cases o with
  | tbl ps => exact absurd rfl (n ps)
  | _ => rfl
theorem noT_sub (H : Hp) : Same (noT H) H := fun b o e => (noT_some e).1
theorem ext_same {H H' : Hp} (e : LamX.ExtN H H') : Same (noT H) H' := fun b o z => e b o (noT_some z).1 (noT_some z).2
theorem ext_noT {H H' : Hp} (e : LamX.ExtN H H') : Same (noT H) (noT H') := fun b o z => noT_of (e b o (noT_some z).1 (noT_some z).2) (noT_some z).2
theorem ext_of {H H' : Hp} (s : Same H H') : LamX.ExtN H H' := fun b o e _ => s b o e
theorem TupN.trT {H : Hp} {a : Addr} {xs : List V} (h : TupN H a xs) : TupN (noT H) a xs := h.mono fun _ z => noT_of z
end Sw

end

section
set_option maxRecDepth 100000
set_option maxHeartbeats 4000000
/-! a law's turn where a lambda is made: its table is written anew, all else stands -/
namespace Sw
open PySem PySem.Spec PyProof.Rows L2 SwA
section
variable {K : PySem.W.Frag} {H H' : Hp} {d : Addr} {ex : List Addr} {p : Addr} {L L' : CLoc} {pl : Plan} {c c' : CSt}
theorem Cs1.plain (h : Cs1 K H d ex p L pl c) {b : Addr} (hb : b ∈ badL d ex L p) : ∃ o, H b = some o ∧ (∀ ps, o ≠ .tbl ps) ∧ ∀ f, o ≠ .ext f := by
  rcases List.mem_cons.mp hb with z | z
  · obtain ⟨s, x, bs, _, e⟩ := h.dr
    subst z
    exact ⟨_, e, (fun _ z => by cases z), fun _ z => by cases z⟩
  rcases List.mem_append.mp z with z | z
  · obtain ⟨o, e, g⟩ := h.exs b z
    exact ⟨_, e, (fun _ z => by subst z; exact g), fun _ z => by subst z; exact g⟩
  rcases List.mem_cons.mp z with z | z
  · subst z
    exact ⟨_, h.cor.ob, (fun _ z => by cases z), fun _ z => by cases z⟩
  rcases List.mem_cons.mp z with z | z
  · obtain ⟨ps, q, _⟩ := h.cor.past
    subst z
    exact ⟨_, q, (fun _ z => by cases z), fun _ z => by cases z⟩
  rcases List.mem_cons.mp z with z | z
  · obtain ⟨ps, q, _⟩ := h.cor.und
    subst z
    exact ⟨_, q, (fun _ z => by cases z), fun _ z => by cases z⟩
  rcases List.mem_cons.mp z with z | z
  · obtain ⟨ps, q, _⟩ := h.cor.sav
    subst z
    exact ⟨_, q, (fun _ z => by cases z), fun _ z => by cases z⟩
  · obtain ⟨xs, q⟩ := h.cor.ow b z
    exact ⟨_, q, (fun _ z => by cases z), fun _ z => by cases z⟩
/-- the tables stand outside what changes -/
theorem Cs1.tabs {T : List (Addr × Str)} (h : Cs1 K H d ex p L pl c) (t : LamX.Tabs T H) : LamX.Tabs T (Fr H d ex L p) := fun q hq => by
  obtain ⟨ps, e1, e2, e3⟩ := t q hq
  refine ⟨ps, (cutH_out fun z => ?_).trans e1, e2, fun pos cv hc => ?_⟩
  · obtain ⟨o, e, n, _⟩ := h.plain z
    rw [e1] at e
    exact n ps (Option.some.inj e).symm
  · obtain ⟨cc, g1, g2⟩ := e3 pos cv hc
    refine ⟨cc, g1, (cutH_out fun z => ?_).trans g2⟩
    obtain ⟨o, e, _, n⟩ := h.plain z
    rw [g2] at e
    exact n _ (Option.some.inj e).symm
theorem Tabs.of {T : List (Addr × Str)} {F H : Hp} (t : LamX.Tabs T F) (s : Same F H) : LamX.Tabs T H := t.ext fun b o e => s b o e
/-- a lambda was made -/
theorem Cs1.lam (A : ApK K) (h : Cs1 K H d ex p L pl c) (x : LamX.ExtN H H') : Cs1 K H' d ex p L pl c := by
  have key : ∀ b ∈ badL d ex L p, H' b = H b := fun b hb => by
    obtain ⟨o, e, n, _⟩ := h.plain hb
    rw [e]
    exact x b o e n
  refine ⟨?_, fun a ha => ?_, CorAt.refit (H0 := noT (cutH H (L.all p))) ?_, h.d1, h.d2⟩
  · obtain ⟨s, y, bs, l, e⟩ := h.dr
    exact ⟨s, y, bs, l, (key d List.mem_cons_self).trans e⟩
  · obtain ⟨xs, e, g⟩ := h.exs a ha
    exact ⟨xs, (key a (List.mem_cons_of_mem _ (List.mem_append_left _ ha))).trans e, g⟩
  · refine (h.cor.mono fun b o e => (noT_some e).1).keep A (fun a o e f => x a o e fun ps z => ?_) (fun b o e => ?_) fun a ha => key a (List.mem_cons_of_mem _ (List.mem_append_right _ ha))
    · subst z
      exact f
    · obtain ⟨e1, e2⟩ := noT_some e
      exact x b o (cutH_same _ _ e1) e2
/-- a list beside all that is stored anew -/
theorem Cs1.side (A : ApK K) (h : Cs1 K H d ex p L pl c) {f : Addr} {xs ys : List V} (hf : f ∉ badL d ex L p) (e : H f = some (.lst xs)) {H0 : Hp} (s0 : Same H0 (Fr H d ex L p)) (n0 : H0 f = none) :
    Cs1 K (upd H f (.lst ys)) d ex p L pl c ∧ Same H0 (Fr (upd H f (.lst ys)) d ex L p) := by
  have ne : ∀ b ∈ badL d ex L p, b ≠ f := fun b hb z => hf (z ▸ hb)
  refine ⟨⟨?_, fun a ha => ?_, CorAt.refit (H0 := cutH H (f :: L.all p)) ?_, h.d1, h.d2⟩, fun b o eb => ?_⟩
  · obtain ⟨s, y, bs, l, e⟩ := h.dr
    exact ⟨s, y, bs, l, (upd_ne (ne d List.mem_cons_self)).trans e⟩
  · obtain ⟨zs, e, g⟩ := h.exs a ha
    exact ⟨zs, (upd_ne (ne a (List.mem_cons_of_mem _ (List.mem_append_left _ ha)))).trans e, g⟩
  · refine (h.cor.mono (cut_cut fun x hx => List.mem_cons_of_mem _ hx)).keep A (Fz.put (Fz.refl _) e (fun q => q)) (sameUpd cutH_same (cutH_in List.mem_cons_self)) fun a ha => ?_
    exact upd_ne (ne a (List.mem_cons_of_mem _ (List.mem_append_right _ ha)))
  · obtain ⟨hb, e2⟩ := cut_some (s0 _ _ eb)
    refine (cutH_out hb).trans ((upd_ne fun z => ?_).trans e2)
    rw [z, n0] at eb
    cases eb
end
end Sw

end

section
set_option maxRecDepth 100000
set_option maxHeartbeats 4000000
/-! what stands beside one corridor: told objects -/
namespace Sw
open PySem PySem.Spec PyProof.Rows L2 SwA LamX
theorem tabs_kp18 {T : List (Addr × Str)} {H : Hp} {f : Addr} {vs ws : List V} (t : Tabs T H) (e : H f = some (.lst vs)) : Tabs T (upd H f (.lst ws)) := fun q hq => by
  obtain ⟨ps, h1, h2, h3⟩ := t q hq
  have k : ∀ b o, H b = some o → (∀ zs, o ≠ .lst zs) → upd H f (.lst ws) b = some o := fun b o g n => (upd_ne fun z => by rw [z, e] at g; exact n _ (Option.some.inj g).symm).trans g
  refine ⟨ps, k _ _ h1 (by simp), h2, fun pos cv hc => ?_⟩
  obtain ⟨cc, e1, e2⟩ := h3 pos cv hc
  exact ⟨cc, e1, k _ _ e2 fun zs z => by unfold CodeO at z; cases z⟩
structure S18 (K : PySem.W.Frag) (H : Hp) (d : Addr) (T : List (Addr × Str)) (p : Addr) (L : CLoc) (pl : Plan) (c : CSt) (xs : List (Addr × HO)) : Prop where
  cs : Cs1 K H d [] p L pl c
  tb : Tabs T H
  hx : ∀ q ∈ xs, H q.1 = some q.2
  hn : ∀ q ∈ xs, q.1 ∉ badL d [] L p ∧ ∀ ps, q.2 ≠ .tbl ps
section
variable {K : PySem.W.Frag} {H H' : Hp} {d p : Addr} {T : List (Addr × Str)} {L : CLoc} {pl : Plan} {c : CSt} {xs ys : List (Addr × HO)}
theorem S18.dw (S : S18 K H d T p L pl c xs) : DrawAt H d := S.cs.dr
theorem S18.same (A : ApK K) (S : S18 K H d T p L pl c xs) (s : Same H H') : S18 K H' d T p L pl c xs := ⟨(S.cs.same A s).1, Tabs.ext S.tb s, fun q hq => s _ _ (S.hx q hq), S.hn⟩
theorem S18.ext (A : ApK K) (S : S18 K H d T p L pl c xs) (x : ExtN H H') (t : Tabs T H') : S18 K H' d T p L pl c xs := ⟨S.cs.lam A x, t, fun q hq => x _ _ (S.hx q hq) (S.hn q hq).2, S.hn⟩
theorem S18.drawn (A : ApK K) (S : S18 K H d T p L pl c xs) (dr : Drawn d H H') : S18 K H' d T p L pl c xs := by
  obtain ⟨h1, h2⟩ := S.cs.drawn A dr
  exact ⟨h1, Tabs.of (Tabs.of (S.cs.tabs S.tb) h2) cutH_same, fun q hq => dr.same _ _ (fun z => (S.hn q hq).1 (by rw [z]; exact List.mem_cons_self)) (S.hx q hq), S.hn⟩
theorem S18.add {a : Addr} {o : HO} (S : S18 K H d T p L pl c xs) (h : H a = some o) (n : a ∉ badL d [] L p) (n2 : ∀ ps, o ≠ .tbl ps) : S18 K H d T p L pl c ((a, o) :: xs) :=
  ⟨S.cs, S.tb, fun q hq => by
    rcases List.mem_cons.mp hq with z | z
    · rw [z]; exact h
    · exact S.hx q z, fun q hq => by
    rcases List.mem_cons.mp hq with z | z
    · rw [z]; exact ⟨n, n2⟩
    · exact S.hn q z⟩
theorem S18.new (A : ApK K) {a : Addr} {o : HO} (S : S18 K H d T p L pl c xs) (h : H a = none) (n2 : ∀ ps, o ≠ .tbl ps) : S18 K (upd H a o) d T p L pl c ((a, o) :: xs) :=
  (S.same A (sameUpd (Same.refl _) h)).add upd_same (S.cs.new h) n2
theorem S18.addO {a : Addr} {o : HO} (S : S18 K H d T p L pl c xs) (h : H a = some o) (n1 : Fixed K o ∨ ∃ f, o = .ext f) (n2 : ∀ ps, o ≠ .tbl ps) : S18 K H d T p L pl c ((a, o) :: xs) :=
  S.add h (fun z => by
    obtain ⟨o2, e, g1, g2⟩ := S.cs.plain z
    obtain ⟨o3, e3, g3⟩ := S.cs.nofix z
    rw [h] at e e3
    cases e
    cases e3
    rcases n1 with q | ⟨f, q⟩
    · exact g3 q
    · exact g2 f q) n2
theorem S18.side (A : ApK K) {f : Addr} {vs ws : List V} (S : S18 K H d T p L pl c xs) (e : H f = some (.lst vs)) (hf : f ∉ badL d [] L p) (hne : ∀ q ∈ xs, q.1 ≠ f) : S18 K (upd H f (.lst ws)) d T p L pl c xs :=
  ⟨(S.cs.side A (H0 := fun _ => none) hf e (fun b o z => nomatch z) rfl).1, tabs_kp18 S.tb e, fun q hq => (upd_ne (hne q hq)).trans (S.hx q hq), S.hn⟩
theorem S18.sub (S : S18 K H d T p L pl c xs) (h : ∀ q ∈ ys, q ∈ xs) : S18 K H d T p L pl c ys := ⟨S.cs, S.tb, fun q hq => S.hx q (h q hq), fun q hq => S.hn q (h q hq)⟩
end
theorem S18.exec {K : PySem.W.Frag} {H H' : Hp} {d p : Addr} {T : List (Addr × Str)} {L L' : CLoc} {pl : Plan} {c c' : CSt} {xs : List (Addr × HO)} (S : S18 K H d T p L pl c xs) (hc : CorAt K (cutH H (L.all p)) H' p L' pl c') : S18 K H' d T p L' pl c' xs := by
  obtain ⟨cs, sF⟩ := S.cs.exec hc
  have key : ∀ q ∈ xs, (Fr H' d [] L' p) q.1 = some q.2 := fun q hq => sF _ _ ((cutH_out (S.hn q hq).1).trans (S.hx q hq))
  exact ⟨cs, Tabs.of (S.cs.tabs S.tb) (sF.trans cutH_same), fun q hq => cutH_same _ _ (key q hq), fun q hq => ⟨(cut_some (key q hq)).1, (S.hn q hq).2⟩⟩
theorem S18.inCut {K : PySem.W.Frag} {H : Hp} {d p : Addr} {T : List (Addr × Str)} {L : CLoc} {pl : Plan} {c : CSt} {xs : List (Addr × HO)} (S : S18 K H d T p L pl c xs) {q : Addr × HO} (hq : q ∈ xs) : cutH H (L.all p) q.1 = some q.2 :=
  (cutH_out fun z => (S.hn q hq).1 (List.mem_cons_of_mem _ (List.mem_append_right _ z))).trans (S.hx q hq)
end Sw

end

section
set_option maxRecDepth 100000
set_option maxHeartbeats 4000000
/-! load, where all is well -/
namespace Sw
open PySem PySem.Spec PyProof.Rows L2 SwA
theorem FnE.calmG {P : Program} {w : World} {K : PySem.W.Frag} {mg : Str → Option Value} {base : Heap} {k : Nat} {p : Str × Option Str} {ps : List Str} {sp : Sp} (h : FnE P w K mg base (L2.CX P w) k p ps sp) :
    FnE P w K mg base CX0 k p ps (fun vs H Q _ => sp vs H Q fun _ _ _ => False) := by
  obtain ⟨fd, G, b, q⟩ := h
  refine ⟨fd, ⟨fun vs H Q E z => G.len vs H Q _ z, fun A outer s H args us vs Q E hr he hb hv hs => codeAny_mono (G.run A outer s H args us vs Q _ hr he hb hv hs) fun r s' z => ?_⟩, b, q⟩
  match r, z with
  | .ok (.ret u), z => exact z
  | .error e, ⟨_, _, _, _, _, _, _, _, _, _, _, _, f⟩ => exact f.elim
/-- the text is read as the plan -/
def Reads (text : Cs) (pl : Plan) : Prop := text.length ≤ 90000 ∧ ∃ n s, loads text = .ok (n, s) ∧ s.faults = [] ∧ planOf n s = pl
theorem FnE.impS {P : Program} {w : World} {K : PySem.W.Frag} {mg : Str → Option Value} {base : Heap} {CX : CXT} {k : Nat} {p : Str × Option Str} {ps : List Str} {sp sp' : Sp} (h : FnE P w K mg base CX k p ps sp) (i : ∀ vs H Q E, sp' vs H Q E → sp vs H Q E) : FnE P w K mg base CX k p ps sp' := by
  obtain ⟨fd, G, b, q⟩ := h
  exact ⟨fd, G.imp i, b, q⟩
section
variable {P : Program} {w : World} {K : PySem.W.Frag} {mg : Str → Option Value} {base : Heap}
def spRead (K : PySem.W.Frag) : Sp := fun vs H Q _ => ∃ (text : Cs) (pl : Plan), vs = [sV text] ∧ Reads text pl ∧ ∀ (a : Addr) (H' : Hp), H a = none → Same H H' → PlanAt K H' a pl → Q (.ref a) H'
theorem ok_read (T : LoadT K mg) : FnE P w K mg base CX0 8 ("load", none) ["plan"] (spRead K) := by
  refine ((ok_load (P := P) (w := w) (base := base) T).calmG).impS fun vs H Q E ⟨text, pl, e, ⟨hl, n, s, h1, h2, h3⟩, k⟩ => ⟨text, e, hl, fun n2 s2 h => ?_, fun l c h => by rw [h1] at h; cases h⟩
  rw [h1] at h
  cases h
  rw [h3]
  exact ⟨h2, k⟩
end
end Sw

end

section
set_option maxRecDepth 100000
set_option maxHeartbeats 4000000
/-! is_operation -/
namespace SwA
open PySem PySem.Spec PyProof.Rows L2
/-! ### d.get(k, x) of a written dict of texts -/
def tDGetK (K : PySem.W.Frag) (d : Addr) (td ty tx : TE) : TE := fun σ H Q => td σ H fun x H1 => x = .ref d ∧ ty σ H1 fun y H2 => tx σ H2 fun z H3 => ∃ k r, y = .str k ∧ PySem.W.nsIn K d k = some r ∧ (r = none → Q z H3) ∧ (∀ u, r = some u → ∃ v, RelV v u ∧ Q v H3)
theorem pe_dgetK {X : Cx} {o e f : Expr} {apos cpos : Pos} {td ty tx : TE} {d : Addr} {es : Array DictEntry} {n : Nat} (D : KDict X.K X.w d es n) (ho : PE X o td) (he : PE X e ty) (hf : PE X f tx) (m : M2 X o "get" apos e f cpos) :
    PE X (.Call (.Attribute o "get" apos) [e, f] [] cpos) (tDGetK X.K d td ty tx) := by
  refine ⟨fun pins s σ H Q I h => ?_⟩
  refine wpAny_Call_method m.base m.few m.line PySem.F.plainAttrs_dict PySem.F.slot_dict_get PySem.F.type_dict_get (thn (ho.run pins s σ H _ I h) fun u s1 ⟨x, H1, I1, rx, ex, q1⟩ => ?_)
  subst ex
  obtain rfl : u = Value.ref d := rx
  refine ⟨kd_type D I1, fun b q => ?_, ?_⟩
  · cases q
    exact ⟨_, I1.kIn d _ D.at_, rfl⟩
  rw [m.trees]
  refine Calls.callWith_builtin rfl (Calls.evalArgs_plain (Calls.spliced_cons (thn (he.run pins s1 σ H1 _ I1 q1) fun iv s2 ⟨y, H2, I2, ry, q2⟩ =>
    Calls.spliced_cons (thn (hf.run pins s2 σ H2 _ I2 q2) fun fv s3 ⟨z, H3, I3, rz, k, r, ek, en, g1, g2⟩ => Calls.spliced_nil ?_))))
  subst ek
  obtain ⟨t, rfl⟩ := ry
  refine call_meetsIn PySem.F.slot_dict_get (kd_type D I3) PySem.F.entry_dict_get (PySem.F.args_dict_get_3 _ _ _) (meets_dict_get_default (strKind X.prog X.w) d (PySem.strKind_is X.prog X.w k t) D.low fv)
    ⟨_, PySem.W.mapOf_K (prog := X.prog) I3.kIn D.at_ D.lit, ?_⟩
  show EP X pins σ Q ((findBy Value.isStrOf es k).getD fv) _
  rw [PySem.W.find_K D.at_ en]
  cases r with
  | none => exact ⟨z, H3, I3.tok _, rz, g1 rfl⟩
  | some u =>
    obtain ⟨v, rv, q⟩ := g2 u rfl
    exact ⟨v, H3, I3.tok _, rv, q⟩
end SwA
namespace Sw
open PySem PySem.Spec PyProof.Rows L2 SwA
/-- the written dict at a, asked -/
def LenAt (K : PySem.W.Frag) (a : Addr) : Prop := ∀ z : Str, ∃ r, PySem.W.nsIn K a z = some r ∧ (r = none → lenM z = 0) ∧ ∀ u, r = some u → RelV (.int (lenM z : Nat)) u
theorem lens_find (z : Str) : ∀ (l : List DictEntry) (ks : List (Str × Nat)), l.map lenKV = ks.map (fun q => some (q.1, (q.2 : Int))) →
    ∃ r, (match l.find? (·.key.isStr z) with
      | some e => some (some e.val)
      | none => if l.any (·.refKey) then none else some none) = some r ∧ (r = none → ks.find? (fun q => decide (q.1 = z)) = none) ∧ ∀ u, r = some u → ∃ q, ks.find? (fun q => decide (q.1 = z)) = some q ∧ RelV (.int (q.2 : Nat)) u
  | [], ks, h => by
    cases ks with
    | nil => exact ⟨none, rfl, fun _ => rfl, fun u q => by cases q⟩
    | cons _ _ => cases h
  | e :: l, [], h => by cases h
  | e :: l, k :: ks, h => by
    have h1 : lenKV e :: l.map lenKV = some (k.1, (k.2 : Int)) :: ks.map (fun q => some (q.1, (q.2 : Int))) := h
    injection h1 with h2 h3
    obtain ⟨r, e1, e2, e3⟩ := lens_find z l ks h3
    obtain ⟨hash, key, val⟩ := e
    unfold lenKV at h2
    simp only at h2
    split at h2
    · rename_i x t i t2 
      have h4 := Option.some.inj h2
      have h5 : x = k.1 := congrArg Prod.fst h4
      have h6 : i = (k.2 : Int) := congrArg Prod.snd h4
      by_cases q : k.1 = z
      · have f1 : (Value.str x t).isStr z = true := by rw [h5, q]; simp [Value.isStr]
        refine ⟨some (.int i t2), ?_, (fun q => by cases q), fun u hu => ⟨k, ?_, ?_⟩⟩
        · rw [List.find?_cons]
          simp only [f1]
        · rw [List.find?_cons, decide_eq_true q]
        · cases hu
          rw [h6]
          exact ⟨t2, rfl⟩
      · have f1 : (Value.str x t).isStr z = false := by rw [h5]; simp [Value.isStr]; exact q
        refine ⟨r, ?_, fun hn => ?_, fun u hu => ?_⟩
        · rw [List.find?_cons]
          simp only [f1]
          rw [List.any_cons]
          exact e1
        · rw [List.find?_cons, decide_eq_false q]
          exact e2 hn
        · rw [List.find?_cons, decide_eq_false q]
          exact e3 u hu
    · cases h2
theorem lenB_ok {K : PySem.W.Frag} {a : Addr} (h : lenB K a = true) : LenAt K a := by
  intro z
  unfold lenB at h
  split at h
  · rename_i es n _ q
    have h1 := of_decide_eq_true h
    obtain ⟨r, e1, e2, e3⟩ := lens_find z es.toList [("step", 2), ("put", 3), ("turn", 2), ("undo", 1), ("redo", 1)] h1
    refine ⟨r, ?_, fun hn => ?_, fun u hu => ?_⟩
    · unfold PySem.W.nsIn
      rw [q]
      exact e1
    · unfold lenM lensN
      rw [e2 hn]
    · obtain ⟨q, f1, f2⟩ := e3 u hu
      unfold lenM lensN
      rw [f1]
      exact f2
  · cases h
structure IsoT (K : PySem.W.Frag) (w : World) (mg : Str → Option Value) : Prop where
  c : CorT K w mg
  LENGTHS : mg "LENGTHS" = some (.ref (He.ga K "LENGTHS"))
  lenD : ∃ es n, KDict K w (He.ga K "LENGTHS") es n
  len : LenAt K (He.ga K "LENGTHS")
  is_operation : DeT K mg "is_operation" s_is_operation
section
variable {P : Program} {w : World} {K : PySem.W.Frag} {mg : Str → Option Value} {base : Heap}
def spIsOp (K : PySem.W.Frag) : Sp := fun vs H Q _ => ∃ (v : V) (b : Bool), vs = [v] ∧ OpA K H v b ∧ ∀ H', Same H H' → Q (.bl b) H'
theorem sc_is_operation : FnScope ["value"] ["value"] (defScope s_is_operation) := ⟨rfl, rfl, rfl, by decide +kernel, rfl, by decide +kernel, by decide +kernel⟩
theorem ok_is_operation (T : IsoT K w mg) : FnE P w K mg base CX0 1 ("is_operation", none) ["value"] (spIsOp K) := by
  obtain ⟨fd, F⟩ := T.is_operation.d
  obtain ⟨es, nn, D⟩ := T.lenD
  refine ⟨fd, F.ok sc_is_operation (fun vs H Q E h => ?_) (fun cdv A outer s H vs Q E hr h => ?_), F.bindsN fun _ _ _ _ _ _ us hl => match us, hl with | [_], _ => rfl, F.kp⟩
  · obtain ⟨v, b, rfl, _⟩ := h
    rfl
  · obtain ⟨v, b, rfl, hv, k⟩ := h
    have hu := hr.units
    refine ⟨_, PSs.nox (pss_cons (ps_if (PW.pt (pw_or (pt_not (pt_val (pe_callB call_isi (by rfl) T.c.m.isinstance (by decide +kernel) (pa_cons (pv 0) (pa_cons (pe_bltn (v := .ty "tuple") (by rfl) T.c.m.lo.p.tuple (by decide +kernel) rfl) pa_nil)))))
        (pw_or (pt_cmpR (op_eqD hu) (pv 0) (pe_tup pa_nil) (nomark _))
        (pw_or1 (pt_not (pt_val (pe_callB call_isi (by rfl) T.c.m.isinstance (by decide +kernel) (pa_cons (pe_ix ix_tup (pv 0) pe_int (fun _ _ => rfl)) (pa_cons (pe_bltn (v := .ty "str") (by rfl) T.c.str (by decide +kernel) rfl) pa_nil)))))))))
        (pss_one (ps_ret pe_bl)) pss_nil)
      (pss_one (ps_ret (pe_cmpR op_eq (pe_dgetK D (pe_glob (v := .ref _) rfl T.LENGTHS rfl) (pe_ix ix_tup (pv 0) pe_int (fun _ _ => rfl)) pe_int ⟨rfl, rfl, rfl, rfl⟩) (pe_callB call_len_seq (by rfl) T.c.m.lo.p.l.len boot_len (pa_cons (pv 0) pa_nil)) (nomark _))))), ?_⟩
    have fin : Q (.bl false) H → Q (.bl false) H := id
    cases hv with
    | flat h ne =>
      cases h with
      | int i => exact ⟨_, rfl, _, _, _, _, false, rfl, .ty "tuple", (ArN.int (K := K) (H := H) i).ty, kit_ty (by decide +kernel), _, rfl, k H (Same.refl H)⟩
      | bl b => exact ⟨_, rfl, _, _, _, _, false, rfl, .ty "tuple", (ArN.bl (K := K) (H := H) b).ty, kit_ty (by decide +kernel), _, rfl, k H (Same.refl H)⟩
      | non => exact ⟨_, rfl, _, _, _, _, false, rfl, .ty "tuple", (ArN.non (K := K) (H := H)).ty, kit_ty (by decide +kernel), _, rfl, k H (Same.refl H)⟩
      | str z => exact ⟨_, rfl, _, _, _, _, false, rfl, .ty "tuple", (ArN.str (K := K) (H := H) z).ty, kit_ty (by decide +kernel), _, rfl, k H (Same.refl H)⟩
      | tup e => exact absurd rfl ne
      | lst e => exact ⟨_, rfl, _, _, _, _, false, rfl, .ty "tuple", (ArN.lst (K := K) (H := H) e).ty, kit_ty (by decide +kernel), _, rfl, k H (Same.refl H)⟩
    | @nil a h =>
      refine ⟨_, rfl, _, _, _, _, true, rfl, .ty "tuple", (ArN.tup (K := K) (H := H) h).ty, kit_ty (by decide +kernel), ?_⟩
      refine ⟨_, rfl, ?_⟩
      refine ⟨_, rfl, (by show 0 ≤ sizeLine; decide), fun p np => ?_⟩
      have s1 := sameUpd (o := .tup []) (Same.refl H) np
      refine ⟨_, _, Dp.tup (SqT.of (s1 _ _ h)) .nil, Dp.tup (SqT.of upd_same) .nil, by decide +kernel, by decide +kernel, ?_⟩
      refine ⟨_, rfl, ?_⟩
      exact k _ s1
    | @odd a x xs n d ds h hx ne hd hs =>
      refine ⟨_, rfl, _, _, _, _, true, rfl, .ty "tuple", (ArN.tup (K := K) (H := H) h).ty, kit_ty (by decide +kernel), ?_⟩
      refine ⟨_, rfl, ?_⟩
      refine ⟨_, rfl, (by show 0 ≤ sizeLine; decide), fun p np => ?_⟩
      have s1 := sameUpd (o := .tup []) (Same.refl H) np
      refine ⟨_, _, Dp.tup (SqT.of (s1 _ _ h)) (DpAll.sameH s1 hd), Dp.tup (SqT.of upd_same) .nil, hs, by decide +kernel, ?_⟩
      refine ⟨_, rfl, ?_⟩
      refine ⟨_, rfl, a, _, _, _, rfl, rfl, SqT.of (s1 _ _ h), at0, ?_⟩
      have h0 : ∀ (m : String), n = m → m ≠ "str" → PySem.W.kitOne K (.type m) (.type "str") = some false → True := fun _ _ _ _ => trivial
      cases hx with
      | int i => exact ⟨_, _, _, _, false, rfl, .ty "str", (ArN.int (K := K) i).ty, kit_ty (by decide +kernel), _, rfl, k _ s1⟩
      | bl b => exact ⟨_, _, _, _, false, rfl, .ty "str", (ArN.bl (K := K) b).ty, kit_ty (by decide +kernel), _, rfl, k _ s1⟩
      | non => exact ⟨_, _, _, _, false, rfl, .ty "str", (ArN.non (K := K)).ty, kit_ty (by decide +kernel), _, rfl, k _ s1⟩
      | str z => exact absurd rfl ne
      | tup e => exact ⟨_, _, _, _, false, rfl, .ty "str", (ArN.tup (K := K) (s1 _ _ e)).ty, kit_ty (by decide +kernel), _, rfl, k _ s1⟩
      | lst e => exact ⟨_, _, _, _, false, rfl, .ty "str", (ArN.lst (K := K) (s1 _ _ e)).ty, kit_ty (by decide +kernel), _, rfl, k _ s1⟩
    | @str a z xs ds h hd hs =>
      refine ⟨_, rfl, _, _, _, _, true, rfl, .ty "tuple", (ArN.tup (K := K) (H := H) h).ty, kit_ty (by decide +kernel), ?_⟩
      refine ⟨_, rfl, ?_⟩
      refine ⟨_, rfl, (by show 0 ≤ sizeLine; decide), fun p np => ?_⟩
      have s1 := sameUpd (o := .tup []) (Same.refl H) np
      refine ⟨_, _, Dp.tup (SqT.of (s1 _ _ h)) (.cons (.str z) (DpAll.sameH s1 hd)), Dp.tup (SqT.of upd_same) .nil, hs, by decide +kernel, ?_⟩
      refine ⟨_, rfl, ?_⟩
      refine ⟨_, rfl, a, _, _, _, rfl, rfl, SqT.of (s1 _ _ h), at0, ?_⟩
      refine ⟨_, _, _, _, true, rfl, .ty "str", (ArN.str (K := K) z).ty, kit_ty (by decide +kernel), _, rfl, ?_⟩
      obtain ⟨r, e1, e2, e3⟩ := T.len z
      refine ⟨rfl, _, rfl, a, _, _, _, rfl, rfl, SqT.of (s1 _ _ h), at0, z, r, rfl, e1, fun hr0 => ?_, fun u hu0 => ⟨_, e3 u hu0, ?_⟩⟩
      · refine ⟨_, rfl, a, _, rfl, .inr (SqT.of (s1 _ _ h)), rfl, ?_⟩
        have g := k _ s1
        rw [e2 hr0] at g
        have e : decide (V.int 0 = V.int ((V.str z :: xs).length : Nat)) = decide (0 = xs.length + 1) := by
          simp
          omega
        rw [e]
        exact g
      · refine ⟨_, rfl, a, _, rfl, .inr (SqT.of (s1 _ _ h)), rfl, ?_⟩
        have g := k _ s1
        have e : decide (V.int (lenM z : Nat) = V.int ((V.str z :: xs).length : Nat)) = decide (lenM z = xs.length + 1) := by
          simp
          omega
        rw [e]
        exact g
end
end Sw

end

section
set_option maxRecDepth 100000
set_option maxHeartbeats 4000000
/-! execute -/
namespace Sw
open PySem PySem.Spec PyProof.Rows L2 SwA
structure ExeT (K : PySem.W.Frag) (w : World) (mg : Str → Option Value) : Prop where
  o : OpsT K w mg
  execute : MeT K "Corridor" "execute" "Corridor.execute" s_Corridor_execute
section
variable {P : Program} {w : World} {K : PySem.W.Frag} {mg : Str → Option Value} {base : Heap}
def spExecute (K : PySem.W.Frag) : Sp := fun vs H Q E => ∃ (H0 : Hp) (p oa : Addr) (L : CLoc) (pln : Plan) (c : CSt) (op : Op), vs = [.ref p, .ref oa] ∧ OpIn K H0 H p L pln c ∧ OpTup K H oa op ∧
  (∀ e, execM pln c op = .inl e → ∀ H', Same H H' → E (errV K e) none H') ∧
  (∀ c', execM pln c op = .inr c' → ∀ (L' : CLoc) (H' : Hp) (v : V), CorAt K H0 H' p L' pln c' → L'.own = L.own → L'.sd = L.sd → ResAt H0 H' p L' pln c v op → Q v H')
abbrev exN : List Str := ["self", "operation", "count", "tile", "sign", "number"]
theorem sc_execute : FnScope exN ["self", "operation"] (defScope s_Corridor_execute) := ⟨rfl, rfl, rfl, by decide +kernel, rfl, by decide +kernel, by decide +kernel⟩
theorem ok_execute (T : ExeT K w mg) : FnE P w K mg base (L2.CX P w) 7 ("Corridor", some "execute") ["self", "operation"] (spExecute K) := by
  obtain ⟨fd, F⟩ := T.execute.d
  obtain ⟨fdS, GS, bS, kS⟩ := ok_step (P := P) (w := w) (base := base) T.o
  obtain ⟨fdP, GP, bP, kP⟩ := ok_put (P := P) (w := w) (base := base) T.o
  obtain ⟨fdT, GT, bT, kT⟩ := ok_turn (P := P) (w := w) (base := base) T.o
  obtain ⟨fdU, GU, bU, kU⟩ := ok_undo (P := P) (w := w) (base := base) T.o.r
  obtain ⟨fdR, GR, bR, kR⟩ := ok_redo (P := P) (w := w) (base := base) T.o.r
  refine ⟨fd, F.ok sc_execute (fun vs H Q E h => ?_) (fun cdv A outer s H vs Q E hr h => ?_), F.bindsN fun _ _ _ _ _ _ us hl => match us, hl with | [_, _], _ => rfl, F.kp⟩
  · obtain ⟨H0, p, oa, L, pln, c, op, rfl, _⟩ := h
    rfl
  · obtain ⟨H0, p, oa, L, pln, c, op, rfl, hi, ho, hbad, hok⟩ := h
    have hr1 : Room 1 _ := hr.mono (by decide)
    have hr4 : Room 4 _ := hr.mono (by decide)
    have hr6 : Room 6 _ := hr.mono (by decide)
    refine ⟨_, (pss_cons (ps_match (pv 1)
        (pms_seq (xs := [("count", 2)]) rfl sc_execute.nd (.cons rfl (.inl rfl) (.inl rfl) .nil) (pss_one (ps_ret (pe_meth (pv 0) T.o.r.c.cor.c T.o.step.m GS hr6 bS .nil (passes_call (takes_of rfl rfl rfl rfl) (fun _ _ _ _ h => h)) (pa_cons (pv 2) pa_nil))))
        (pms_seq (xs := [("tile", 3), ("sign", 4)]) rfl sc_execute.nd (.cons rfl (.inl rfl) (.inl rfl) (.cons rfl (.inl rfl) (.inl rfl) .nil)) (pss_one (ps_ret (pe_meth (pv 0) T.o.r.c.cor.c T.o.put.m GP hr4 bP .nil (passes_call (takes_of rfl rfl rfl rfl) (fun _ _ _ _ h => h)) (pa_cons (pv 3) (pa_cons (pv 4) pa_nil)))))
        (pms_seq (xs := [("number", 5)]) rfl sc_execute.nd (.cons rfl (.inl rfl) (.inl rfl) .nil) (pss_one (ps_ret (pe_meth (pv 0) T.o.r.c.cor.c T.o.turn.m GT hr4 bT .nil (passes_call (takes_of rfl rfl rfl rfl) (fun _ _ _ _ h => h)) (pa_cons (pv 5) pa_nil))))
        (pms_seq (xs := []) rfl sc_execute.nd .nil (pss_one (ps_ret (pe_meth0 (pv 0) T.o.r.c.cor.c T.o.r.undo.m GU hr1 bU .nil pass0)))
        pms_nil)))))
      (pss_one (ps_ret (pe_meth0 (pv 0) T.o.r.c.cor.c T.o.r.redo.m GR hr1 bR .nil pass0)))), ?_⟩
    have hc := hi.cor
    cases op with
    | step v =>
      obtain ⟨ho, n, hv⟩ := ho
      refine ⟨_, rfl, oa, _, _, rfl, SqT.of ho, fun _ => ?_, fun hn => absurd ⟨rfl, rfl⟩ hn⟩
      refine ⟨_, rfl, p, _, _, rfl, hc.ob, lc_no_step, _, rfl, H0, p, L, pln, c, v, n, rfl, hi, hv, fun hb H' s1 => hbad .number (by simp only [execM, if_neg (show ¬ isIntIn v 0 500 = true by rw [hb]; decide)]) H' s1, fun kk hk hle L' H' f fs hc' h1 h2 h3 h4 h5 h6 h7 h8 => ?_⟩
      subst hk
      have hb : isIntIn (.int kk) 0 500 = true := by
        show (decide (0 ≤ (kk : Int)) && decide ((kk : Int) ≤ 500)) = true
        rw [Bool.and_eq_true, decide_eq_true_eq, decide_eq_true_eq]
        omega
      exact hok _ (by simp only [execM, if_pos hb]; rfl) L' H' _ hc' h1 h2 ⟨f, fs, rfl, h3, h4, h5, h6, h7, h8⟩
    | put v v2 =>
      obtain ⟨ho, ⟨n, hv⟩, n2, hv2⟩ := ho
      refine ⟨_, rfl, oa, _, _, rfl, SqT.of ho, fun q => absurd q.1 (by decide +kernel), fun _ => ?_⟩
      refine ⟨oa, _, _, rfl, SqT.of ho, fun _ => ?_, fun hn => absurd ⟨rfl, rfl⟩ hn⟩
      refine ⟨_, rfl, p, _, _, rfl, hc.ob, lc_no_put, _, rfl, _, rfl, H0, p, L, pln, c, v, v2, n, n2, rfl, hi, hv, hv2, fun hb H' s1 => hbad .number (by simp only [execM, if_neg (show ¬ isIntIn v 0 ((pln.floor.length : Int) - 1) = true by rw [hb]; decide)]) H' s1, fun hb hns H' s1 => hbad .sign ?_ H' s1, fun kk g hk hle cs hcs hv2e hno L' H' hc' h1 h2 => ?_⟩
      · simp only [execM, if_pos hb]
        rw [signIx_none hns]
      · subst hk
        subst hv2e
        have hb : isIntIn (.int kk) 0 ((pln.floor.length : Int) - 1) = true := by
          show (decide (0 ≤ (kk : Int)) && decide ((kk : Int) ≤ (pln.floor.length : Int) - 1)) = true
          rw [Bool.and_eq_true, decide_eq_true_eq, decide_eq_true_eq]
          omega
        refine hok _ (by simp only [execM, if_pos hb]; rw [signIx_some hcs hno]; rfl) L' H' _ hc' h1 h2 rfl
    | turn v =>
      obtain ⟨ho, n, hv⟩ := ho
      refine ⟨_, rfl, oa, _, _, rfl, SqT.of ho, fun q => absurd q.1 (by decide +kernel), fun _ => ?_⟩
      refine ⟨oa, _, _, rfl, SqT.of ho, fun q => absurd q.1 (by decide +kernel), fun _ => ?_⟩
      refine ⟨oa, _, _, rfl, SqT.of ho, fun _ => ?_, fun hn => absurd ⟨rfl, rfl⟩ hn⟩
      refine ⟨_, rfl, p, _, _, rfl, hc.ob, lc_no_turn, _, rfl, H0, p, L, pln, c, v, n, rfl, hi, hv, fun hb H' s1 => hbad .number (by simp only [execM, if_neg (show ¬ isIntIn v 0 ((pln.robots.length : Int) - 1) = true by rw [hb]; decide)]) H' s1, fun kk hk hle L' H' hc' h1 h2 => ?_⟩
      subst hk
      have hb : isIntIn (.int kk) 0 ((pln.robots.length : Int) - 1) = true := by
        show (decide (0 ≤ (kk : Int)) && decide ((kk : Int) ≤ (pln.robots.length : Int) - 1)) = true
        rw [Bool.and_eq_true, decide_eq_true_eq, decide_eq_true_eq]
        omega
      exact hok _ (by simp only [execM, if_pos hb]; rfl) L' H' _ hc' h1 h2 rfl
    | undo =>
      refine ⟨_, rfl, oa, _, _, rfl, SqT.of ho, fun q => absurd q.1 (by decide +kernel), fun _ => ?_⟩
      refine ⟨oa, _, _, rfl, SqT.of ho, fun q => absurd q.1 (by decide +kernel), fun _ => ?_⟩
      refine ⟨oa, _, _, rfl, SqT.of ho, fun q => absurd q.1 (by decide +kernel), fun _ => ?_⟩
      refine ⟨oa, _, _, rfl, SqT.of ho, fun _ => ?_, fun hn => absurd ⟨rfl, rfl⟩ hn⟩
      exact ⟨_, rfl, p, _, _, rfl, hc.ob, lc_no_undo, H0, p, L, pln, c, rfl, hc, hi.lu, fun L' H' hc' h1 h2 => hok _ rfl L' H' _ hc' h1 h2 rfl⟩
    | redo =>
      refine ⟨_, rfl, oa, _, _, rfl, SqT.of ho, fun q => absurd q.1 (by decide +kernel), fun _ => ?_⟩
      refine ⟨oa, _, _, rfl, SqT.of ho, fun q => absurd q.1 (by decide +kernel), fun _ => ?_⟩
      refine ⟨oa, _, _, rfl, SqT.of ho, fun q => absurd q.1 (by decide +kernel), fun _ => ?_⟩
      refine ⟨oa, _, _, rfl, SqT.of ho, fun q => absurd q.1 (by decide +kernel), fun _ => ?_⟩
      exact ⟨_, rfl, p, _, _, rfl, hc.ob, lc_no_redo, H0, p, L, pln, c, rfl, hc, hi.lp, fun L' H' hc' h1 h2 => hok _ rfl L' H' _ hc' h1 h2 rfl⟩
end
end Sw

end

section
set_option maxRecDepth 100000
set_option maxHeartbeats 4000000
/-! own rule: an attribute among the targets -/
namespace SwA
open PySem PySem.Spec PyProof.Rows L2
def gFld (K : PySem.W.Frag) (to : TE) (f : Str) : TG := fun v σ H Q => to σ H fun x H1 => ∃ a C dx fs, x = .ref a ∧ H1 a = some (.ins C dx fs) ∧ Cls K C ∧ NoAttr K C f ∧ fs.length < 1000 ∧ Q σ (upd H1 a (.ins C dx (putF f v fs)))
theorem pg_fld {X : Cx} {o : Expr} {f : Str} {to : TE} {pos : Pos} (ho : PE X o to) : PG X (.Attribute o f pos) (gFld X.K to f) := by
  refine ⟨fun pins s σ H v u Q I r h => ?_⟩
  rw [assign_Attribute]
  refine wpAny_bind (wpAny_holding (thn (ho.run pins s σ H _ I h) fun ov s1 ⟨x, H1, I1, r1, a, C, dx, fs, ex, ea, c, n, l, q⟩ => ?_))
  subst ex
  obtain rfl : ov = Value.ref a := r1
  refine wpAny_bind (wpAny_standAt (wpAny_bind (wpAny_holding ?_)))
  refine setattr_ok I1 ea c n l r fun s3 I3 => ?_
  exact wpAny_release ⟨σ, _, I3, q⟩
end SwA

end

section
set_option maxRecDepth 100000
set_option maxHeartbeats 4000000
/-! own rules: an attribute among the targets; a class in a local called; a promise whose errors do not come -/
namespace SwA
open PySem PySem.Spec PyProof.Rows L2
/-- errors that are never wished for do not come -/
theorem FnOk.calm {P : Program} {w : World} {K : PySem.W.Frag} {mg : Str → Option Value} {base : Heap} {k : Nat} {f : Addr} {fd : FuncData} {ps : List Str} {sp : Sp} (F : FnOk P w K mg base (L2.CX P w) k f fd ps sp) :
    FnOk P w K mg base L2.CX0 k f fd ps (fun vs H Q _ => sp vs H Q (fun _ _ _ => False)) :=
  ⟨fun vs H Q E q => F.len vs H Q _ q, fun A outer s H args us vs Q E hr he hb hv hs => codeAny_mono (F.run A outer s H args us vs Q (fun _ _ _ => False) hr he hb hv hs) fun r s' q => by
    cases r with
    | error e =>
      obtain ⟨a, B, H', cls, d, _, _, _, _, _, _, _, z⟩ := q
      exact z.elim
    | ok fl => cases fl <;> exact q⟩
/-- cls(..), the class in a local -/
def tMakeL (i : Nat) (C : Addr) (sp : Sp) (dvs : List V) (E : XK) (t : TA) : TE := fun σ H Q => σ[i]? = some (some (.ref C)) ∧ tMake C sp dvs E t σ H Q
theorem pe_makeL {X : Cx} {CX : CXT} {k i : Nat} {f C : Addr} {fd : FuncData} {ps : List Str} {sp : Sp} {dvs : List V} {ds : List Value} {E : XK} {x : Str} {p pos : Pos} {e : Expr} {es : List Expr} {t : TA} (M : Mk X.K C f) (F : FnOk X.prog X.w X.K X.mg X.base CX k f fd ps sp) (hr : Room (k + 1) X.A)
    (hN : X.N[i]? = some x) (hv : Vis X.env.scope x) (hb : Binds X.K fd ps ds) (hd : Vals dvs ds) (hx : Passes CX X E)
    (ha : PA X (e :: es) t) (hdb : (x == ("__debug__" : Str)) = false := by decide) (hcd : (x == ("__classdict__" : Str)) = false := by decide) (he : starEach (e :: es) X.env = (false, eval e X.env) :: starEach es X.env := by rfl) (hpl : (backTo pos (starEach es X.env)).any (·.1) = false := by rfl) :
    PE X (.Call (.Name x p) (e :: es) [] pos) (tMakeL i C sp dvs E t) := by
  refine ⟨fun pins s σ H Q I h => ?_⟩
  obtain ⟨hs, ht⟩ := h
  refine wpAny_Call_Name_kw (thn ((pe_var (pos := p) hN hv hdb hcd).run pins s σ H (fun v H1 => v = .ref C ∧ H1 = H) I ⟨.ref C, hs, rfl, rfl⟩) fun u s1 ⟨v, H1, I1, r1, q1⟩ => ?_)
  obtain ⟨rfl, rfl⟩ := q1
  cases r1
  refine PySem.W.callWith_K (h₀ := X.base) I.ok.mod.kin M.kp (thn (ha.run pos pins s1 σ _ _ I1 ht) fun us s2 ⟨vs, H2, I2, r, q⟩ => ⟨I2.kIn, ?_⟩) he hpl
  exact run_make M F hr hb hd hx I2 r q
end SwA

end

section
set_option maxRecDepth 100000
set_option maxHeartbeats 4000000
/-! the corridor: batch and replay of operations that succeed -/
namespace Sw
open PySem PySem.Spec PyProof.Rows L2 SwA
structure BatT (K : PySem.W.Frag) (w : World) (mg : Str → Option Value) : Prop where
  i : IsoT K w mg
  e : ExeT K w mg
  batch : MeT K "Corridor" "batch" "Corridor.batch" s_Corridor_batch
theorem lc_no_batch {a b c d e : V} : List.lookup ("batch" : Str) (corFs a b c d e) = none := by kernel_rfl
section
variable {P : Program} {w : World} {K : PySem.W.Frag} {mg : Str → Option Value} {base : Heap}
def spBatch (K : PySem.W.Frag) : Sp := fun vs H Q _ => ∃ (H0 : Hp) (p la : Addr) (L : CLoc) (pln : Plan) (c cF : CSt) (k : Nat) (oas : List Addr) (ops : List Op) (ds : List PyData), vs = [.ref p, .ref la] ∧ CorAt K H0 H p L pln c ∧ WfP pln ∧ CorOk pln k c ∧ k + ops.length ≤ 50000 ∧
  H0 la = some (.lst (oas.map V.ref)) ∧ Paired (OpOk K H0) oas ops ∧ execAll pln c ops = some (cF, ds) ∧
  ∀ (L' : CLoc) (H' : Hp) (r : Addr), CorAt K H0 H' p L' pln cF → L'.own = L.own → L'.sd = L.sd → H0 r = none → Dp K (cutH H' (L'.all p)) (.ref r) (.list ds) → Q (.ref r) H'
abbrev baN : List Str := ["self", "operations", "place", "operation", "before"]
theorem sc_batch : FnScope baN ["self", "operations"] (defScope s_Corridor_batch) := ⟨rfl, rfl, rfl, by decide +kernel, rfl, by decide +kernel, by decide +kernel⟩
theorem ok_batch (T : BatT K w mg) : FnE P w K mg base CX0 8 ("Corridor", some "batch") ["self", "operations"] (spBatch K) := by
  obtain ⟨fd, F⟩ := T.batch.d
  obtain ⟨fdI, GI, bI, kI⟩ := ok_is_operation (P := P) (w := w) (base := base) T.i
  obtain ⟨fdX, GX', bX, kX⟩ := ok_execute (P := P) (w := w) (base := base) T.e
  have GX := FnOk.calm GX'
  refine ⟨fd, F.ok sc_batch (fun vs H Q E h => ?_) (fun cdv A outer s H vs Q E hr h => ?_), F.bindsN fun _ _ _ _ _ _ us hl => match us, hl with | [_, _], _ => rfl, F.kp⟩
  · obtain ⟨H0, p, la, L, pln, c, cF, k, oas, ops, ds, rfl, _⟩ := h
    rfl
  · obtain ⟨H0, p, la, L, pln, c, cF, kk, oas, ops, ds, rfl, hc, wf, co, hkk, hla, hops, hex, k⟩ := h
    have hr1 : Room 1 _ := hr.mono (by decide)
    have hr7 := hr
    have A1 := T.e.o.r.c.ap
    refine ⟨_, PSs.nox (pss_cons (ps_if (pt_not (pt_val (pe_callB call_isi (by rfl) T.e.o.r.c.m.isinstance (by decide +kernel) (pa_cons (pv 1) (pa_cons (pe_bltn (v := .ty "list") (by rfl) T.e.o.r.c.list (by decide +kernel) rfl) pa_nil)))))
        (pss_one ps_never) pss_nil)
      (pss_cons (ps_for PassesOwn.never rfl (pi_enum (by rfl) T.e.o.enumerate (pa_cons (pv 1) pa_nil)) (pg_tup rfl (pgs_cons (pg_name (i := 2) sc_batch.nd rfl (.inl rfl)) (pgs_cons (pg_name (i := 3) sc_batch.nd rfl (.inl rfl)) pgs_nil)))
        (pss_one (ps_if (pt_not (pt_val (pe_call GI hr1 rfl T.i.is_operation.g kI bI .nil pass0 (pa_cons (pv 3) pa_nil))))
          (pss_one ps_never) pss_nil)))
      (pss_cons (ps_set (i := 4) sc_batch.nd rfl (.inl rfl) (pe_tup (pa_cons (pe_fld (pv 0) rfl) (pa_cons (pe_callTy call_list_of (by rfl) T.e.o.r.c.list (by decide +kernel) (pa_cons (pe_fld (pv 0) rfl) pa_nil)) (pa_cons (pe_callTy call_list_of (by rfl) T.e.o.r.c.list (by decide +kernel) (pa_cons (pe_fld (pv 0) rfl) pa_nil)) pa_nil)))))
      (pss_one (ps_try_thru0 (pss_one (ps_ret (pe_lc (own := [("operation", 3)]) (g := (gName 3)) (tt := tYes) (te := tMeth (He.ga K "Corridor") "execute" (fun vs H Q _ => spExecute K vs H Q (fun _ _ _ => False)) [] E0 (tVar 0) (tCons (tVar 3) tNil)) rfl sc_batch.nd (pi_list (pv 1)) (blkOk_by (own := [("operation", 3)]) (N := baN) (sc := defScope s_Corridor_batch) (by decide +kernel)) (fun _ _ _ _ _ => (pg_name (i := 3) sc_batch.nd rfl (.inl rfl))) (fun _ _ _ _ _ => pts_nil) (fun _ _ _ _ _ => (pe_meth (pv 0) T.e.o.r.c.cor.c T.e.execute.m GX hr7 bX .nil pass0 (pa_cons (pv 3) pa_nil))))))))))), ?_⟩
    have hlaH := hc.same _ _ hla
    have hlo : oas.length = ops.length := hops.length
    refine ⟨_, rfl, _, _, _, _, true, rfl, .ty "list", (ArN.lst (K := K) hlaH).ty, kit_ty (by decide +kernel), _, rfl, ?_⟩
    refine ⟨_, rfl, la, _, rfl, SqL.of hlaH, ?_⟩
    refine for_it (walk_enum (K := K) (a := la) (xs := oas.map V.ref)) (fun i σ H1 => ∃ o2 o3 : Option V, σ = [some (.ref p), some (.ref la), o2, o3, none] ∧ Same H H1) ⟨none, none, rfl, Same.refl H⟩ (fun i σ H1 _ ⟨_, _, _, sm⟩ => SqL.of (sm _ _ hlaH)) ?_ ?_
    · rintro i x σ H1 H2 hi ⟨o2, o3, rfl, sm⟩ ⟨tt, v1, v2, rfl, ntt, rfl, e1, e2⟩
      replace e2 : (oas.map V.ref)[i]? = some v2 := e2
      rw [List.getElem?_map] at e2
      cases hoa : oas[i]? with
      | none => rw [hoa] at e2; cases e2
      | some oa =>
        rw [hoa] at e2
        cases e2
        cases e1
        obtain ⟨op, hop, hok⟩ := pairedL hops hoa
        have s2 := sameUpd (o := .tup [.int (i : Nat), .ref oa]) (Same.refl H1) ntt
        refine ⟨tt, _, rfl, SqT.of upd_same, rfl, _, _, rfl, _, _, rfl, rfl, ?_⟩
        refine ⟨_, rfl, .ref oa, true, rfl, hok.a.sameH ((hc.same.trans sm).trans s2), fun H3 s3 => ?_⟩
        exact ⟨_, rfl, _, _, rfl, (sm.trans s2).trans s3⟩
    rintro σ H1 ⟨o2, o3, rfl, sm1⟩
    have hc1 := hc.same' A1 sm1
    obtain ⟨ps, hps, _⟩ := id hc1.past
    refine ⟨_, rfl, p, _, _, _, _, rfl, hc1.ob, T.e.o.r.c.cor.c, T.e.o.r.c.cor.n _ (by simp), lc_now, _, rfl, p, _, _, _, _, rfl, hc1.ob, T.e.o.r.c.cor.c, T.e.o.r.c.cor.n _ (by simp), lc_past, L.pl, _, rfl, .inl (SqL.of hps), fun q1 nq1 => ?_⟩
    have s2 := sameUpd (o := .lst (ps.map V.ref)) (Same.refl H1) nq1
    have hq1 := @upd_same H1 q1 (.lst (ps.map V.ref))
    replace sm1 := sm1.trans s2
    generalize upd H1 q1 (.lst (ps.map V.ref)) = H2 at *
    have hc2 := hc1.same' A1 s2
    obtain ⟨us, hus, _⟩ := id hc2.und
    refine ⟨_, rfl, p, _, _, _, _, rfl, hc2.ob, T.e.o.r.c.cor.c, T.e.o.r.c.cor.n _ (by simp), lc_undone, L.ul, _, rfl, .inl (SqL.of hus), fun q2 nq2 => ?_⟩
    have s3 := sameUpd (o := .lst (us.map V.ref)) (Same.refl H2) nq2
    have hq2 := @upd_same H2 q2 (.lst (us.map V.ref))
    replace sm1 := sm1.trans s3
    generalize upd H2 q2 (.lst (us.map V.ref)) = H3 at *
    have hc3 := hc2.same' A1 s3
    refine ⟨(by show 3 ≤ sizeLine; decide), fun q3 nq3 => ?_⟩
    have s4 := sameUpd (o := .tup [.ref L.na, .ref q1, .ref q2]) (Same.refl H3) nq3
    have hq3 := @upd_same H3 q3 (.tup [.ref L.na, .ref q1, .ref q2])
    replace sm1 := sm1.trans s4
    generalize upd H3 q3 (.tup [.ref L.na, .ref q1, .ref q2]) = H4 at *
    have hc4 := hc3.same' A1 s4
    refine ⟨_, rfl, la, rfl, ⟨_, SqL.of (sm1 _ _ hlaH)⟩, fun D nD => ?_⟩
    have n0D : H0 D = none := hc4.same.free nD
    have DL : ∀ a ∈ L.all p, a ≠ D := fun a ha z => by
      have := hc4.tracked a ha
      rw [z, nD] at this
      exact this rfl
    refine lc_list (K := K) (a := la) (xs := oas.map V.ref) (fun i H5 => ∃ (Li : CLoc) (ci : CSt) (di rest : List PyData) (vs : List V), CorAt K H0 H5 p Li pln ci ∧ Li.own = L.own ∧ Li.sd = L.sd ∧ CorOk pln (kk + i) ci ∧ execAll pln ci (ops.drop i) = some (cF, rest) ∧ ds = di ++ rest ∧ di.length = i ∧
      H5 D = some (.lst vs) ∧ D ∉ Li.all p ∧ DpAll K (cutH H5 (D :: Li.all p)) vs di) ?_ (fun i H5 _ ⟨_, _, _, _, _, hc5, _⟩ => SqL.of (hc5.same _ _ hla)) ?_ ?_
    · refine ⟨L, c, [], ds, [], hc4.same' A1 (sameUpd (Same.refl H4) nD), rfl, rfl, co, hex, rfl, rfl, upd_same, fun z => DL D z rfl, .nil⟩
    · rintro i x H5 hx ⟨Li, ci, di, rest, vs, hc5, eo, es, cok, hx5, hds, hdl, hD, nDL, hdp⟩
      rw [List.getElem?_map] at hx
      cases hoa : oas[i]? with
      | none => rw [hoa] at hx; cases hx
      | some oa =>
        rw [hoa] at hx
        cases hx
        obtain ⟨op, hop, hok⟩ := pairedL hops hoa
        have hil : i < ops.length := (List.getElem?_eq_some_iff.mp hop).1
        have edr : ops.drop i = op :: ops.drop (i + 1) := by
          rw [List.drop_eq_getElem_cons hil]
          have := (List.getElem?_eq_some_iff.mp hop).2
          rw [this]
        rw [edr] at hx5
        obtain ⟨c', r', x1, x2, x3⟩ := all_cons hx5
        have x3 : rest = resD pln ci op :: r' := x3
        have hlen := DpAll.len hdp
        refine ⟨rfl, _, rfl, p, _, _, rfl, hc5.ob, lc_no_execute, _, rfl, cutH H5 (Li.all p), p, oa, Li, pln, ci, op, rfl, (cok.opIn wf (by omega) hc5.refit), hok.t.sameH hc5.same, fun e he => (by rw [x1] at he; cases he), fun c2 he L' H6 v hc6 eo6 es6 hres => ?_⟩
        rw [x1] at he
        cases he
        have BD : cutH H5 (Li.all p) D = some (.lst vs) := (cutH_out nDL).trans hD
        have hD6 := hc6.same _ _ BD
        have nDL6 : D ∉ L'.all p := fun z => by rw [hc6.new D z] at BD; cases BD
        have hdv := res_dp (K := K) (bad := D :: L'.all p) (fun a ha => (List.mem_cons.mp ha).elim (fun z => .inr (by rw [z, BD]; simp)) .inl) hres
        have sB : Same (cutH H5 (D :: Li.all p)) (cutH H6 (D :: L'.all p)) := fun a o e => by
          have ha : a ∉ D :: Li.all p := fun z => by rw [cutH_in z] at e; cases e
          rw [cutH_out ha] at e
          have e5 : cutH H5 (Li.all p) a = some o := (cutH_out fun z => ha (List.mem_cons_of_mem _ z)).trans e
          rw [cutH_out]
          · exact hc6.same _ _ e5
          · intro z
            rcases List.mem_cons.mp z with z | z
            · exact ha (by rw [z]; exact List.mem_cons_self)
            · rw [hc6.new a z] at e5
              cases e5
        have sD : Same (cutH H6 (D :: L'.all p)) (cutH (upd H6 D (.lst (vs ++ [v]))) (D :: L'.all p)) := fun a o e => by
          have ha : a ∉ D :: L'.all p := fun z => by rw [cutH_in z] at e; cases e
          rw [cutH_out ha] at e ⊢
          rw [upd_ne (fun z => ha (by rw [z]; exact List.mem_cons_self))]
          exact e
        refine ⟨vs, hD6, by rw [hlen, hdl, sizeLine_eq]; omega, L', c', di ++ [resD pln ci op], r', vs ++ [v], ?_, eo6.trans eo, es6.trans es, ?_, x2, ?_, ?_, upd_same, nDL6, ?_⟩
        · refine (hc6.mono hc5.cut).keep A1 (Fz.put (Fz.refl _) hD6 (fun q => q)) (sameUpd (hc5.cut.trans hc6.same) n0D) fun a ha => ?_
          exact upd_ne (fun z => nDL6 (z ▸ ha))
        · have := cok.exec wf x1
          rw [Nat.add_assoc] at this
          exact this
        · rw [hds, x3, List.append_assoc]
          rfl
        · rw [List.length_append, hdl]
          rfl
        · exact DpAll.snoc (DpAll.sameH (sB.trans sD) hdp) (Dp.sameH sD hdv)
    · rintro H5 ⟨Li, ci, di, rest, vs, hc5, eo, es, cok, hx5, hds, hdl, hD, nDL, hdp⟩
      rw [List.length_map, hlo, List.drop_length] at hx5
      cases hx5
      rw [List.append_nil] at hds
      subst hds
      refine k Li H5 D hc5 eo es n0D (.lst (SqL.of ((cutH_out nDL).trans hD)) (DpAll.sameH (fun a o e => ?_) hdp))
      have ha : a ∉ D :: Li.all p := fun z => by rw [cutH_in z] at e; cases e
      rw [cutH_out ha] at e
      exact (cutH_out fun z => ha (List.mem_cons_of_mem _ z)).trans e
end
end Sw

end

section
set_option maxRecDepth 100000
set_option maxHeartbeats 4000000
/-! the corridor's operations, with the context of their exceptions told (None) -/
namespace Sw
open PySem PySem.Spec PyProof.Rows L2 SwA
section
variable {P : Program} {w : World} {K : PySem.W.Frag} {mg : Str → Option Value} {base : Heap}
theorem ok_turnN (T : OpsT K w mg) : FnE P w K mg base (L2N.CX P w) 4 ("Corridor", some "turn") ["self", "number"] (spTurn K) := by
  obtain ⟨fd, F⟩ := T.turn.d
  obtain ⟨fdI, GI, bI, kI⟩ := ok_is_int_in (P := P) (w := w) (base := base) T.r.c.m
  obtain ⟨fdR, GR, bR, kR⟩ := ok_replaced (P := P) (w := w) (base := base) T.r.c.m
  obtain ⟨fdS, GS, bS, kS⟩ := ok_state (P := P) (w := w) (base := base) T.r.c.m
  obtain ⟨fdC, GC, bC, kC⟩ := ok_record (P := P) (w := w) (base := base) T.r
  obtain ⟨tT, mT⟩ := T.TURN
  refine ⟨fd, F.ok sc_turn (fun vs H Q E h => ?_) (fun cdv A outer s H vs Q E hr h => ?_), F.bindsN fun _ _ _ _ _ _ us hl => match us, hl with | [_, _], _ => rfl, F.kp⟩
  · obtain ⟨H0, p, L, pln, c, v, n, rfl, _⟩ := h
    rfl
  · obtain ⟨H0, p, L, pln, c, v, n, rfl, hi, hv, hbad, hok⟩ := h
    have hr1 : Room 1 _ := hr.mono (by decide)
    have hr2 : Room 2 _ := hr.mono (by decide)
    refine ⟨_, (pss_cons (ps_asg (pe_fld (pv 0) rfl) (pg_tup rfl (pgs_cons (pg_name (i := 2) sc_turn.nd rfl (.inl rfl)) (pgs_cons (pg_name (i := 3) sc_turn.nd rfl (.inl rfl)) (pgs_cons (pg_name (i := 4) sc_turn.nd rfl (.inl rfl)) pgs_nil)))))
      (pss_cons (ps_if (pt_not (pt_val (pe_call GI hr1 rfl T.r.c.m.is_int_in.g kI bI .nil pass0 (pa_cons (pv 1) (pa_cons pe_int (pa_cons (pe_op op_sub (pe_callB call_len_seq (by rfl) T.r.c.m.lo.p.l.len boot_len (pa_cons (pe_fld (pv 2) rfl) pa_nil)) pe_int) pa_nil))))))
        (pss_one (L2N.ps_raise rfl (L2N.takes_of rfl rfl rfl rfl) (L2N.pmk_own PySem.F.excBase_ValueError T.number.q T.number.g T.number.k (raises_own T.number.s T.number.t) rfl))) pss_nil)
      (pss_cons (ps_asg (pe_ix ix_tup (pe_fld (pv 2) rfl) (pv 1) (fun _ _ => rfl)) (pg_tup rfl (pgs_cons (pg_name (i := 5) sc_turn.nd rfl (.inl rfl)) (pgs_cons (pg_name (i := 6) sc_turn.nd rfl (.inl rfl)) (pgs_cons (pg_name (i := 7) sc_turn.nd rfl (.inl rfl)) pgs_nil)))))
      (pss_cons (ps_set (i := 8) sc_turn.nd rfl (.inl rfl) (pe_call GR hr1 rfl T.r.c.m.replaced.g kR bR .nil pass0 (pa_cons (pe_fld (pv 2) rfl) (pa_cons (pv 1) (pa_cons (pe_tup (pa_cons (pv 5) (pa_cons (pe_not (pv 6)) (pa_cons (pv 7) pa_nil)))) pa_nil)))))
      (pss_cons (ps_expr (pe_meth (pv 0) T.r.c.cor.c T.r.record.m GC hr1 bC .nil pass0 (pa_cons (pe_glob (v := .str "turn") rfl mT ⟨_, rfl⟩) (pa_cons (pe_tup (pa_cons (pe_make T.r.c.m.state.m GS hr2 rfl T.r.c.m.state.g bS .nil pass0 (pa_cons (pe_fld (pv 2) rfl) (pa_cons (pv 8) pa_nil))) (pa_cons (pv 3) (pa_cons (pv 4) pa_nil)))) pa_nil))))
      (pss_one (ps_ret (pv 5)))))))), ?_⟩
    have hc := hi.cor
    obtain ⟨sa, su, e1, hst, hsu⟩ := id hc.now
    obtain ⟨ds, fa, ra, ras, q1, q2, q3, q4⟩ := id hst
    have hlr : ras.length = pln.robots.length := by rw [q4.length, hi.wf.now.wf.ro]
    refine ⟨_, rfl, p, _, _, _, _, rfl, hc.ob, T.r.c.cor.c, T.r.c.cor.n _ (by simp), lc_now, L.na, _, rfl, SqT.of e1, rfl, _, _, rfl, _, _, rfl, _, _, rfl, rfl, ?_⟩
    refine ⟨_, rfl, _, rfl, sa, _, ds, _, _, rfl, q1, T.r.c.m.state.c, T.r.c.m.state.n _ (by simp), ls_robots, ra, _, rfl, .inr (SqT.of q3), _, _, rfl, rfl, ?_⟩
    refine ⟨v, n, 0, _, rfl, hv, ?_⟩
    rw [List.length_map, hlr]
    refine ⟨_, rfl, ?_⟩
    cases hb : isIntIn v 0 ((pln.robots.length : Int) - 1) with
    | false => exact hbad hb H (Same.refl H)
    | true =>
      obtain ⟨i, rfl⟩ : ∃ i, v = .int i := by
        cases v <;> first | exact ⟨_, rfl⟩ | cases hb
      have hb' : (decide (0 ≤ i) && decide (i ≤ (pln.robots.length : Int) - 1)) = true := hb
      rw [Bool.and_eq_true, decide_eq_true_eq, decide_eq_true_eq] at hb'
      obtain ⟨kk, rfl⟩ : ∃ kk : Nat, i = kk := ⟨i.toNat, by omega⟩
      have hk : kk < pln.robots.length := by omega
      have hk2 : kk < ras.length := by omega
      obtain ⟨ri, hri, hrob⟩ := Paired_idx q4 (List.getElem?_eq_getElem hk2)
      have hg : c.now.st.robots.getD kk (0, true, 0) = ri := by rw [List.getD_eq_getElem?_getD, hri]; rfl
      have k := hok kk rfl hk
      rw [hg] at k
      have em : turnNow c.now kk = ⟨⟨c.now.st.floor, c.now.st.robots.set kk (turnR ri)⟩, c.now.tick, c.now.sums⟩ := by unfold turnNow; rw [hg]
      rw [em] at k
      refine ⟨_, rfl, sa, _, ds, _, _, rfl, q1, T.r.c.m.state.c, T.r.c.m.state.n _ (by simp), ls_robots, _, rfl, ra, _, _, _, rfl, rfl, SqT.of q3, atI_nat (by rw [List.getElem?_map, List.getElem?_eq_getElem hk2]; rfl), ?_⟩
      refine ⟨ras[kk], _, rfl, SqT.of hrob, rfl, _, _, rfl, _, _, rfl, _, _, rfl, rfl, ?_⟩
      refine ⟨_, rfl, sa, _, ds, _, _, rfl, q1, T.r.c.m.state.c, T.r.c.m.state.n _ (by simp), ls_robots, _, rfl, _, rfl, _, rfl, _, rfl, _, rfl, (by show 3 ≤ sizeLine; decide), fun rb nrb => ?_⟩
      have s1 := sameUpd (o := .tup [.int ri.1, .bl (!ri.2.1), .int ri.2.2]) (Same.refl H) nrb
      have hrb := @upd_same H rb (.tup [.int ri.1, .bl (!ri.2.1), .int ri.2.2])
      have hc1 := hc.same' T.r.c.ap s1
      have hst1 := hst.same s1
      generalize upd H rb (.tup [.int ri.1, .bl (!ri.2.1), .int ri.2.2]) = H1 at *
      refine ⟨ra, kk, .ref rb, ras.map V.ref, rfl, s1 _ _ q3, by rw [List.length_map]; exact hk2, by rw [List.length_map]; have := hi.n2; omega, fun rt H2 s2 hrt => ?_⟩
      have hc2 := hc1.same' T.r.c.ap s2
      have s12 := s1.trans s2
      refine ⟨_, rfl, p, _, _, rfl, hc2.ob, lc_no_record, ?_⟩
      refine ⟨_, rfl, sa, _, ds, _, _, rfl, s12 _ _ q1, T.r.c.m.state.c, T.r.c.m.state.n _ (by simp), ls_floor, _, rfl, ?_⟩
      intro x dx0 nx ndx ne0
      refine init_at (names := ["floor", "robots"]) rfl nx ndx fun H3 s3 hx => ⟨rfl, ?_⟩
      obtain ⟨dxs, hx⟩ := hx
      have hc3 := hc2.same' T.r.c.ap s3
      have hst3 : StateAt K H3 x ⟨c.now.st.floor, c.now.st.robots.set kk (turnR ri)⟩ := by
        refine ⟨dxs, fa, rt, ras.set kk rb, hx, s3 _ _ (s12 _ _ q2), ?_, ?_⟩
        · rw [List.map_set]
          exact s3 _ _ hrt
        · have q4' : Paired (Rob3At H3) ras c.now.st.robots := Paired.mapP q4 fun _ _ q => s3 _ _ (s12 _ _ q)
          have hr3 : Rob3At H3 rb (turnR ri) := s3 _ _ (s2 _ _ hrb)
          exact Paired_set hr3 kk q4'
      refine ⟨_, rfl, _, rfl, (by show 3 ≤ sizeLine; decide), fun nb nnb => ?_⟩
      have s4 := sameUpd (o := .tup [.ref x, .int c.now.tick, .ref su]) (Same.refl H3) nnb
      refine ⟨H0, p, nb, L, pln, c, wTurn, ⟨⟨c.now.st.floor, c.now.st.robots.set kk (turnR ri)⟩, c.now.tick, c.now.sums⟩, rfl, hc3.same' T.r.c.ap s4, ⟨x, su, upd_same, hst3.same s4, s4 _ _ (s3 _ _ (s12 _ _ hsu))⟩, hi.lp, fun L' H' hc' h1 h2 => ?_⟩
      exact ⟨_, rfl, k L' H' hc' h1 h2⟩
theorem ok_putN (T : OpsT K w mg) : FnE P w K mg base (L2N.CX P w) 4 ("Corridor", some "put") ["self", "tile", "sign"] (spPut K) := by
  obtain ⟨fd, F⟩ := T.put.d
  obtain ⟨fdI, GI, bI, kI⟩ := ok_is_int_in (P := P) (w := w) (base := base) T.r.c.m
  obtain ⟨fdR, GR, bR, kR⟩ := ok_replaced (P := P) (w := w) (base := base) T.r.c.m
  obtain ⟨fdS, GS, bS, kS⟩ := ok_state (P := P) (w := w) (base := base) T.r.c.m
  obtain ⟨fdC, GC, bC, kC⟩ := ok_record (P := P) (w := w) (base := base) T.r
  obtain ⟨tT, mT⟩ := T.PUT
  refine ⟨fd, F.ok sc_put (fun vs H Q E h => ?_) (fun cdv A outer s H vs Q E hr h => ?_), F.bindsN fun _ _ _ _ _ _ us hl => match us, hl with | [_, _, _], _ => rfl, F.kp⟩
  · obtain ⟨H0, p, L, pln, c, v, v2, n, n2, rfl, _⟩ := h
    rfl
  · obtain ⟨H0, p, L, pln, c, v, v2, n, n2, rfl, hi, hv, hv2, hbad, hbad2, hok⟩ := h
    have hr1 : Room 1 _ := hr.mono (by decide)
    have hr2 : Room 2 _ := hr.mono (by decide)
    refine ⟨_, (pss_cons (ps_asg (pe_fld (pv 0) rfl) (pg_tup rfl (pgs_cons (pg_name (i := 3) sc_put.nd rfl (.inl rfl)) (pgs_cons (pg_name (i := 4) sc_put.nd rfl (.inl rfl)) (pgs_cons (pg_name (i := 5) sc_put.nd rfl (.inl rfl)) pgs_nil)))))
      (pss_cons (ps_if (pt_not (pt_val (pe_call GI hr1 rfl T.r.c.m.is_int_in.g kI bI .nil pass0 (pa_cons (pv 1) (pa_cons pe_int (pa_cons (pe_op op_sub (pe_callB call_len_seq (by rfl) T.r.c.m.lo.p.l.len boot_len (pa_cons (pe_fld (pv 3) rfl) pa_nil)) pe_int) pa_nil))))))
        (pss_one (L2N.ps_raise rfl (L2N.takes_of rfl rfl rfl rfl) (L2N.pmk_own PySem.F.excBase_ValueError T.number.q T.number.g T.number.k (raises_own T.number.s T.number.t) rfl))) pss_nil)
      (pss_cons (ps_if (PW.pt (pw_or (pt_not (pt_val (pe_callB call_isi (by rfl) T.r.c.m.isinstance (by decide +kernel) (pa_cons (pv 2) (pa_cons (pe_bltn (v := .ty "str") (by rfl) T.r.c.str (by decide +kernel) rfl) pa_nil)))))
          (pw_or1 (pt_cmpR op_notIn_seq (pv 2) (pe_fld (pe_fld (pv 0) rfl) rfl) rfl))))
        (pss_one (L2N.ps_raise rfl (L2N.takes_of rfl rfl rfl rfl) (L2N.pmk_own PySem.F.excBase_ValueError T.sign.q T.sign.g T.sign.k (raises_own T.sign.s T.sign.t) rfl))) pss_nil)
      (pss_cons (ps_set (i := 6) sc_put.nd rfl (.inl rfl) (pe_call GR hr1 rfl T.r.c.m.replaced.g kR bR .nil pass0 (pa_cons (pe_fld (pv 3) rfl) (pa_cons (pv 1) (pa_cons (pe_bmN PySem.F.slot_tuple_index PySem.F.type_tuple_index mt_tup_index (pe_fld (pe_fld (pv 0) rfl) rfl) (pa_cons (pv 2) pa_nil)) pa_nil)))))
      (pss_cons (ps_expr (pe_meth (pv 0) T.r.c.cor.c T.r.record.m GC hr1 bC .nil pass0 (pa_cons (pe_glob (v := .str "put") rfl mT ⟨_, rfl⟩) (pa_cons (pe_tup (pa_cons (pe_make T.r.c.m.state.m GS hr2 rfl T.r.c.m.state.g bS .nil pass0 (pa_cons (pv 6) (pa_cons (pe_fld (pv 3) rfl) pa_nil))) (pa_cons (pv 4) (pa_cons (pv 5) pa_nil)))) pa_nil))))
      (pss_one (ps_ret (pe_ix ix_tup (pe_fld (pe_fld (pv 0) rfl) rfl) (pe_ix ix_tup (pe_fld (pv 3) rfl) (pv 1) (fun _ _ => rfl)) (fun _ _ => rfl))))))))), ?_⟩
    have hc := hi.cor
    obtain ⟨sa, su, e1, hst, hsu⟩ := id hc.now
    obtain ⟨ds, fa, ra, ras, q1, q2, q3, q4⟩ := id hst
    have hlf : c.now.st.floor.length = pln.floor.length := hi.wf.now.wf.fl
    refine ⟨_, rfl, p, _, _, _, _, rfl, hc.ob, T.r.c.cor.c, T.r.c.cor.n _ (by simp), lc_now, L.na, _, rfl, SqT.of e1, rfl, _, _, rfl, _, _, rfl, _, _, rfl, rfl, ?_⟩
    refine ⟨_, rfl, _, rfl, sa, _, ds, _, _, rfl, q1, T.r.c.m.state.c, T.r.c.m.state.n _ (by simp), ls_floor, fa, _, rfl, .inr (SqT.of q2), _, _, rfl, rfl, ?_⟩
    refine ⟨v, n, 0, _, rfl, hv, ?_⟩
    rw [List.length_map, hlf]
    refine ⟨_, rfl, ?_⟩
    cases hb : isIntIn v 0 ((pln.floor.length : Int) - 1) with
    | false => exact hbad hb H (Same.refl H)
    | true =>
      have hbad3 := hbad2 hb
      obtain ⟨i, rfl⟩ : ∃ i, v = .int i := by
        cases v <;> first | exact ⟨_, rfl⟩ | cases hb
      have hb' : (decide (0 ≤ i) && decide (i ≤ (pln.floor.length : Int) - 1)) = true := hb
      rw [Bool.and_eq_true, decide_eq_true_eq, decide_eq_true_eq] at hb'
      obtain ⟨kk, rfl⟩ : ∃ kk : Nat, i = kk := ⟨i.toNat, by omega⟩
      have hk : kk < pln.floor.length := by omega
      have isBad : ∀ m : String, n2 = m → m ≠ "str" → ∀ cs ∈ pln.signs, v2 ≠ sV cs := fun m hm hne cs _ z => by
        subst z
        cases hv2
        exact hne hm.symm
      cases hv2 with
      | int i => exact ⟨_, rfl, _, _, _, _, false, rfl, .ty "str", (ArN.int (K := K) i).ty, kit_ty (by decide +kernel), _, rfl, hbad3 (isBad _ rfl (by decide)) H (Same.refl H)⟩
      | bl b => exact ⟨_, rfl, _, _, _, _, false, rfl, .ty "str", (ArN.bl (K := K) b).ty, kit_ty (by decide +kernel), _, rfl, hbad3 (isBad _ rfl (by decide)) H (Same.refl H)⟩
      | non => exact ⟨_, rfl, _, _, _, _, false, rfl, .ty "str", (ArN.non (K := K)).ty, kit_ty (by decide +kernel), _, rfl, hbad3 (isBad _ rfl (by decide)) H (Same.refl H)⟩
      | tup e => exact ⟨_, rfl, _, _, _, _, false, rfl, .ty "str", (ArN.tup (K := K) e).ty, kit_ty (by decide +kernel), _, rfl, hbad3 (isBad _ rfl (by decide)) H (Same.refl H)⟩
      | lst e => exact ⟨_, rfl, _, _, _, _, false, rfl, .ty "str", (ArN.lst (K := K) e).ty, kit_ty (by decide +kernel), _, rfl, hbad3 (isBad _ rfl (by decide)) H (Same.refl H)⟩
      | str z =>
        obtain ⟨cs, rfl⟩ := sx_surj z
        refine ⟨_, rfl, _, _, _, _, true, rfl, .ty "str", (ArN.str (K := K) _).ty, kit_ty (by decide +kernel), _, rfl, ?_⟩
        obtain ⟨dp, sga, mda, fla, rba, rda, ras2, g1, g2, g3, g4, g5⟩ := id hc.plan
        refine ⟨_, rfl, _, rfl, p, _, _, _, _, rfl, hc.ob, T.r.c.cor.c, T.r.c.cor.n _ (by simp), lc_parsed, L.pa, _, dp, _, _, rfl, g1, T.r.c.m.lo.plan.c, T.r.c.m.lo.plan.n _ (by simp), lpl_signs, sga, _, rfl, .inr g2.sq, rfl, flat_sx pln.signs, ?_⟩
        rw [inV_sx]
        refine ⟨_, rfl, ?_⟩
        by_cases hm : cs ∈ pln.signs
        · rw [decide_eq_true hm]
          obtain ⟨g, hg, hno⟩ := first_at hm
          have k := hok kk g rfl hk cs hg rfl hno
          have hgl : g < pln.signs.length := (List.getElem?_eq_some_iff.mp hg).1
          refine ⟨_, rfl, sa, _, ds, _, _, rfl, q1, T.r.c.m.state.c, T.r.c.m.state.n _ (by simp), ls_floor, _, rfl, ?_⟩
          refine ⟨_, rfl, p, _, _, _, _, rfl, hc.ob, T.r.c.cor.c, T.r.c.cor.n _ (by simp), lc_parsed, L.pa, _, dp, _, _, rfl, g1, T.r.c.m.lo.plan.c, T.r.c.m.lo.plan.n _ (by simp), lpl_signs, ⟨sga, _, rfl, g2⟩, _, rfl, sga, pln.signs.map sx, sx cs, g, rfl, rfl, ?_, ?_, ?_, ?_⟩
          · rw [List.map_map]
            exact g2.sq
          · rw [List.getElem?_map, hg]
            rfl
          · intro m hm1 z
            rw [List.getElem?_map] at z
            cases hq : pln.signs[m]? with
            | none => rw [hq] at z; cases z
            | some cs2 =>
              rw [hq] at z
              have : cs2 = cs := sx_inj (Option.some.inj z)
              exact hno m hm1 (by rw [hq, this])
          refine ⟨fa, kk, .int g, c.now.st.floor.map iV, rfl, q2, by rw [List.length_map]; omega, by rw [List.length_map]; have := hi.n1; omega, fun ft H2 s2 hft => ?_⟩
          have hc2 := hc.same' T.r.c.ap s2
          refine ⟨_, rfl, p, _, _, rfl, hc2.ob, lc_no_record, ?_⟩
          refine ⟨_, rfl, _, rfl, sa, _, ds, _, _, rfl, s2 _ _ q1, T.r.c.m.state.c, T.r.c.m.state.n _ (by simp), ls_robots, ?_⟩
          intro x dx0 nx ndx ne0
          refine init_at (names := ["floor", "robots"]) rfl nx ndx fun H3 s3 hx => ⟨rfl, ?_⟩
          obtain ⟨dxs, hx⟩ := hx
          have hc3 := hc2.same' T.r.c.ap s3
          have hst3 : StateAt K H3 x ⟨c.now.st.floor.set kk g, c.now.st.robots⟩ := by
            refine ⟨dxs, ft, ra, ras, hx, ?_, s3 _ _ (s2 _ _ q3), Paired.mapP q4 fun _ _ q => s3 _ _ (s2 _ _ q)⟩
            rw [List.map_set]
            exact s3 _ _ hft
          refine ⟨_, rfl, _, rfl, (by show 3 ≤ sizeLine; decide), fun nb nnb => ?_⟩
          have s4 := sameUpd (o := .tup [.ref x, .int c.now.tick, .ref su]) (Same.refl H3) nnb
          have hst4 := hst.same ((s2.trans s3).trans s4)
          have hc4 := hc3.same' T.r.c.ap s4
          have hsu4 := s4 _ _ (s3 _ _ (s2 _ _ hsu))
          have hst5 := hst3.same s4
          have hnb : NowAt K (upd H3 nb (.tup [.ref x, .int c.now.tick, .ref su])) nb (putNow c.now kk g) := ⟨x, su, upd_same, hst5, hsu4⟩
          generalize upd H3 nb (.tup [.ref x, .int c.now.tick, .ref su]) = H4 at *
          refine ⟨cutH H4 (L.all p), p, nb, L, pln, c, wPut, _, rfl, hc4.refit, hnb, hi.lp, fun L' H' hc' h1 h2 => ?_⟩
          have fz := hc4.fzOf hc'.same
          obtain ⟨ds5, fa5, ra5, ras5, z1, z2, z3, z4⟩ := hst4.fz T.r.c.ap fz
          obtain ⟨dp2, sga2, mda2, fla2, rba2, rda2, ras3, w1, w2, w3, w4, w5⟩ := id hc'.plan
          have hk3 : kk < c.now.st.floor.length := by omega
          have hfl : c.now.st.floor[kk] < pln.signs.length := hi.wf.now.si _ (List.getElem_mem hk3)
          have eg : c.now.st.floor.getD kk 0 = c.now.st.floor[kk] := by simp [List.getD_eq_getElem?_getD, List.getElem?_eq_getElem hk3]
          have eg2 : pln.signs.getD (c.now.st.floor[kk]) [] = pln.signs[c.now.st.floor[kk]] := by simp [List.getD_eq_getElem?_getD, List.getElem?_eq_getElem hfl]
          have kf := k L' H' (hc'.mono hc4.cut) h1 h2
          rw [eg, eg2] at kf
          refine ⟨_, rfl, p, _, _, _, _, rfl, hc'.ob, T.r.c.cor.c, T.r.c.cor.n _ (by simp), lc_parsed, L'.pa, _, dp2, _, _, rfl, w1, T.r.c.m.lo.plan.c, T.r.c.m.lo.plan.n _ (by simp), lpl_signs, ?_⟩
          refine ⟨_, rfl, sa, _, ds5, _, _, rfl, z1, T.r.c.m.state.c, T.r.c.m.state.n _ (by simp), ls_floor, _, rfl, fa5, _, _, _, rfl, rfl, SqT.of z2, atI_nat (by rw [List.getElem?_map, List.getElem?_eq_getElem hk3]; rfl), ?_⟩
          refine ⟨sga2, _, _, _, rfl, rfl, w2.sq, atI_nat (by rw [List.getElem?_map, List.getElem?_eq_getElem hfl]; rfl), kf⟩
        · rw [decide_eq_false hm]
          exact hbad3 (fun cs2 h2 z => hm (sx_inj (V.str.inj z) ▸ h2)) H (Same.refl H)
theorem ok_stepN (T : OpsT K w mg) : FnE P w K mg base (L2N.CX P w) 6 ("Corridor", some "step") ["self", "count"] (spStep K) := by
  obtain ⟨fd, F⟩ := T.step.d
  obtain ⟨fdI, GI, bI, kI⟩ := ok_is_int_in (P := P) (w := w) (base := base) T.r.c.m
  obtain ⟨fdN, GN, bN, kN⟩ := ok_next_tick (P := P) (w := w) (base := base) T.r.c.m
  obtain ⟨fdC, GC, bC, kC⟩ := ok_record (P := P) (w := w) (base := base) T.r
  obtain ⟨tT, mT⟩ := T.STEP
  obtain ⟨tM, mM⟩ := T.MAX_STEP
  refine ⟨fd, F.ok sc_step (fun vs H Q E h => ?_) (fun cdv A outer s H vs Q E hr h => ?_), F.bindsN fun _ _ _ _ _ _ us hl => match us, hl with | [_, _], _ => rfl, F.kp⟩
  · obtain ⟨H0, p, L, pln, c, v, n, rfl, _⟩ := h
    rfl
  · obtain ⟨H0, p, L, pln, c, v, n, rfl, hi, hv, hbad, hok⟩ := h
    have hr1 : Room 1 _ := hr.mono (by decide)
    have hr4 : Room 4 _ := hr.mono (by decide)
    refine ⟨_, (pss_cons (ps_if (pt_not (pt_val (pe_call GI hr1 rfl T.r.c.m.is_int_in.g kI bI .nil pass0 (pa_cons (pv 1) (pa_cons pe_int (pa_cons (pe_glob (v := .int 500) rfl mM ⟨_, rfl⟩) pa_nil))))))
        (pss_one (L2N.ps_raise rfl (L2N.takes_of rfl rfl rfl rfl) (L2N.pmk_own PySem.F.excBase_ValueError T.number.q T.number.g T.number.k (raises_own T.number.s T.number.t) rfl))) pss_nil)
      (pss_cons (ps_asg (pe_fld (pv 0) rfl) (pg_tup rfl (pgs_cons (pg_name (i := 2) sc_step.nd rfl (.inl rfl)) (pgs_cons (pg_name (i := 3) sc_step.nd rfl (.inl rfl)) (pgs_cons (pg_name (i := 4) sc_step.nd rfl (.inl rfl)) pgs_nil)))))
      (pss_cons (ps_set (i := 5) sc_step.nd rfl (.inl rfl) (pe_lst pa_nil))
      (pss_cons (ps_for (passes_of rfl) rfl (pi_range1 (by rfl) T.r.c.m.lo.p.range (pa_cons (pv 1) pa_nil)) (pg_name (i := 6) sc_step.nd rfl (.inl rfl))
        (pss_cons (ps_set (i := 7) sc_step.nd rfl (.inr rfl) (pe_call GN hr4 rfl T.r.c.m.next_tick.g kN bN .nil pass0 (pa_cons (pe_fld (pv 0) rfl) (pa_cons (pv 2) pa_nil))))
        (pss_cons (ps_set (i := 2) sc_step.nd rfl (.inl rfl) (pe_fld (pv 7) rfl))
        (pss_cons (ps_set (i := 4) sc_step.nd rfl (.inl rfl) (pe_callTy call_tuple_of (by rfl) T.r.c.m.lo.p.tuple (by decide +kernel) (pa_cons
          (pe_lc (own := [("tile", 8), ("number", 9)]) (g := gTup K 2 (gCons (gName 8) (gCons (gName 9) gNil))) (tt := tYes) (te := tOp (rI0 fun i j => .int (i + j)) (tVar 9) (tBMN (rCntT K) (tFld K (tVar 7) "swept") (tCons (tVar 8) tNil))) rfl sc_step.nd (pi_enumT (by rfl) T.enumerate (pa_cons (pv 4) pa_nil))
            (blkOk_by (own := [("tile", 8), ("number", 9)]) (N := stN) (sc := defScope s_Corridor_step) (by decide +kernel)) (fun _ _ _ _ _ => pg_tup rfl (pgs_cons (pg_name (i := 8) sc_step.nd rfl (Or.inl rfl)) (pgs_cons (pg_name (i := 9) sc_step.nd rfl (Or.inl rfl)) pgs_nil))) (fun _ _ _ _ _ => pts_nil)
            (fun _ _ _ _ _ => pe_op op_add (pv 9) (pe_bmN PySem.F.slot_tuple_count PySem.F.type_tuple_count mt_tcount (pe_fld (pv 7) rfl) (pa_cons (pv 8) pa_nil)))) pa_nil)))
        (pss_one (ps_expr (pe_bm PySem.F.plainAttrs_list PySem.F.slot_list_append PySem.F.type_list_append mt_append (pv 5) (pa_cons (pe_callTy call_list_of (by rfl) T.r.c.list (by decide +kernel) (pa_cons (pe_fld (pv 7) rfl) pa_nil)) pa_nil))))))))
      (pss_cons (ps_expr (pe_meth (pv 0) T.r.c.cor.c T.r.record.m GC hr1 bC .nil pass0 (pa_cons (pe_glob (v := .str "step") rfl mT ⟨_, rfl⟩) (pa_cons (pe_tup (pa_cons (pv 2) (pa_cons (pe_op op_add (pv 3) (pv 1)) (pa_cons (pv 4) pa_nil)))) pa_nil))))
      (pss_one (ps_ret (pv 5)))))))), ?_⟩
    have hc := hi.cor
    refine ⟨_, rfl, v, n, 0, 500, rfl, hv, ?_⟩
    refine ⟨_, rfl, ?_⟩
    cases hb : isIntIn v 0 500 with
    | false => exact hbad hb H (Same.refl H)
    | true =>
      obtain ⟨i, rfl⟩ : ∃ i, v = .int i := by
        cases v <;> first | exact ⟨_, rfl⟩ | cases hb
      have hb' : (decide (0 ≤ i) && decide (i ≤ 500)) = true := hb
      rw [Bool.and_eq_true, decide_eq_true_eq, decide_eq_true_eq] at hb'
      obtain ⟨kk, rfl⟩ : ∃ kk : Nat, i = kk := ⟨i.toNat, by omega⟩
      have k := hok kk rfl (by omega)
      obtain ⟨sa, su, e1, hst, hsu⟩ := id hc.now
      refine ⟨_, rfl, p, _, _, _, _, rfl, hc.ob, T.r.c.cor.c, T.r.c.cor.n _ (by simp), lc_now, L.na, _, rfl, SqT.of e1, rfl, _, _, rfl, _, _, rfl, _, _, rfl, rfl, ?_⟩
      refine ⟨(by show 0 ≤ sizeLine; decide), fun fl nfl => ?_⟩
      have s1 := sameUpd (o := .lst []) (Same.refl H) nfl
      have hfl := @upd_same H fl (.lst [])
      have hc1 := hc.same' T.r.c.ap s1
      have nfl0 : H0 fl = none := hc.same.free nfl
      have nfA : fl ∉ L.all p := hc.fresh nfl
      have hst1 := hst.same s1
      have hsu1 := s1 _ _ hsu
      generalize upd H fl (.lst []) = H1 at *
      refine ⟨_, rfl, _, rfl, by omega, by omega, ?_⟩
      rw [Int.toNat_natCast]
      have wfs := steps_wf hi.ru hi.wf.now.wf hi.wf.now.si hi.wf.now.su
      refine for_range (lo := 0) (n := kk) (fun i σ H5 => ∃ (sb su : Addr) (o6 o7 : Option V) (fs : List Addr), σ = [some (.ref p), some (.int kk), some (.ref sb), some (.int c.now.tick), some (.ref su), some (.ref fl), o6, o7, none, none] ∧ CorAt K H0 H5 p L pln c ∧
        StateAt K H5 sb (stepsM pln.rules c.now.st c.now.sums i).2.1 ∧ H5 su = some (.tup ((stepsM pln.rules c.now.st c.now.sums i).2.2.map iV)) ∧ H5 fl = some (.lst (fs.map V.ref)) ∧ Paired (LsAt H5) fs (stepsM pln.rules c.now.st c.now.sums i).1 ∧
        (∀ a ∈ fs, a ∉ L.all p ∧ H0 a = none) ∧ fl ∉ fs) ⟨sa, su, none, none, [], rfl, hc1, hst1, hsu1, hfl, .nil, by simp, by simp⟩ ?_ ?_
      · rintro i σ H5 hii ⟨sb, su5, o6, o7, fs, rfl, hc5, hst5, hsu5, hfl5, hfs5, hfa, hfn⟩
        obtain ⟨wf1, wf2, wf3⟩ := wfs i
        refine ⟨_, rfl, p, _, _, _, _, rfl, hc5.ob, T.r.c.cor.c, T.r.c.cor.n _ (by simp), lc_parsed, _, rfl, L.pa, sb, _, _, pln, _, rfl, hc5.plan, hst5, wf1, hi.n1, hi.n2, fun on H6 s6 hon => ?_⟩
        obtain ⟨dt, sw, wo, sc, t1, t2, t3, t4⟩ := id hon
        have hc6 := hc5.same' T.r.c.ap s6
        refine ⟨_, rfl, on, _, dt, _, _, rfl, t1, T.r.c.m.tick.c, T.r.c.m.tick.n _ (by simp), lt_state, ?_⟩
        refine ⟨_, rfl, su5, _, rfl, SqT.of (s6 _ _ hsu5), fun D nD => ?_⟩
        have hl5 : ((stepsM pln.rules c.now.st c.now.sums i).2.2.map iV).length = pln.floor.length := by rw [List.length_map, wf3]
        refine lc_it (walk_enumT (K := K) (a := su5) (xs := (stepsM pln.rules c.now.st c.now.sums i).2.2.map iV)) (vs := [8, 9]) (fun j H7 => H7 D = some (.lst (((List.range j).map fun j => (stepsM pln.rules c.now.st c.now.sums i).2.2.getD j 0 + (nextM pln.rules (stepsM pln.rules c.now.st c.now.sums i).2.1).swept.count j).map iV)) ∧ Same H6 H7)
          ⟨upd_same, sameUpd (Same.refl H6) nD⟩ (fun j H7 _ ⟨_, sm⟩ => SqT.of (sm _ _ (s6 _ _ hsu5))) ?_ ?_
        · rintro j x H7 H8 hj ⟨hD, sm⟩ ⟨T0, x0, y0, rfl, nT0, rfl, hx0, hy0⟩
          cases hx0
          replace hy0 : ((stepsM pln.rules c.now.st c.now.sums i).2.2.map iV)[j]? = some y0 := hy0
          rw [List.getElem?_map] at hy0
          have hj2 : j < (stepsM pln.rules c.now.st c.now.sums i).2.2.length := by rw [← List.length_map (f := iV)]; exact hj
          rw [List.getElem?_eq_getElem hj2] at hy0
          cases hy0
          have s8 := sameUpd (o := .tup [.int (j : Nat), iV (stepsM pln.rules c.now.st c.now.sums i).2.2[j]]) (Same.refl H7) nT0
          have sm8 := sm.trans s8
          have hD8 := s8 _ _ hD
          refine ⟨T0, _, rfl, SqT.of upd_same, rfl, _, _, rfl, _, _, rfl, rfl, rfl, ?_⟩
          generalize upd H7 T0 (.tup [.int (j : Nat), iV (stepsM pln.rules c.now.st c.now.sums i).2.2[j]]) = H8 at *
          refine ⟨_, rfl, _, rfl, on, _, dt, _, _, rfl, sm8 _ _ t1, T.r.c.m.tick.c, T.r.c.m.tick.n _ (by simp), lt_swept, ⟨sw, _, rfl, t2.mono fun _ z => sm8 _ _ z⟩, _, rfl, ?_⟩
          refine ⟨sw, (nextM pln.rules (stepsM pln.rules c.now.st c.now.sums i).2.1).swept.map (fun n : Nat => (n : Int)), (j : Nat), rfl, rfl, ?_, ?_⟩
          · rw [List.map_map]
            exact (t2.mono fun _ z => sm8 _ _ z).sq
          · refine ⟨_, _, rfl, rfl, _, hD8, ?_, ?_, sameUpd sm8 nD⟩
            · rw [List.length_map, List.length_map, List.length_range, sizeLine_eq]
              have := hi.n1
              omega
            · rw [upd_same, addSums_take, List.map_append, count_iV]
              have eg : (stepsM pln.rules c.now.st c.now.sums i).2.2.getD j 0 = (stepsM pln.rules c.now.st c.now.sums i).2.2[j] := by simp [List.getD_eq_getElem?_getD, List.getElem?_eq_getElem hj2]
              rw [eg]
              rfl
        · rintro H7 ⟨hD, sm⟩
          have eS : ((List.range ((stepsM pln.rules c.now.st c.now.sums i).2.2.map iV).length).map fun j => (stepsM pln.rules c.now.st c.now.sums i).2.2.getD j 0 + (nextM pln.rules (stepsM pln.rules c.now.st c.now.sums i).2.1).swept.count j) = (stepsM pln.rules c.now.st c.now.sums (i + 1)).2.2 := by
            rw [List.length_map]
            rfl
          rw [eS] at hD
          refine ⟨D, _, rfl, .inl ⟨SqL.of hD, fun st nst => ?_⟩⟩
          have s8 := sameUpd (o := .tup ((stepsM pln.rules c.now.st c.now.sums (i + 1)).2.2.map iV)) (Same.refl H7) nst
          have hst8 := @upd_same H7 st (.tup ((stepsM pln.rules c.now.st c.now.sums (i + 1)).2.2.map iV))
          have sm8 := sm.trans s8
          generalize upd H7 st (.tup ((stepsM pln.rules c.now.st c.now.sums (i + 1)).2.2.map iV)) = H8 at *
          have hc8 := hc6.same' T.r.c.ap sm8
          have hfl8 := sm8 _ _ (s6 _ _ hfl5)
          refine ⟨_, rfl, .inl ⟨rfl, _, SqL.of hfl8⟩, _, rfl, on, _, dt, _, _, rfl, sm8 _ _ t1, T.r.c.m.tick.c, T.r.c.m.tick.n _ (by simp), lt_swept, sw, _, rfl, .inr (t2.mono fun _ z => sm8 _ _ z).sq, fun la nla => ?_⟩
          have s9 := sameUpd (o := .lst ((nextM pln.rules (stepsM pln.rules c.now.st c.now.sums i).2.1).swept.map iV)) (Same.refl H8) nla
          have hla := @upd_same H8 la (.lst ((nextM pln.rules (stepsM pln.rules c.now.st c.now.sums i).2.1).swept.map iV))
          have hc9 := hc8.same' T.r.c.ap s9
          have laA := hc8.fresh nla
          have la0 := hc8.same.free nla
          have hfl9 := s9 _ _ hfl8
          have lafl : la ≠ fl := fun z => by rw [z, hfl8] at nla; cases nla
          have lafs : la ∉ fs := fun z => by
            obtain ⟨l, hl, hal⟩ := Paired_memL hfs5 z
            have := sm8 _ _ (s6 _ _ hal)
            rw [nla] at this
            cases this
          have st9 := s6.trans (sm8.trans s9)
          generalize upd H8 la (.lst ((nextM pln.rules (stepsM pln.rules c.now.st c.now.sums i).2.1).swept.map iV)) = H9 at *
          refine ⟨fl, _, _, rfl, rfl, hfl9, ?_, ?_⟩
          · rw [List.length_map, hfs5.length, steps_len, sizeLine_eq]
            omega
          have f9 : Fz K H9 (upd H9 fl (.lst (fs.map V.ref ++ [.ref la]))) := Fz.put (Fz.refl _) hfl9 (fun q => q)
          have fzA := (Fz.same (sm8.trans s9)).trans f9
          refine ⟨sc, st, _, _, fs ++ [la], rfl, hc9.beside T.r.c.ap hfl9 (fun q => q) nfl0 nfA, t4.fz T.r.c.ap fzA, f9 _ _ (s9 _ _ hst8) trivial, ?_, ?_, ?_, ?_⟩
          · rw [upd_same, List.map_append]
            rfl
          · refine Paired_snoc (Paired_memMap hfs5 fun a l ha q => ?_) ?_
            · have naf : a ≠ fl := fun z => hfn (z ▸ ha)
              show (upd H9 fl _) a = _
              rw [upd_ne naf]
              exact st9 _ _ q
            · show (upd H9 fl _) la = _
              rw [upd_ne lafl]
              exact hla
          · intro a ha
            rcases List.mem_append.mp ha with z | z
            · exact hfa a z
            · rw [List.mem_singleton.mp z]
              exact ⟨laA, la0⟩
          · intro z
            rcases List.mem_append.mp z with z | z
            · exact hfn z
            · exact lafl (List.mem_singleton.mp z).symm
      · rintro σ H5 ⟨sb, su5, o6, o7, fs, rfl, hc5, hst5, hsu5, hfl5, hfs5, hfa, hfn⟩
        refine ⟨_, rfl, p, _, _, rfl, hc5.ob, lc_no_record, ?_⟩
        refine ⟨_, rfl, _, rfl, _, rfl, _, _, rfl, rfl, _, rfl, (by show 3 ≤ sizeLine; decide), fun nb nnb => ?_⟩
        have s6 := sameUpd (o := .tup [.ref sb, .int ((c.now.tick : Int) + (kk : Int)), .ref su5]) (Same.refl H5) nnb
        have hc6 := hc5.same' T.r.c.ap s6
        have hnb : NowAt K (upd H5 nb (.tup [.ref sb, .int ((c.now.tick : Int) + (kk : Int)), .ref su5])) nb (stepNow pln.rules c.now kk) := ⟨sb, su5, upd_same, hst5.same s6, s6 _ _ hsu5⟩
        have hfl6 := s6 _ _ hfl5
        have hfs6 : Paired (LsAt _) fs _ := Paired.mapP hfs5 fun _ _ q => s6 _ _ q
        generalize upd H5 nb (.tup [.ref sb, .int ((c.now.tick : Int) + (kk : Int)), .ref su5]) = H6 at *
        refine ⟨cutH H6 (L.all p), p, nb, L, pln, c, wStep, _, rfl, hc6.refit, hnb, hi.lp, fun L' H' hc' h1 h2 => ?_⟩
        have keep : ∀ a o, a ∉ L.all p → H6 a = some o → H' a = some o ∧ a ∉ L'.all p := fun a o ha ho => by
          have e : cutH H6 (L.all p) a = some o := (cutH_out ha).trans ho
          refine ⟨hc'.same _ _ e, fun z => ?_⟩
          rw [hc'.new a z] at e
          cases e
        have kf := keep fl _ nfA hfl6
        refine ⟨_, rfl, k L' H' fl fs (hc'.mono hc6.cut) h1 h2 nfl0 kf.2 (fun a ha => ?_) hfn kf.1 ?_⟩
        · obtain ⟨l, hl, hal⟩ := Paired_memL hfs6 ha
          exact ⟨(keep a _ (hfa a ha).1 hal).2, (hfa a ha).2⟩
        · exact Paired_memMap hfs6 fun a l ha q => (keep a _ (hfa a ha).1 q).1
theorem ok_executeN (T : ExeT K w mg) : FnE P w K mg base (L2N.CX P w) 7 ("Corridor", some "execute") ["self", "operation"] (spExecute K) := by
  obtain ⟨fd, F⟩ := T.execute.d
  obtain ⟨fdS, GS, bS, kS⟩ := ok_stepN (P := P) (w := w) (base := base) T.o
  obtain ⟨fdP, GP, bP, kP⟩ := ok_putN (P := P) (w := w) (base := base) T.o
  obtain ⟨fdT, GT, bT, kT⟩ := ok_turnN (P := P) (w := w) (base := base) T.o
  obtain ⟨fdU, GU, bU, kU⟩ := ok_undo (P := P) (w := w) (base := base) T.o.r
  obtain ⟨fdR, GR, bR, kR⟩ := ok_redo (P := P) (w := w) (base := base) T.o.r
  refine ⟨fd, F.ok sc_execute (fun vs H Q E h => ?_) (fun cdv A outer s H vs Q E hr h => ?_), F.bindsN fun _ _ _ _ _ _ us hl => match us, hl with | [_, _], _ => rfl, F.kp⟩
  · obtain ⟨H0, p, oa, L, pln, c, op, rfl, _⟩ := h
    rfl
  · obtain ⟨H0, p, oa, L, pln, c, op, rfl, hi, ho, hbad, hok⟩ := h
    have hr1 : Room 1 _ := hr.mono (by decide)
    have hr4 : Room 4 _ := hr.mono (by decide)
    have hr6 : Room 6 _ := hr.mono (by decide)
    refine ⟨_, (pss_cons (ps_match (pv 1)
        (pms_seq (xs := [("count", 2)]) rfl sc_execute.nd (.cons rfl (.inl rfl) (.inl rfl) .nil) (pss_one (ps_ret (pe_meth (pv 0) T.o.r.c.cor.c T.o.step.m GS hr6 bS .nil (L2N.passes_call (L2N.takes_of rfl rfl rfl rfl) (fun _ _ _ _ h => h)) (pa_cons (pv 2) pa_nil))))
        (pms_seq (xs := [("tile", 3), ("sign", 4)]) rfl sc_execute.nd (.cons rfl (.inl rfl) (.inl rfl) (.cons rfl (.inl rfl) (.inl rfl) .nil)) (pss_one (ps_ret (pe_meth (pv 0) T.o.r.c.cor.c T.o.put.m GP hr4 bP .nil (L2N.passes_call (L2N.takes_of rfl rfl rfl rfl) (fun _ _ _ _ h => h)) (pa_cons (pv 3) (pa_cons (pv 4) pa_nil)))))
        (pms_seq (xs := [("number", 5)]) rfl sc_execute.nd (.cons rfl (.inl rfl) (.inl rfl) .nil) (pss_one (ps_ret (pe_meth (pv 0) T.o.r.c.cor.c T.o.turn.m GT hr4 bT .nil (L2N.passes_call (L2N.takes_of rfl rfl rfl rfl) (fun _ _ _ _ h => h)) (pa_cons (pv 5) pa_nil))))
        (pms_seq (xs := []) rfl sc_execute.nd .nil (pss_one (ps_ret (pe_meth0 (pv 0) T.o.r.c.cor.c T.o.r.undo.m GU hr1 bU .nil pass0)))
        pms_nil)))))
      (pss_one (ps_ret (pe_meth0 (pv 0) T.o.r.c.cor.c T.o.r.redo.m GR hr1 bR .nil pass0)))), ?_⟩
    have hc := hi.cor
    cases op with
    | step v =>
      obtain ⟨ho, n, hv⟩ := ho
      refine ⟨_, rfl, oa, _, _, rfl, SqT.of ho, fun _ => ?_, fun hn => absurd ⟨rfl, rfl⟩ hn⟩
      refine ⟨_, rfl, p, _, _, rfl, hc.ob, lc_no_step, _, rfl, H0, p, L, pln, c, v, n, rfl, hi, hv, fun hb H' s1 => hbad .number (by simp only [execM, if_neg (show ¬ isIntIn v 0 500 = true by rw [hb]; decide)]) H' s1, fun kk hk hle L' H' f fs hc' h1 h2 h3 h4 h5 h6 h7 h8 => ?_⟩
      subst hk
      have hb : isIntIn (.int kk) 0 500 = true := by
        show (decide (0 ≤ (kk : Int)) && decide ((kk : Int) ≤ 500)) = true
        rw [Bool.and_eq_true, decide_eq_true_eq, decide_eq_true_eq]
        omega
      exact hok _ (by simp only [execM, if_pos hb]; rfl) L' H' _ hc' h1 h2 ⟨f, fs, rfl, h3, h4, h5, h6, h7, h8⟩
    | put v v2 =>
      obtain ⟨ho, ⟨n, hv⟩, n2, hv2⟩ := ho
      refine ⟨_, rfl, oa, _, _, rfl, SqT.of ho, fun q => absurd q.1 (by decide +kernel), fun _ => ?_⟩
      refine ⟨oa, _, _, rfl, SqT.of ho, fun _ => ?_, fun hn => absurd ⟨rfl, rfl⟩ hn⟩
      refine ⟨_, rfl, p, _, _, rfl, hc.ob, lc_no_put, _, rfl, _, rfl, H0, p, L, pln, c, v, v2, n, n2, rfl, hi, hv, hv2, fun hb H' s1 => hbad .number (by simp only [execM, if_neg (show ¬ isIntIn v 0 ((pln.floor.length : Int) - 1) = true by rw [hb]; decide)]) H' s1, fun hb hns H' s1 => hbad .sign ?_ H' s1, fun kk g hk hle cs hcs hv2e hno L' H' hc' h1 h2 => ?_⟩
      · simp only [execM, if_pos hb]
        rw [signIx_none hns]
      · subst hk
        subst hv2e
        have hb : isIntIn (.int kk) 0 ((pln.floor.length : Int) - 1) = true := by
          show (decide (0 ≤ (kk : Int)) && decide ((kk : Int) ≤ (pln.floor.length : Int) - 1)) = true
          rw [Bool.and_eq_true, decide_eq_true_eq, decide_eq_true_eq]
          omega
        refine hok _ (by simp only [execM, if_pos hb]; rw [signIx_some hcs hno]; rfl) L' H' _ hc' h1 h2 rfl
    | turn v =>
      obtain ⟨ho, n, hv⟩ := ho
      refine ⟨_, rfl, oa, _, _, rfl, SqT.of ho, fun q => absurd q.1 (by decide +kernel), fun _ => ?_⟩
      refine ⟨oa, _, _, rfl, SqT.of ho, fun q => absurd q.1 (by decide +kernel), fun _ => ?_⟩
      refine ⟨oa, _, _, rfl, SqT.of ho, fun _ => ?_, fun hn => absurd ⟨rfl, rfl⟩ hn⟩
      refine ⟨_, rfl, p, _, _, rfl, hc.ob, lc_no_turn, _, rfl, H0, p, L, pln, c, v, n, rfl, hi, hv, fun hb H' s1 => hbad .number (by simp only [execM, if_neg (show ¬ isIntIn v 0 ((pln.robots.length : Int) - 1) = true by rw [hb]; decide)]) H' s1, fun kk hk hle L' H' hc' h1 h2 => ?_⟩
      subst hk
      have hb : isIntIn (.int kk) 0 ((pln.robots.length : Int) - 1) = true := by
        show (decide (0 ≤ (kk : Int)) && decide ((kk : Int) ≤ (pln.robots.length : Int) - 1)) = true
        rw [Bool.and_eq_true, decide_eq_true_eq, decide_eq_true_eq]
        omega
      exact hok _ (by simp only [execM, if_pos hb]; rfl) L' H' _ hc' h1 h2 rfl
    | undo =>
      refine ⟨_, rfl, oa, _, _, rfl, SqT.of ho, fun q => absurd q.1 (by decide +kernel), fun _ => ?_⟩
      refine ⟨oa, _, _, rfl, SqT.of ho, fun q => absurd q.1 (by decide +kernel), fun _ => ?_⟩
      refine ⟨oa, _, _, rfl, SqT.of ho, fun q => absurd q.1 (by decide +kernel), fun _ => ?_⟩
      refine ⟨oa, _, _, rfl, SqT.of ho, fun _ => ?_, fun hn => absurd ⟨rfl, rfl⟩ hn⟩
      exact ⟨_, rfl, p, _, _, rfl, hc.ob, lc_no_undo, H0, p, L, pln, c, rfl, hc, hi.lu, fun L' H' hc' h1 h2 => hok _ rfl L' H' _ hc' h1 h2 rfl⟩
    | redo =>
      refine ⟨_, rfl, oa, _, _, rfl, SqT.of ho, fun q => absurd q.1 (by decide +kernel), fun _ => ?_⟩
      refine ⟨oa, _, _, rfl, SqT.of ho, fun q => absurd q.1 (by decide +kernel), fun _ => ?_⟩
      refine ⟨oa, _, _, rfl, SqT.of ho, fun q => absurd q.1 (by decide +kernel), fun _ => ?_⟩
      refine ⟨oa, _, _, rfl, SqT.of ho, fun q => absurd q.1 (by decide +kernel), fun _ => ?_⟩
      exact ⟨_, rfl, p, _, _, rfl, hc.ob, lc_no_redo, H0, p, L, pln, c, rfl, hc, hi.lp, fun L' H' hc' h1 h2 => hok _ rfl L' H' _ hc' h1 h2 rfl⟩
end
end Sw

end

section
set_option maxRecDepth 100000
set_option maxHeartbeats 4000000
/-! a list comprehension that may let an exception out (its context None) -/
namespace PySem
open Sem (wp)
theorem noteFrame_eq {env env' : Env} {e : Value} (h : env.frame = env'.frame) : noteFrame e env = noteFrame e env' := by
  unfold noteFrame frameOf
  rw [h]
section
variable {M : Model} {A : Around} {E : Value → Shared → Prop} {s : Shared} {env : Env}
def compPostX (M : Model) (A : Around) (E : Value → Shared → Prop) (Q : Value → Shared → Prop) (acc : Value) (ce : Env) (r : Result) (s' : Shared) : Prop :=
  match r with
  | .ok _ => ∃ m, s'.heap.Ns ce.locals m ∧ ∀ h', Heap.SameBut ce.locals s'.heap h' → Q acc { s' with heap := h' }
  | .error x => ∃ m, s'.heap.Ns ce.locals m ∧ ∀ h', Heap.SameBut ce.locals s'.heap h' → ∀ cenv : Env, cenv.frame = ce.frame → wpAny M A (passOn "comprehension.variables-let-go" x cenv : Sem Value) (fun _ _ => False) E { s' with heap := h' }
theorem wpAny_comprehension_freeX {e : Expr} {scope : Scope} {pos : Pos} {newAcc first : Sem Value} {g : Comprehension} {gs : List Comprehension} {cl : List (Str × Addr)}
    {Q : Value → Shared → Prop}
    (hcl : clausesOf e = g :: gs) (hs : ∀ x, foldedSetIterable g.iter env x = pure x) (hclos : closureFor scope env = pure cl)
    (hkind : scope.kind = .function) (hnames : ∀ x ∈ scope.names, x.2 = .local → scope.names.lookup x.1 = some .local)
    (h : wpAny M A first (fun x s₁ => wpAny M A (pyIter x) (fun it s₂ => wpAny M A newAcc (fun acc s₃ =>
      wpAny M A (newFunctionEnv scope env.globals cl [] env.qual none .none (some env)) (fun cenv s₄ =>
        codeAny M A (.compStart e 0 it acc { cenv with scope := relabel scope env }) (compPostX M A E Q acc cenv) s₄) E s₃) E s₂) E s₁) E s) :
    wpAny M A (comprehension e scope env pos newAcc false first none) Q E s := by
  unfold comprehension
  rw [hclos, hcl]
  refine wpAny_bind (wpAny_mono h (fun x s₁ h₁ => wpAny_bind (wpAny_standAt (wpAny_bind (wpAny_of_eq (hs x) (wpAny_bind (wpAny_holding (wpAny_mono h₁ (fun it s₂ h₂ =>
    wpAny_standIf (wpAny_bind (wpAny_mono h₂ (fun acc s₃ h₃ => wpAny_bind (wpAny_pure (wpAny_bind (wpAny_mono h₃ (fun cenv s₄ h₄ => ?_) fun _ _ h' => h')))) fun _ _ h' => h')))
      fun _ _ h' => h'))))))) fun _ _ h' => h')
  dsimp only
  have hv : ∀ x ∈ (scope.names.filter fun x => (x.2 == .local || x.2 == .cell) && x.1 != (".0" : Str)).reverse, x.2 = .local →
      Env.kindOf { cenv with scope := relabel scope env } x.1 = some .local := fun x hx hl => lookup_relabel_local (hnames x (List.mem_filter.mp (List.mem_reverse.mp hx)).1 hl)
  refine wpAny_holding (wpAny_bind (wpAny_attempt (wpAny_holding (wpAny_run (codeAny_mono h₄ fun r s' hr => ?_)))))
  cases r with
  | ok f =>
    obtain ⟨m, hn, hr⟩ := hr
    exact wpAny_bind (wpAny_holding (wpAny_comp_letGo (cenv := { cenv with scope := relabel scope env }) hkind _ s' m hv hn fun h' m' _ hs' => wpAny_pure (hr h' hs')))
  | error x =>
    obtain ⟨m, hn, hr⟩ := hr
    exact wpAny_bind (wpAny_holding (wpAny_comp_letGo (cenv := { cenv with scope := relabel scope env }) hkind _ s' m hv hn fun h' m' _ hs' => wpAny_mono (hr h' hs' _ rfl) (fun _ _ f => f.elim) fun _ _ y => y))
end
end PySem
namespace L2
open PySem PySem.Spec PyProof.Rows
/-- an exception that a call let out, in the air of a block -/
def XF (X : Cx) (W : WX) (u : Value) (s' : Shared) : Prop :=
  ∃ (a : Addr) (B : Heap) (sI : Shared) (pins : List (Addr × Obj)) (σ : St) (H : Hp) (cls : Value) (d : Option Addr),
    u = .ref a ∧ Inv X pins σ H sI ∧ (∀ b o, sI.heap.get? b = some o → b ∉ frs X.stack → B.get? b = some o) ∧ sI.heap.UpToSlots s'.heap ∧
      HandSPX.FlyingZ B X.stack a (L2N.Zn cls d) s'.heap ∧ H a = none ∧ s'.os = sI.os ∧ AllBare s'.gens ∧ W cls d σ H
def TakesF (X : Cx) (W : WX) : Prop := ∀ u s', XF X W u s' → X.xe u s'
theorem passAtF {X : Cx} {W : WX} (tk : TakesF X W) (σ : St) : PassesAt (L2N.CX X.prog X.w) X σ (WE W σ) := by
  intro pins H s u s' I c
  refine tk u s' ?_
  obtain ⟨a, B, H', cls, d, rfl, fl, hok, ub, na, os, ag, hE⟩ := c
  obtain ⟨G, g1, g2⟩ := restrict s'.heap fun b => (B.get? b).isSome || decide (b ∈ frs X.stack)
  have st : B.StaysIn s'.heap := fl.1
  have gB : ∀ b o, B.get? b = some o → G.get? b = some o := fun b o e => by
    rw [g1 b (by simp [e])]
    exact st b o e
  have gF : ∀ b, b ∈ frs X.stack → G.get? b = s'.heap.get? b := fun b hb => g1 b (by simp [hb])
  have og : ∀ b o, G.get? b = some o → s'.heap.get? b = some o ∧ ((B.get? b).isSome = true ∨ b ∈ frs X.stack) := fun b o e => by
    cases q : ((B.get? b).isSome || decide (b ∈ frs X.stack)) with
    | false => rw [g2 b q] at e; cases e
    | true =>
      rw [g1 b q] at e
      exact ⟨e, by simpa [Bool.or_eq_true] using q⟩
  refine ⟨a, B, { s with heap := G, gens := s'.gens, drawn := s'.drawn, toks := s'.toks }, pins, σ, H', cls, d, rfl, ?_, fun b o e hb => ?_, Heap.UpToSlots.of_keeps fun b o e => (og b o e).1, fl, na, os, ag, hE⟩
  · refine I.call (ch := []) ⟨fun b o e n hb _ => gB b o (ub.keep b o e n hb), fun b o e n hb _ => ?_, fun b o e n _ => ub.free b o e n, fun b o e _ => ?_, ub.tups, ub.frzs, ub.tbls⟩ (hok.kept gB) ag (fun _ z => nomatch z)
    · obtain ⟨sl, q⟩ := ub.slot b o e hb
      exact ⟨sl, by rw [gF b hb]; exact q⟩
    · by_cases hb : b ∈ frs X.stack
      · obtain ⟨sl, q⟩ := ub.slot b o e hb
        exact ⟨_, by rw [gF b hb]; exact q⟩
      · obtain ⟨o', q⟩ := ub.there b o e hb
        exact ⟨o', gB b o' q⟩
  · obtain ⟨e', h⟩ := og b o e
    rcases h with h | h
    · obtain ⟨o', q⟩ := Option.isSome_iff_exists.mp h
      have z := st b o' q
      rw [e'] at z; cases z
      exact q
    · exact absurd h hb
/-- the context of a block that may let an exception out -/
abbrev Cx.blkX (X : Cx) (s : Shared) (H : Hp) (scope : Scope) (cenv : Env) (fp : List Addr) (xe : Value → Shared → Prop) : Cx := { X.blk s H scope cenv fp with xe := xe }
section
variable {X : Cx}
/-- [elt for target in iter if ..] whose element may let exceptions out -/
def tLcX (wi : TI) (g : TG) (tt : TT) (te : WX → TE) (vs : List Nat) (Wout : WX) : TE := fun σ H Q => tLc wi g tt (te fun cls d _ H' => Wout cls d σ H') vs σ H Q
theorem pe_lcX {elt tg iter : Expr} {ifs : List Expr} {scope : Scope} {own : List (Str × Nat)} {pos : Pos} {wi : TI} {g : TG} {tt : TT} {te : WX → TE} {Wout : WX} (hst : X.stack = X.env :: X.outer) (hf : X.env.frame = some X.env.locals) (hex : X.ex = []) (tk : L2N.Takes X Wout)
    (hc : X.calm = true) (hN : X.N.Nodup) (hi : PI X tg iter wi) (ok : BlkOk X.N X.env.scope scope own)
    (hg : ∀ (s : Shared) (H : Hp) (C : Addr) (cl : List (Str × Addr)) (fp : List Addr), PG (X.blk s H scope (compEnvC scope cl C X.env) fp) tg g) (ht : ∀ (s : Shared) (H : Hp) (C : Addr) (cl : List (Str × Addr)) (fp : List Addr), PTs (X.blk s H scope (compEnvC scope cl C X.env) fp) ifs tt)
    (he : ∀ (W : WX) (s : Shared) (H : Hp) (C : Addr) (cl : List (Str × Addr)) (fp : List Addr) (xe : Value → Shared → Prop), TakesF (Cx.blkX X s H scope (compEnvC scope cl C X.env) fp xe) W → PE (Cx.blkX X s H scope (compEnvC scope cl C X.env) fp xe) elt (te W)) (hs : ∀ x, foldedSetIterable iter X.env x = pure x := by intro _; rfl) :
    PE X (.ListComp elt [⟨tg, iter, ifs, 0⟩] scope pos) (tLcX wi g tt te (own.map (·.2)) Wout) := by
  refine ⟨fun pins s σ H Q I h => ?_⟩
  rw [eval_ListComp]
  have hfree : ∀ y ∈ scope.names, y.2 = .free → ∃ c, X.env.cells.lookup y.1 = some c := fun y hy e => by
    rcases ok.free y hy e with k | k
    · exact I.ok.has _ (.inl k)
    · exact I.ok.has _ (.inr k)
  have hfr : X.A.frames = some (X.env :: X.outer) := by rw [I.ok.frames, hst]
  refine wpAny_comprehension_freeX rfl hs (closure_ok hfree) ok.kind (fun y hy e => by rw [ok.uniq y hy, e])
    (thn (hi.run pins s σ H _ I h) fun xv s1 hx => thn hx fun itv s2 h2 => ?_)
  obtain ⟨it, fp, tn, J, H2, e, I2, T, st2, f2, q⟩ := h2
  subst e
  refine wpAny_newObj_type (newEnv_comp ?_) (by show 0 ≤ sizeLine; decide)
  generalize hD : s2.heap.objs.size = D
  have hDn : H2 D = none := I2.hok.fresh (Nat.le_of_eq hD)
  obtain ⟨W, ⟨m0, w0⟩, turn⟩ := q D hDn
  -- the new list
  generalize hs3 : ({ s2 with heap := s2.heap.push { cls := .type "list", data := .seq ([] : List Value).toArray } } : Shared) = s3
  have I3 : Inv X pins σ (upd H2 D (.lst [])) s3 := by
    rw [← hs3]
    refine I2.laid (t' := s2.toks) (fun b o e => Heap.get?_push_of_some _ e) (Nat.le_of_eq hD) ⟨Nat.zero_le _, [], 0, .nil, ?_⟩
    rw [← hD]
    exact Heap.get?_push_size _ rfl
  have h3 : s3.heap = s2.heap.push { cls := .type "list", data := .seq ([] : List Value).toArray } := by rw [← hs3]
  have sz : ∀ b ∈ fp, b < s2.heap.objs.size := fun b hb => by
    obtain ⟨o, e, _⟩ := T.obj _ _ st2 b hb
    exact Heap.lt_size e
  have f3 : ∀ b ∈ fp, FpOk X pins (upd H2 D (.lst [])) b ∧ b < s3.heap.objs.size := fun b hb => by
    have hlt := sz b hb
    refine ⟨⟨?_, (f2 b hb).2⟩, by rw [h3, Heap.size_push]; exact Nat.lt_succ_of_lt hlt⟩
    rw [upd_ne (by rw [← hD]; exact Nat.ne_of_lt hlt)]
    exact (f2 b hb).1
  have st3 : tn 0 s3.heap := T.keep _ _ _ st2 fun b _ o e => by rw [h3]; exact Heap.get?_push_of_some _ e
  have I4 := block_start I3 ok hN f3
  have pg := hg s3 (upd H2 D (.lst [])) s3.heap.objs.size (cellsFrom (s3.heap.objs.size + 1) scope.names (cloFrom X.env.cells scope.names [])) fp
  have pt := ht s3 (upd H2 D (.lst [])) s3.heap.objs.size (cellsFrom (s3.heap.objs.size + 1) scope.names (cloFrom X.env.cells scope.names [])) fp
  have pe := fun W => he W s3 (upd H2 D (.lst [])) s3.heap.objs.size (cellsFrom (s3.heap.objs.size + 1) scope.names (cloFrom X.env.cells scope.names [])) fp
  have hceF : (compEnvC scope (cellsFrom (s3.heap.objs.size + 1) scope.names (cloFrom X.env.cells scope.names [])) s3.heap.objs.size X.env).frame = X.env.frame := rfl
  show codeAny _ _ (.compStart (.ListComp elt [⟨tg, iter, ifs, 0⟩] scope pos) 0 (.ref it) (.ref D) (compEnvC scope (cellsFrom (s3.heap.objs.size + 1) scope.names (cloFrom X.env.cells scope.names [])) s3.heap.objs.size X.env)) (compPostX (model X.prog X.w) X.A X.xe (EP X pins σ Q) (.ref D) (newEnv scope s3.heap.objs.size X.env.globals (cellsFrom (s3.heap.objs.size + 1) scope.names (cloFrom X.env.cells scope.names [])) X.env.qual none .none (some X.env) X.env.builtins)) { s3 with heap := pushCells (s3.heap.push { cls := .type "dict", data := .dict #[] }) scope.names }
  have nfp : ∀ b ∈ fp, (upd H2 D (.lst [])) b = none := fun b hb => (f3 b hb).1.1
  generalize hne : newEnv scope s3.heap.objs.size X.env.globals (cellsFrom (s3.heap.objs.size + 1) scope.names (cloFrom X.env.cells scope.names [])) X.env.qual none .none (some X.env) X.env.builtins = cn
  have cnL : cn.locals = s3.heap.objs.size := by rw [← hne]; rfl
  have cnF : cn.frame = X.env.frame := by rw [← hne]; rfl
  generalize hce : compEnvC scope (cellsFrom (s3.heap.objs.size + 1) scope.names (cloFrom X.env.cells scope.names [])) s3.heap.objs.size X.env = ce at I4 pg pt pe hceF ⊢
  have cL : ce.locals = s3.heap.objs.size := by subst hce; rfl
  generalize hH3 : upd H2 D (.lst []) = H3 at I3 I4 pg pt pe w0 nfp f3
  generalize hs4 : ({ s3 with heap := pushCells (s3.heap.push { cls := .type "dict", data := .dict #[] }) scope.names } : Shared) = s4 at I4 ⊢
  have st4 : tn 0 s4.heap := T.keep _ _ _ st3 fun b _ o e => by rw [← hs4]; exact pushCells_keeps _ _ _ _ (Heap.get?_push_of_some _ e)
  have stat : ∀ {σ' : St} {H' : Hp} {s' : Shared}, Inv (X.blk s3 H3 scope ce fp) [] σ' H' s' → (∀ b ∈ fp, H' b = none) → ∀ b ∈ fp, FpOk (X.blk s3 H3 scope ce fp) [] H' b := fun {σ' H' s'} I' hn b hb =>
    ⟨hn b hb, (I'.ok.exf b hb).1, I'.ok.exfs b hb, .inl hb, fun x c e => (I'.ok.exf b hb).2 x c e, fun p hp => absurd (show p ∈ ([] : List (Addr × Obj)) ++ [] from hp) (by simp)⟩
  -- the exception leaves the block
  have tkF : TakesF (Cx.blkX X s3 H3 scope ce fp (notedBy (model X.prog X.w) X.A ce (fun e s' => compPostX (model X.prog X.w) X.A X.xe (EP X pins σ Q) (.ref D) cn (.error e) s'))) fun cls d _ H' => Wout cls d σ H' := by
    intro u s6 x6
    obtain ⟨a, B, sI, pins2, σ2, H6, cls, d, rfl, I6, nb, up, fl, na, os, ag, w6⟩ := x6
    replace fl : HandSPX.FlyingZ B (X.env :: X.outer) a (L2N.Zn cls d) s6.heap := by rw [← hst]; exact fl
    show wpAny (model X.prog X.w) X.A (noteFrame (.ref a) ce) _ _ s6
    rw [noteFrame_eq hceF]
    refine PXN.looks_onZ L2N.Zn.steady hfr hf fl fun h7 hd7 up7 => ?_
    have up67 : sI.heap.UpToSlots h7 := up.trans up7
    have I7b : Inv (Cx.blkX X s3 H3 scope ce fp (notedBy (model X.prog X.w) X.A ce (fun e s' => compPostX (model X.prog X.w) X.A X.xe (EP X pins σ Q) (.ref D) cn (.error e) s'))) pins2 σ2 H6 { s6 with heap := h7 } := I6.landed nb hd7.1 up67 os ag
    obtain ⟨m, hn, _⟩ := I7b.loc
    replace hn : h7.Ns ce.locals m := hn
    rw [cL] at hn
    have nC : H6 s3.heap.objs.size = none := by
      have z : H6 ce.locals = none := I6.free
      rw [cL] at z
      exact z
    -- back in the def's context
    have J6 : Inv X pins σ H6 sI := I3.call' (ch := fp) I6.os I6.base I6.hok I6.bare fun b hb => ⟨(f3 b hb).1.2.2.2.1, (f3 b hb).1.2.1, (f3 b hb).1.2.2.2.2.1, (f3 b hb).1.2.2.2.2.2⟩
    have J7 : Inv X pins σ H6 { s6 with heap := h7 } := J6.landed nb hd7.1 up67 os ag
    show compPostX _ _ _ _ _ cn (.error (.ref a)) { s6 with heap := h7 }
    refine ⟨m, by rw [cnL]; exact hn, fun h8 sb cenv hcenv => ?_⟩
    rw [cnL] at sb
    have notFr : ∀ {B h : Heap} {a : Addr} {o : Obj} {vs : Array Value}, h.FunFrames B (X.env :: X.outer) → h.get? a = some o → o.data = .fields vs → a ∉ frs (X.env :: X.outer) := fun {B h a o vs} ff e dd hm => by
      obtain ⟨_, o', e', hnf⟩ := ff.mem hm
      rw [e] at e'; cases e'
      exact hnf _ dd
    obtain ⟨k1, k2, k3, oe, vs, T2, oT, ts, he7, hz, hd, hv1, hnT, hTe, hT, hdT, ht3⟩ := id hd7
    have notC : ∀ {b : Addr} {o : Obj} {vs : Array Value}, h7.get? b = some o → o.data = .fields vs → b ≠ s3.heap.objs.size := fun {b o vs} e dd z => by
      obtain ⟨oC, es, ep, hoC, hdC, _⟩ := id hn
      rw [z, hoC] at e
      cases e
      rw [dd] at hdC
      cases hdC
    have aC := notC he7 hd
    have TC := notC hT hdT
    have nT : H6 T2 = none := (J6.inGround nb).gone hnT
    have fa := notFr k3 he7 hd
    have fT := notFr k3 hT hdT
    obtain ⟨f0, f1, _, g3, g4, g5⟩ := I3.fpOk (Nat.le_refl _) nC
    have J8 : Inv X pins σ H6 { s6 with heap := h8 } := J7.turned (t' := s6.toks) (fun b o hb e => (sb.2 b hb).trans e) f0 f1 g3 g4 g5
    have ga : h8.get? a = some oe := (sb.2 a aC).trans he7
    have gT : h8.get? T2 = some oT := (sb.2 T2 TC).trans hT
    have far : ∀ b o, sI.heap.get? b = some o → b ≠ a ∧ b ≠ T2 := fun b o e => by
      by_cases hb : b ∈ frs X.stack
      · rw [hst] at hb
        exact ⟨fun z => fa (by rw [← z]; exact hb), fun z => fT (by rw [← z]; exact hb)⟩
      · have q := nb b o e hb
        exact ⟨fun z => by
          rw [z, k2] at q
          exact (nomatch q), fun z => by
          rw [z, hnT] at q
          cases q⟩
    have far0 : ∀ b o, X.s_0.heap.get? b = some o → b ≠ a ∧ b ≠ T2 := fun b o e => by
      obtain ⟨o', q⟩ := J6.base.there b o e (by rw [hex]; simp)
      exact far b o' q
    have farP : ∀ p ∈ X.pn ++ pins, p.1 ≠ a ∧ p.1 ≠ T2 := fun p hp => far p.1 p.2 (J6.pin p hp).1
    obtain ⟨G, g1, g2⟩ := restrict h8 fun b => !(decide (b = a) || decide (b = T2))
    have gIn : ∀ b o, G.get? b = some o → h8.get? b = some o ∧ b ≠ a ∧ b ≠ T2 := fun b o e => by
      cases q : (!(decide (b = a) || decide (b = T2))) with
      | false =>
        rw [g2 b q] at e
        cases e
      | true =>
        rw [g1 b q] at e
        simp only [Bool.not_eq_true', Bool.or_eq_false_iff, decide_eq_false_iff_not] at q
        exact ⟨e, q.1, q.2⟩
    have gOf : ∀ b o, b ≠ a → b ≠ T2 → h8.get? b = some o → G.get? b = some o := fun b o h1 h2 e => by
      rw [g1 b (by simp [h1, h2])]
      exact e
    have J9 : Inv X pins σ H6 { s6 with heap := G } := J8.less (fun b o e => (gIn b o e).1) gOf ⟨oe, vs, ga, hd⟩ ⟨oT, ts, gT, hdT⟩ na nT far0 farP
    have B9in : ∀ b o, (PySem.W.hideAll G (frs X.stack)).get? b = some o → h8.get? b = some o := fun b o e => (gIn b o (PySem.W.of_hideAll _ e)).1
    have Bno : ∀ b, (b = a ∨ b = T2) → (PySem.W.hideAll G (frs X.stack)).get? b = none := fun b hb => by
      cases q : (PySem.W.hideAll G (frs X.stack)).get? b with
      | none => rfl
      | some o =>
        obtain ⟨_, n1, n2⟩ := gIn b o (PySem.W.of_hideAll _ q)
        rcases hb with z | z
        · exact absurd z n1
        · exact absurd z n2
    have fl9 : HandSPX.HeldZ (PySem.W.hideAll G (frs X.stack)) (X.env :: X.outer) a (L2N.Zn cls d) X.env.locals h8 := by
      refine ⟨B9in, Bno a (.inl rfl), ?_, oe, vs, T2, oT, ts, ga, hz, hd, hv1, Bno T2 (.inr rfl), hTe, gT, hdT, ht3⟩
      have ff := funFrames_none (B := PySem.W.hideAll G (frs X.stack)) J8.stack fun b hb => PySem.W.hideAll_none _ hb
      rw [← hst]
      exact ff
    unfold PySem.passOn
    refine wpAny_bind (wpAny_field (show ({ s6 with heap := h8 } : Shared).heap.get? a = some oe from ga) hd hv1 ?_)
    rw [if_neg (show ¬ ((Value.ref T2 == Value.none) = true) from by simp), hcenv, cnF, hf]
    have fin : wpAny (model X.prog X.w) X.A (setFlight (.ref a) (some X.env.locals)) (fun _ s4 => wpAny (model X.prog X.w) X.A (throw (.ref a) : Sem Value) (fun _ _ => False) X.xe s4) X.xe { s6 with heap := h8 } := by
      refine HandSPX.setFlight_onZ fl9 fun h9 hh9 up9 => wpAny_throw (tk _ _ ?_)
      refine ⟨a, PySem.W.hideAll G (frs X.stack), { s6 with heap := G }, pins, σ, H6, cls, d, rfl, J9, fun b o e hb => PySem.W.hideAll_get _ e hb, ?_, .inr (.inr (by rw [← hst] at hh9; exact hh9)), na, rfl, J8.bare, w6⟩
      exact Heap.UpToSlots.trans (Heap.UpToSlots.of_keeps fun b o e => (gIn b o e).1) up9
    first
      | exact wpAny_bind (wpAny_pure (wpAny_bind fin))
      | exact wpAny_bind fin
  have loop : codeAny (model X.prog X.w) X.A (.compLoop (.ListComp elt [⟨tg, iter, ifs, 0⟩] scope pos) 0 (.ref it) (.ref D) ce) (compPostX (model X.prog X.w) X.A X.xe (EP X pins σ Q) (.ref D) cn) s4 := by
    refine compLoop_any (fun n s' => ∃ i H', Inv (X.blk s3 H3 scope ce fp) [] (wipe σ (own.map (·.2))) H' s' ∧ tn i s'.heap ∧ (∀ b ∈ fp, H' b = none) ∧ W i n H') ?_ m0 ⟨0, H3, I4, st4, nfp, w0⟩
    rintro n s5 ⟨i, H5, I5, st5, n5, w5⟩
    rcases turn i n H5 w5 with ⟨stop, qq⟩ | ⟨go, Nx, hNx, step⟩
    · have td := T.done (X.blk s3 H3 scope ce fp) rfl rfl rfl hc i [] s5 _ H5 (fun _ _ => False) I5 (stat I5 n5) st5 stop
      refine thnF td fun r s6 ⟨hr, I6⟩ => ?_
      subst hr
      -- back in the def's context
      have I7 : Inv X pins σ H5 s6 := I3.call' (ch := fp) I6.os I6.base I6.hok I6.bare fun b hb => ⟨(f3 b hb).1.2.2.2.1, (f3 b hb).1.2.1, (f3 b hb).1.2.2.2.2.1, (f3 b hb).1.2.2.2.2.2⟩
      have nC : H5 s3.heap.objs.size = none := by
        have z : H5 ce.locals = none := I6.free
        rw [cL] at z
        exact z
      obtain ⟨m, hn, _⟩ := I6.loc
      have hn : s6.heap.Ns ce.locals m := hn
      rw [cL] at hn
      refine ⟨m, by rw [cnL]; exact hn, fun h'' sb => ?_⟩
      rw [cnL] at sb
      obtain ⟨f0, f1, f2, f3, f4, f5⟩ := I3.fpOk (Nat.le_refl _) nC
      exact ⟨.ref D, H5, I7.turned (t' := s6.toks) (fun b o hb e => (sb.2 b hb).trans e) f0 f1 f3 f4 f5, rfl, qq⟩
    · have ti := T.item (X.blk s3 H3 scope ce fp) rfl rfl rfl hc i [] s5 _ H5 (fun _ _ => False) I5 (stat I5 n5) st5 go
      refine thnF ti fun r s6 ⟨u, hr, h6⟩ => ?_
      subst hr
      refine thnF h6 fun _ s7 ⟨x, H7, I7, r7, y7, st7, n7⟩ => ?_
      have I7' := I7.pinned (stat I7 n7) (T.obj _ _ st7)
      refine thnF (pg.run _ s7 _ H7 x u _ I7' r7 (step x H7 y7)) fun _ s8 ⟨σ8, H8, I8, hw8, q8⟩ => ?_
      refine thnF (pt.run _ s8 σ8 H8 _ I8 q8) fun b s9 ⟨H9, I9, q9⟩ => ?_
      -- the turn's end
      have fin : ∀ {s' : Shared} {H' : Hp}, Inv (X.blk s3 H3 scope ce fp) ([] ++ pinsAt fp s7.heap) σ8 H' s' → Nx H' → ∃ m, m < n ∧ ∃ i H', Inv (X.blk s3 H3 scope ce fp) [] (wipe σ (own.map (·.2))) H' s' ∧ tn i s'.heap ∧ (∀ b ∈ fp, H' b = none) ∧ W i m H' := fun {s' H'} I' nx => by
        obtain ⟨m', hm, w'⟩ := hNx H' nx
        have pin' : ∀ b ∈ fp, ∀ o, s7.heap.get? b = some o → s'.heap.get? b = some o ∧ H' b = none := fun b hb o e =>
          let z := I'.pin (b, o) (List.mem_append_right _ (List.mem_append_right _ (mem_pinsAt hb e)))
          ⟨z.1, z.2.1⟩
        have hl : (wipe σ (own.map (·.2))).length = σ8.length := by rw [← hw8, wipe_length]
        refine ⟨m', hm, i + 1, H', (I'.unpinned (pins := [])).weak hl (fun j v e => ?_), T.keep _ _ _ st7 fun b hb o e => (pin' b hb o e).1, fun b hb => ?_, w'⟩
        · rw [← hw8] at e
          exact (wipe_some e).1
        · obtain ⟨o, e, _⟩ := T.obj _ _ st7 b hb
          exact (pin' b hb o e).2
      cases b with
      | false =>
        simp only [Bool.false_eq_true, if_false] at q9 ⊢
        exact fin I9 q9
      | true =>
        simp only [if_true] at q9 ⊢
        have pr := (pe _ _ tkF).run _ s9 σ8 H9 _ (I9.wish _) q9
        refine wpAny_mono pr (fun z s10 hz => ?_) fun _ _ z => z
        obtain ⟨yv, H10, I10', r10, acc, hD10, hz10, nx⟩ := hz
        have I10 : Inv (X.blk s3 H3 scope ce fp) ([] ++ pinsAt fp s7.heap) σ8 H10 s10 := I10'.wish fun _ _ => False
        exact app_ok (X := X.blk s3 H3 scope ce fp) I10 hD10 hz10 r10 fun s11 I11 => fin I11 nx
  exact codeAny_compStart_list loop (T.self X.A 0 _ _ _ st4 loop)
end
end L2

end

section
set_option maxRecDepth 100000
set_option maxHeartbeats 4000000
/-! a, b = a tuple, in an except suite: the StopIteration at its end is chained to the exception handled -/
namespace HotX
open PySem PySem.Spec PyProof.Rows
section
variable {prog : Program} {w : World} {A : Around} {E : Value → Shared → Prop} {s : Shared}
theorem pyNext_tuple_end_hot {it t x1 : Addr} {i : Nat} {items} {Q : Option Value → Shared → Prop} (hot : HotAt A x1 s.heap)
    (hit : s.heap.IsTupleIter it t i) (ht : s.heap.IsTuple t items) (hx : items[i]? = none)
    (hQ : ∀ h', Heap.ExtBut it s.heap h' → Q none { s with heap := h' }) : wpAny (model prog w) A (pyNext (.ref it)) Q E s := by
  obtain ⟨o, ho, hc, hd⟩ := id hit
  obtain ⟨ol, hol, hcl, nl, hdl⟩ := ht
  obtain ⟨hh, o1, vs1, h1, d1, c1⟩ := hot
  unfold pyNext
  refine wpAny_bind (wpAny_attempt (wpAny_callSpecial?_slot (name := Str.ofString "__next__") hit.typeIs F.slot_tuple_iterator_next
    (wpAny_call_entry F.slot_tuple_iterator_next hit.typeIs F.entry_tuple_iterator_next ?_ (F.args_tuple_iterator_next_1 _))))
  show wpAny _ _ (field (.ref it) 0 >>= _) _ _ s
  refine wpAny_bind (wpAny_field ho hd (x := .ref t) rfl ?_)
  show wpAny _ _ (if (Value.ref t == Value.none) = true then _ else _) _ _ s
  rw [if_neg (show ¬ ((Value.ref t == Value.none) = true) from Bool.false_ne_true)]
  show wpAny _ _ (field (.ref it) 1 >>= _) _ _ s
  refine wpAny_bind (wpAny_field ho hd (x := .int i 0) rfl ?_)
  show wpAny _ _ (seqItems? (.ref t) >>= _) _ _ s
  refine wpAny_bind (wpAny_seqItems hol hdl ?_)
  simp only [Int.toNat_natCast, hx]
  have ne1 : x1 ≠ it ∨ x1 = it := (Classical.em (x1 = it)).symm
  refine wpAny_bind (wpAny_rule (wpAny_bind (wpAny_setField ho hd (by simp) ?_)))
  show wpAny _ _ (newExc (.type "StopIteration") [] >>= _) _ _ _
  refine wpAny_bind ?_
  simp only [newExc, newTuple]
  refine wpAny_bind (wpAny_newObj_type ?_ (by size_fits))
  refine wpAny_bind (m := firstArgMember _ _) (wpAny_of_eq (a := Value.none) (by first | rfl | (simp only [firstArgMember]; rfl)) ?_)
  refine wpAny_newObj_type ?_ (by size_fits)
  have nei : x1 ≠ it := fun z => by
    rw [z, ho] at h1
    cases h1
    rw [hd] at d1
    cases d1
    simp at c1
  have h1' : (s.heap.update it (Obj.mapFields (·.setIfInBounds 0 Value.none))).get? x1 = some o1 := (Heap.get?_update_other _ _ (Ne.symm nei)).trans h1
  refine raiseNew_hot (x1 := x1) ⟨hh, o1, vs1, Heap.get?_push_of_some _ (Heap.get?_push_of_some _ h1'), d1, c1⟩ (Nat.ne_of_lt (Heap.lt_size (Heap.get?_push_of_some _ h1'))) (Heap.get?_push_size _ rfl) rfl (by first | (simp; done) | (simp; omega) | (simp only [Array.size_append]; simp; omega)) ?_
  refine wpAny_bind (wpAny_isInstance (T := "StopIteration") (b := true) ⟨_, Heap.get?_update_self _ (Heap.get?_push_size _ rfl) rfl, rfl⟩ isSubtype_stop ?_)
  refine wpAny_pure (hQ _ fun b o nb e => ?_)
  have e' : (s.heap.update it (Obj.mapFields (·.setIfInBounds 0 Value.none))).get? b = some o := (Heap.get?_update_other _ _ (Ne.symm nb)).trans e
  rw [Heap.get?_update_other _ _ (Nat.ne_of_gt (Heap.lt_size (Heap.get?_push_of_some _ e')))]
  exact Heap.get?_push_of_some _ (Heap.get?_push_of_some _ e')
theorem unpackItems_tuple_hot {t x1 : Addr} {items : Array Value} {Q : List Value → Shared → Prop} (hot : HotAt A x1 s.heap) (ht : s.heap.IsTuple t items)
    (hQ : ∀ h', Heap.ExtBut s.heap.objs.size s.heap h' → Q items.toList { s with heap := h' }) : wpAny (model prog w) A (unpackItems (.ref t) items.size none) Q E s := by
  have hlt : t ≠ s.heap.objs.size := by obtain ⟨o, ho, _⟩ := ht; exact Nat.ne_of_lt (Heap.lt_size ho)
  unfold unpackItems
  refine wpAny_bind ?_
  · unfold notIterableAtAll
    refine wpAny_bind (wpAny_specialOf ht.typeIs F.slot_tuple_iter.lookup ?_)
    refine wpAny_pure ?_
    simp only [Bool.false_eq_true, if_false]
    refine wpAny_bind (wpAny_holding (wpAny_pyIter_tuple ht ?_))
    refine wpAny_bind (wpAny_holding (wpAny_draw_tuple hlt items.size 0 _ _ ⟨_, Heap.get?_push_size _ rfl, rfl, rfl⟩ (ht.push _) (by omega) fun h₁ hit₁ hs₁ => ?_))
    have hall : List.take items.size (List.drop 0 items.toList) = items.toList := by
      rw [List.drop_zero]; exact List.take_of_length_le (by simp)
    rw [hall]
    rw [if_neg (by simp)]
    have ht₁ : h₁.IsTuple t items := (ht.push _).extBut hs₁.extBut hlt
    obtain ⟨hh, o1, vs1, h1, d1, c1⟩ := hot
    have h1' : h₁.get? x1 = some o1 := hs₁.extBut x1 o1 (Nat.ne_of_lt (Heap.lt_size h1)) (Heap.get?_push_of_some _ h1)
    refine wpAny_bind (wpAny_holding (pyNext_tuple_end_hot (x1 := x1) ⟨hh, o1, vs1, h1', d1, c1⟩ hit₁ ht₁ (by simp) fun h₂ he₂ => ?_))
    simp only [Option.isSome_none, Bool.false_eq_true, if_false]
    refine wpAny_pure (hQ h₂ fun b o hb e => he₂ b o hb (hs₁.extBut b o hb (Heap.get?_push_of_some _ e)))
end
end HotX
namespace L2H
open PySem PySem.Spec PyProof.Rows L2 HotX
section
variable {X : Cx}
theorem pg_tupH {es : List Expr} {k : Nat} {t : TGs} {n : Nat} {pos : Pos} (hc : HotC X) (h : PGs X es t)
    (hn : (assignEach es X.env).length = n := by rfl) (hst : (assignEach es X.env).findIdx? (·.1) = none := by rfl) : PG X (.Tuple es k pos) (gTup X.K n t) := by
  refine ⟨fun pins s σ H v u Q I r hw => ?_⟩
  obtain ⟨a, xs, e1, hq, hl, hw⟩ := hw
  subst e1
  cases r
  obtain ⟨its, rv, ht, hz⟩ := I.tuple hq
  obtain ⟨x1, hot⟩ := hc.at I
  have hsz : (assignEach es X.env).length = its.toArray.size := by simp [hn, ← hl, rv.length]
  rw [assign_Tuple]
  refine wpAny_bind (wpAny_standAt ?_)
  unfold unpack
  rw [hsz, hst]
  refine wpAny_bind (wpAny_holding (unpackItems_tuple_hot hot ht fun h' hx => ?_))
  have I1 : Inv X pins σ H { s with heap := h' } := I.kept (t' := s.toks) fun b o e => hx b o (Nat.ne_of_lt (Heap.lt_size e)) e
  exact h.run pins _ σ H xs _ Q I1 (by simpa using rv) hw
end
end L2H

end

section
set_option maxRecDepth 100000
set_option maxHeartbeats 4000000
/-! try: body / except x: one statement / raise (the exception caught flies on) -/
namespace Sw
open PySem PySem.Spec PyProof.Rows L2 SwA
theorem pss_eqT {X : Cx} {sts : List Stmt} {t t' : TS} (h : PSs X sts t) (e : t = t') : PSs X sts t' := e ▸ h
theorem ps_eqT {X : Cx} {st : Stmt} {t t' : TS} (h : PS X st t) (e : t = t') : PS X st t' := e ▸ h
def wRe (K : PySem.W.Frag) (c : Value) (tfs : TS) (Wout : WX) : WX := fun cls d σ H =>
  ∃ b, PySem.W.exmOne K cls c = some b ∧ (b = true → tfs { nx := fun σ2 H2 => Wout cls d σ2 H2, rt := fun _ _ => False } σ H) ∧ (b = false → Wout cls d σ H)
theorem ps_try_re {X : Cx} {x : Str} {c : Value} {body : List Stmt} {f₀ : Stmt} {np pos pos' rp : Pos} {tb : WX → TS} {tfs : TS} {Wout : WX} (hs : X.stack = X.env :: X.outer) (hf : X.env.frame = some X.env.locals) (hex : X.ex = []) (hc : Names X x c)
    (hpa : ∀ hd : Option Value, PassesOwnAt (model X.prog X.w) (X.A.mark hd) X.A X.env X.xe) (tk : Takes X Wout)
    (hb : ∀ (W : WX) (pn : List (Addr × Obj)) (xe : Value → Shared → Prop), L2N.Takes (X.tr pn xe) W → PassesOwn (model X.prog X.w) X.A X.env xe → PSs (X.tr pn xe) body (tb W))
    (hsu : ∀ (a : Addr) (pn : List (Addr × Obj)), L2H.HotC (X.suite a pn) → PS (X.suite a pn) f₀ tfs) :
    PS X (.Try body [.ExceptHandler (some (.Name x np)) none [f₀, .Raise none none rp] pos'] [] [] pos) (tb (wRe X.K c tfs Wout)) := by
  refine ⟨fun pins s σ H D I h => ?_⟩
  have ok := I.ok
  have hfr : X.A.frames = some (X.env :: X.outer) := by rw [ok.frames, hs]
  refine wpAny_Try_except ?_
  refine wpAny_mono ((hb (wRe X.K c tfs Wout) (X.pn ++ pins) (fun e s₁ => wpAny (model X.prog X.w) X.A (noteFrame e X.env) (fun _ s₂ => wpAny (model X.prog X.w) X.A (setFlight e none) (fun _ s₃ =>
    wpAny (model X.prog X.w) X.A (handleBy e X.env [.ExceptHandler (some (.Name x np)) none [f₀, .Raise none none rp] pos']) (SP X pins D) X.xe s₃) X.xe s₂) X.xe s₁) (fun u s' xx => ?_) PassesOwn.looking).run [] s σ H D (I.toTry _) h) (fun f s1 hsp => ?_) (fun e s1 he => he)
  · -- the catch
    obtain ⟨a, B, sI, pins', σ', H', cls, d, rfl, J', nb, up, sky, na, os, ag, b, hb1, hyes, hno⟩ := xx
    have J : Inv X pins σ' H' sI := J'.ofTry ok
    have sky' : Sky B (X.env :: X.outer) a (L2N.Zn cls d) X.env.locals s'.heap := by rw [← hs]; exact sky
    show wpAny (model X.prog X.w) X.A (noteFrame (.ref a) X.env) _ _ _
    refine L2N.Sky.land L2N.Zn.steady hfr hf sky' fun h3 fl3 up3 => ?_
    have J3 : Inv X pins σ' H' { s' with heap := h3 } := J.landed nb fl3.1 (up.trans up3) os ag
    obtain ⟨oe3, vs3, he3, hz3, hd3⟩ := fl3.there
    have notFr : ∀ {h : Heap} {a : Addr} {o : Obj} {vs : Array Value}, h.FunFrames B (X.env :: X.outer) → h.get? a = some o → o.data = .fields vs → a ∉ frs (X.env :: X.outer) := fun {h a o vs} ff e dd hm => by
      obtain ⟨_, o', e', hnf⟩ := ff.mem hm
      rw [e] at e'; cases e'
      exact hnf _ dd
    have nfr := notFr fl3.2.2.1 he3 hd3
    have locF : X.env.locals ∈ frs (X.env :: X.outer) := List.mem_filterMap.mpr ⟨X.env, List.mem_cons_self, hf⟩
    have fsF : ∀ b, b ∈ X.fs → b ∈ frs (X.env :: X.outer) := fun b hm => by
      obtain ⟨e, he, q⟩ := List.mem_filterMap.mp hm
      exact List.mem_filterMap.mpr ⟨e, List.mem_cons_of_mem _ he, q⟩
    have nL : a ≠ X.env.locals := fun z => nfr (by rw [z]; exact locF)
    have nF : a ∉ X.fs := fun hm => nfr (fsF _ hm)
    have S3 := J3.suite he3 hd3 na nL nF
    refine wpAny_handleBy_cons (codeAny_handlers_test ?_) (by intro q; cases q)
    have LT : PySem.W.Looks (model X.prog X.w) h3 (typeOf (.ref a)) cls := fun A Q E s k q => wpAny_typeOf_ref (k _ _ he3) (by rw [hz3.1]; exact q)
    have LM := PySem.W.exm_one (M := model X.prog X.w) (J3.kIn) LT hb1
    have test : ∀ {Q : Value → Shared → Prop} {E : Value → Shared → Prop}, Q c { s' with heap := h3 } → wpAny (model X.prog X.w) (X.A.mark (some (.ref a))) (eval (.Name x np) X.env) Q E { s' with heap := h3 } := fun {Q E} q => by
      obtain ⟨hg, hdbg, hm | ⟨hm, hv, hnn⟩⟩ := hc
      · exact ld_glob (X := X.suite a ((a, oe3) :: (X.pn ++ pins))) S3 hg hm q hdbg
      · exact ld_blt (X := X.suite a ((a, oe3) :: (X.pn ++ pins))) S3 hg hm hv q hnn hdbg
    refine test (LM.here ?_)
    cases b with
    | true =>
      refine codeAny_handlers_suite ?_
      refine HandSPX.lands_againZ fl3 fun h4 fl4 up4 => ?_
      have J4 : Inv X pins σ' H' { s' with heap := h4 } := J.landed nb fl4.1 ((up.trans up3).trans up4) os ag
      obtain ⟨k1, k2, k3, oe, vs, T, oT, ts, he4, hz, hd, hv1, hnT, hTe, hT, hdT, ht3⟩ := id fl4
      have nT : H' T = none := (J.inGround nb).gone hnT
      have fa := notFr k3 he4 hd
      have fT := notFr k3 hT hdT
      have hot : L2H.HotC (X.suite a ((a, oe) :: (T, oT) :: (X.pn ++ pins))) := ⟨(a, oe), ⟨rfl, vs, hd, hz.2.2 vs hd⟩, List.mem_cons_self⟩
      have S4 : Inv (X.suite a ((a, oe) :: (T, oT) :: (X.pn ++ pins))) [] σ' H' { s' with heap := h4 } :=
        ⟨J4.ok.suite _ _, J4.os, J4.bare, J4.base, J4.loc, J4.cell, J4.free, J4.freeC, fun p hp => by
          rw [List.append_nil] at hp
          rcases List.mem_cons.mp hp with z | hp
          · rw [z]
            exact ⟨he4, na, fun z2 => fa (by rw [show a = X.env.locals from z2]; exact locF), fun z2 => fa (fsF _ z2), fun v z2 => by
              have z3 : oe.data = .cell v := z2
              rw [hd] at z3
              cases z3⟩
          · rcases List.mem_cons.mp hp with z | hp
            · rw [z]
              exact ⟨hT, nT, fun z2 => fT (by rw [show T = X.env.locals from z2]; exact locF), fun z2 => fT (fsF _ z2), fun v z2 => by
                have z3 : oT.data = .cell v := z2
                rw [hdT] at z3
                cases z3⟩
            · exact J4.pin p hp, J4.hok, J4.len⟩
      refine wpAny_execs_cons (wpAny_mono ((hsu a ((a, oe) :: (T, oT) :: (X.pn ++ pins)) hot).run [] { s' with heap := h4 } σ' H' { nx := fun σ2 H2 => Wout cls d σ2 H2, rt := fun _ _ => False } S4 (hyes rfl)) (fun g s6 hsp => ?_) fun _ _ z => False.elim z)
      cases g with
      | ret u =>
        obtain ⟨_, _, _, _, _, q⟩ := hsp
        exact False.elim q
      | brk =>
        obtain ⟨_, _, _, q⟩ := hsp
        exact False.elim q
      | cont =>
        obtain ⟨_, _, _, q⟩ := hsp
        exact False.elim q
      | next =>
        obtain ⟨σ6, H6, S6, q6⟩ := hsp
        have J6 : Inv X pins σ6 H6 s6 := ⟨ok, S6.os, S6.bare, S6.base, S6.loc, S6.cell, S6.free, S6.freeC, fun p hp => S6.pin p (List.mem_append_left _ (List.mem_cons_of_mem _ (List.mem_cons_of_mem _ hp))), S6.hok, S6.len⟩
        have pa := S6.pin (a, oe) (List.mem_append_left _ List.mem_cons_self)
        have pT := S6.pin (T, oT) (List.mem_append_left _ (List.mem_cons_of_mem _ List.mem_cons_self))
        have ga : s6.heap.get? a = some oe := pa.1
        have gT : s6.heap.get? T = some oT := pT.1
        have na6 : H6 a = none := pa.2.1
        have nT6 : H6 T = none := pT.2.1
        have far : ∀ b o, sI.heap.get? b = some o → b ≠ a ∧ b ≠ T := fun b o e => by
          by_cases hb : b ∈ frs X.stack
          · rw [hs] at hb
            exact ⟨fun z => fa (by rw [← z]; exact hb), fun z => fT (by rw [← z]; exact hb)⟩
          · have q := nb b o e hb
            exact ⟨fun z => by
              rw [z, k2] at q
              exact (nomatch q), fun z => by
              rw [z, hnT] at q
              cases q⟩
        have far0 : ∀ b o, X.s_0.heap.get? b = some o → b ≠ a ∧ b ≠ T := fun b o e => by
          obtain ⟨o', q⟩ := J.base.there b o e (by rw [hex]; simp)
          exact far b o' q
        have farP : ∀ p ∈ X.pn ++ pins, p.1 ≠ a ∧ p.1 ≠ T := fun p hp => far p.1 p.2 (J.pin p hp).1
        obtain ⟨G, g1, g2⟩ := restrict s6.heap fun b => !(decide (b = a) || decide (b = T))
        have gIn : ∀ b o, G.get? b = some o → s6.heap.get? b = some o ∧ b ≠ a ∧ b ≠ T := fun b o e => by
          cases q : (!(decide (b = a) || decide (b = T))) with
          | false =>
            rw [g2 b q] at e
            cases e
          | true =>
            rw [g1 b q] at e
            simp only [Bool.not_eq_true', Bool.or_eq_false_iff, decide_eq_false_iff_not] at q
            exact ⟨e, q.1, q.2⟩
        have gOf : ∀ b o, b ≠ a → b ≠ T → s6.heap.get? b = some o → G.get? b = some o := fun b o h1 h2 e => by
          rw [g1 b (by simp [h1, h2])]
          exact e
        have I6 : Inv X pins σ6 H6 { s6 with heap := G } := J6.less (fun b o e => (gIn b o e).1) gOf ⟨oe, vs, ga, hd⟩ ⟨oT, ts, gT, hdT⟩ na6 nT6 far0 farP
        have B6in : ∀ b o, (PySem.W.hideAll G (frs X.stack)).get? b = some o → s6.heap.get? b = some o := fun b o e => (gIn b o (PySem.W.of_hideAll _ e)).1
        have Bno : ∀ b, (b = a ∨ b = T) → (PySem.W.hideAll G (frs X.stack)).get? b = none := fun b hb => by
          cases q : (PySem.W.hideAll G (frs X.stack)).get? b with
          | none => rfl
          | some o =>
            obtain ⟨_, n1, n2⟩ := gIn b o (PySem.W.of_hideAll _ q)
            rcases hb with z | z
            · exact absurd z n1
            · exact absurd z n2
        have fl6 : HandSPX.FlyingZ (PySem.W.hideAll G (frs X.stack)) (X.env :: X.outer) a (Zc cls d) s6.heap := by
          refine ⟨B6in, Bno a (.inl rfl), ?_, oe, vs, T, oT, ts, ga, hz.zc, hd, hv1, Bno T (.inr rfl), hTe, gT, hdT, ht3⟩
          have ff := funFrames_none (B := PySem.W.hideAll G (frs X.stack)) J6.stack fun b hb => PySem.W.hideAll_none _ hb
          rw [← hs]
          exact ff
        refine wpAny_execs_cons ?_
        show wpAny _ _ (do standAt rp; raiseStmt X.env none none) _ _ _
        refine wpAny_bind (wpAny_standAt ?_)
        refine wpAny_mono (Q := fun _ _ => False) (E := X.xe) ?_ (fun _ _ z => False.elim z) (fun e7 s7 z => hpa (some (.ref a)) e7 s7 z)
        have hhd : (X.A.mark (some (.ref a))).handled = some (.ref a) := rfl
        unfold raiseStmt
        dsimp only
        refine wpAny_bind (wpAny_handled ?_)
        rw [hhd]
        dsimp only
        refine wpAny_bind (wpAny_rule ?_)
        refine wpAny_bind (wpAny_field ga hd hv1 ?_)
        rw [if_neg (show ¬ ((Value.ref T == Value.none) = true) from by simp)]
        have goOn : wpAny (model X.prog X.w) (X.A.mark (some (.ref a))) (setFlight (.ref a) X.env.frame) (fun _ s7 => wpAny (model X.prog X.w) (X.A.mark (some (.ref a))) (throw (.ref a) : Sem Flow) (fun _ _ => False) X.xe s7) X.xe s6 := by
          rw [hf]
          refine HandSPX.setFlight_upZ fl6 fun h7 hh7 up7 => wpAny_throw (tk _ _ ?_)
          refine ⟨a, PySem.W.hideAll G (frs X.stack), { s6 with heap := G }, pins, σ6, H6, cls, d, rfl, I6, fun b o e hb => PySem.W.hideAll_get _ e hb, ?_, .inr (.inr (by rw [← hs] at hh7; exact hh7)), na6, rfl, J6.bare, q6⟩
          exact Heap.UpToSlots.trans (Heap.UpToSlots.of_keeps fun b o e => (gIn b o e).1) up7
        first
          | exact wpAny_bind (wpAny_pure (wpAny_bind goOn))
          | exact wpAny_bind goOn
    | false =>
      show wpAny _ X.A (handleBy (.ref a) X.env []) _ _ _
      refine wpAny_handleBy_nil ?_
      obtain ⟨k1, k2, k3, oe, vs, T, oT, ts', he, hz, hd, h1, hr⟩ := id fl3
      unfold PySem.passOn
      refine wpAny_bind (wpAny_field he hd h1 ?_)
      rw [if_neg (show ¬ ((Value.ref T == Value.none) = true) from by simp)]
      replace fl3 := L2H.flyingZ_imp (fun o z => z.zc) fl3
      have fin : wpAny (model X.prog X.w) X.A (setFlight (.ref a) X.env.frame) (fun _ s4 => wpAny (model X.prog X.w) X.A (throw (.ref a) : Sem Flow) (SP X pins D) X.xe s4) X.xe { s' with heap := h3 } := by
        rw [hf]
        refine HandSPX.setFlight_upZ fl3 fun h4 hh4 up4 => wpAny_throw (tk _ _ ?_)
        exact ⟨a, B, sI, pins, σ', H', cls, d, rfl, J, nb, (up.trans up3).trans up4, .inr (.inr (by rw [hs]; exact hh4)), na, os, ag, hno rfl⟩
      first
        | exact wpAny_bind (wpAny_pure (wpAny_bind fin))
        | exact wpAny_bind fin
  · cases f with
    | next =>
      obtain ⟨σ', H', J', q⟩ := hsp
      exact wpAny_execs_nil ⟨σ', H', J'.ofTry ok, q⟩
    | brk =>
      obtain ⟨σ', H', J', q⟩ := hsp
      exact ⟨σ', H', J'.ofTry ok, q⟩
    | cont =>
      obtain ⟨σ', H', J', q⟩ := hsp
      exact ⟨σ', H', J'.ofTry ok, q⟩
    | ret u =>
      obtain ⟨v, σ', H', J', r, q⟩ := hsp
      exact ⟨v, σ', H', J'.ofTry ok, r, q⟩
end Sw

end

section
set_option maxRecDepth 100000
set_option maxHeartbeats 4000000
/-! a method call whose exceptions' wish reads the slots -/
namespace Sw
open PySem PySem.Spec PyProof.Rows L2 SwA
/-- o.m(e, ..): what it may let out, at the slots -/
def tMethE (C : Addr) (m : Str) (sp : Sp) (E : L2.St → XK) (ta : TE) (t : TA) : TE := fun σ H Q => ta σ H fun x H1 => ∃ a dx fs, x = .ref a ∧ H1 a = some (.ins C dx fs) ∧ fs.lookup m = none ∧
  t σ H1 fun vs H2 => sp (x :: vs) H2 Q (E σ)
section
variable {X : Cx} {CX : CXT} {k : Nat} {f C : Addr} {fd : FuncData} {ps : List Str} {sp : Sp} {E : L2.St → XK} {m : Str} {pos apos : Pos} {e o : Expr} {es : List Expr} {ta : TE} {t : TA}
theorem pe_methE {pl : Sem Bool} (he : PE X o ta) (c : Cls X.K C) (hm : Meth X.K C m f) (F : FnOk X.prog X.w X.K X.mg X.base CX k f fd ps sp) (hr : Room k X.A) (hb : Binds X.K fd ps []) (hx : ∀ σ, PassesAt CX X σ (E σ)) (ha : L2.PA X (e :: es) t)
    (hst : starEach (e :: es) X.env = (false, eval e X.env) :: starEach es X.env := by rfl) (hpl : (backTo pos (starEach es X.env)).any (·.1) = false := by rfl)
    (ht : eval (.Call (.Attribute o m apos) (e :: es) [] pos) X.env = (do
      let ov ← eval o X.env
      standAt apos.atName
      let (f, first) ← holding [ov] (getMethod ov m pl)
      callWith pos f first (backTo pos (starEach (e :: es) X.env)) (backToKw pos (keywordEach [] X.env))) := by rfl) :
    PE X (.Call (.Attribute o m apos) (e :: es) [] pos) (tMethE C m sp E ta t) := by
  refine ⟨fun pins s σ H Q I h => ?_⟩
  refine PySem.W.methodCall_KW (pl := pl) (thn (he.run pins s σ H _ I h) fun u s1 ⟨x, H1, I1, rx, a, dx, fs, ex, ea, l, q⟩ => ?_) ht
  subst ex
  obtain rfl : u = Value.ref a := rx
  refine getmeth_ok I1 ea c hm l ?_
  refine PySem.W.callWith_K (first := [.ref a]) (h₀ := X.base) I.ok.mod.kin hm.kp (thn (ha.run pos pins s1 σ H1 _ I1 q) fun us s2 ⟨vs, H2, I2, r, q2⟩ => ⟨I2.kIn, ?_⟩) hst hpl
  exact run_fnS (us := .ref a :: us) (vs := .ref a :: vs) F hr hb (hx σ) I2 (.cons rfl r) q2
end
end Sw

end

section
set_option maxRecDepth 100000
set_option maxHeartbeats 4000000
set_option pp.deepTerms false
set_option pp.deepTerms.threshold 8
/-! the corridor: batch of operations of which one fails: all as before -/
namespace Sw
open PySem PySem.Spec PyProof.Rows L2 SwA
structure BafT (K : PySem.W.Frag) (w : World) (mg : Str → Option Value) : Prop where
  b : BatT K w mg
  sw : mg "SweepError" = some (.ref (He.ga K "SweepError"))
  ekN : EKind K "InvalidNumber" 1
  ekU : EKind K "UnknownSign" 2
/-- what the corridor changes is no fixed thing -/
theorem CorAt.nofix {K : PySem.W.Frag} {H0 H : Hp} {p : Addr} {L : CLoc} {pln : Plan} {c : CSt} (h : CorAt K H0 H p L pln c) {b : Addr} (hb : b ∈ L.all p) : ∃ o, H b = some o ∧ ¬ Fixed K o := by
  rcases List.mem_cons.mp hb with z | z
  · subst z
    exact ⟨_, h.ob, fun q => q rfl⟩
  rcases List.mem_cons.mp z with z | z
  · obtain ⟨ps, q, _⟩ := h.past
    subst z
    exact ⟨_, q, fun q => q⟩
  rcases List.mem_cons.mp z with z | z
  · obtain ⟨ps, q, _⟩ := h.und
    subst z
    exact ⟨_, q, fun q => q⟩
  rcases List.mem_cons.mp z with z | z
  · obtain ⟨ps, q, _⟩ := h.sav
    subst z
    exact ⟨_, q, fun q => q⟩
  · obtain ⟨xs, q⟩ := h.ow b z
    exact ⟨_, q, fun q => q⟩
theorem CorAt.fzCut {K : PySem.W.Frag} {H0 H : Hp} {p : Addr} {L : CLoc} {pln : Plan} {c : CSt} (h : CorAt K H0 H p L pln c) : Fz K H (cutH H (L.all p)) := fun a o e f => (cutH_out fun z => by
  obtain ⟨o2, e2, n⟩ := h.nofix z
  rw [e] at e2
  cases e2
  exact n f).trans e
theorem undo_savedF (c : CSt) : (undoC c).saved = c.saved := by
  unfold undoC
  cases c.past.getLast? <;> rfl
theorem redo_savedF (c : CSt) : (redoC c).saved = c.saved := by
  unfold redoC
  cases c.undone.getLast? <;> rfl
theorem exec1_savedF {pln : Plan} {c c' : CSt} {op : Op} (h : execM pln c op = .inr c') : c'.saved = c.saved := by
  by_cases h1 : op = .undo
  · subst h1
    cases h
    exact undo_savedF c
  by_cases h2 : op = .redo
  · subst h2
    cases h
    exact redo_savedF c
  rw [exec_now h1 h2] at h
  cases hn : nowM pln c.now op with
  | inl x => rw [hn] at h; cases h
  | inr n =>
    rw [hn] at h
    cases h
    rfl
section
variable {P : Program} {w : World} {K : PySem.W.Frag} {mg : Str → Option Value} {base : Heap}
def spBatchF (K : PySem.W.Frag) : Sp := fun vs H _ E => ∃ (H0 : Hp) (p la : Addr) (L : CLoc) (pln : Plan) (c cm : CSt) (k m : Nat) (oas : List Addr) (ops : List Op) (ds : List PyData) (op : Op) (er : OpErr), vs = [.ref p, .ref la] ∧ CorAt K H0 H p L pln c ∧ WfP pln ∧ CorOk pln k c ∧ k + ops.length ≤ 50000 ∧
  H0 la = some (.lst (oas.map V.ref)) ∧ Paired (OpOk K H0) oas ops ∧ execAll pln c (ops.take m) = some (cm, ds) ∧ ops[m]? = some op ∧ execM pln cm op = .inl er ∧
  ∀ (L' : CLoc) (H' : Hp), CorAt K H0 H' p L' pln c → L'.own = L.own → L'.sd = L.sd → E (errV K er) none H'
theorem ok_batchF (T : BafT K w mg) : FnE P w K mg base (L2.CX P w) 8 ("Corridor", some "batch") ["self", "operations"] (spBatchF K) := by
  obtain ⟨fd, F⟩ := T.b.batch.d
  obtain ⟨fdI, GI, bI, kI⟩ := ok_is_operation (P := P) (w := w) (base := base) T.b.i
  obtain ⟨fdXN, GXN, bXN, kXN⟩ := ok_executeN (P := P) (w := w) (base := base) T.b.e
  refine ⟨fd, F.ok sc_batch (fun vs H Q E h => ?_) (fun cdv A outer s H vs Q E hr h => ?_), F.bindsN fun _ _ _ _ _ _ us hl => match us, hl with | [_, _], _ => rfl, F.kp⟩
  · obtain ⟨H0, p, la, L, pln, c, cm, k, m, oas, ops, ds, op, er, rfl, _⟩ := h
    rfl
  · obtain ⟨H0, p, la, L, pln, c, cm, kk, m, oas, ops, ds, op, er, rfl, hc, wf, co, hkk, hla, hops, hex, hop, hbad, k⟩ := h
    have hr1 : Room 1 _ := hr.mono (by decide)
    have hr7 := hr
    have A1 := T.b.e.o.r.c.ap
    refine ⟨_, (pss_cons (ps_if (pt_not (pt_val (pe_callB call_isi (by rfl) T.b.e.o.r.c.m.isinstance (by decide +kernel) (pa_cons (pv 1) (pa_cons (pe_bltn (v := .ty "list") (by rfl) T.b.e.o.r.c.list (by decide +kernel) rfl) pa_nil)))))
        (pss_one ps_never) pss_nil)
      (pss_cons (ps_for (passes_of rfl) rfl (pi_enum (by rfl) T.b.e.o.enumerate (pa_cons (pv 1) pa_nil)) (pg_tup (n := 2) rfl (pgs_cons (pg_name (i := 2) sc_batch.nd rfl (.inl rfl)) (pgs_cons (pg_name (i := 3) sc_batch.nd rfl (.inl rfl)) pgs_nil)))
        (pss_one (ps_if (pt_not (pt_val (pe_call GI hr1 rfl T.b.i.is_operation.g kI bI .nil pass0 (pa_cons (pv 3) pa_nil))))
          (pss_one ps_never) pss_nil)))
      (pss_cons (ps_set (i := 4) sc_batch.nd rfl (.inl rfl) (pe_tup (pa_cons (pe_fld (pv 0) rfl) (pa_cons (pe_callTy call_list_of (by rfl) T.b.e.o.r.c.list (by decide +kernel) (pa_cons (pe_fld (pv 0) rfl) pa_nil)) (pa_cons (pe_callTy call_list_of (by rfl) T.b.e.o.r.c.list (by decide +kernel) (pa_cons (pe_fld (pv 0) rfl) pa_nil)) pa_nil)))))
      (pss_one (ps_try_re rfl rfl rfl ⟨rfl, by decide, .inl T.sw⟩ (fun hd => L2H.passesAt_of rfl hd) (takes_of rfl rfl rfl rfl)
        (fun W pn xe tk hpo => (pss_eqT (pss_one (ps_ret (pe_lcX (own := [("operation", 3)]) (g := gName 3) (tt := tYes) (te := fun W => tMethE (He.ga K "Corridor") "execute" (spExecute K) (WE W) (tVar 0) (tCons (tVar 3) tNil)) rfl rfl rfl tk rfl sc_batch.nd (pi_list (pv 1)) (blkOk_by (own := [("operation", 3)]) (N := baN) (sc := defScope s_Corridor_batch) (by decide +kernel)) (fun _ _ _ _ _ => pg_name sc_batch.nd rfl (.inl rfl)) (fun _ _ _ _ _ => pts_nil) (fun W _ _ _ _ _ xe tkF => pe_methE (pv 0) T.b.e.o.r.c.cor.c T.b.e.execute.m GXN hr7 bXN (passAtF tkF) (pa_cons (pv 3) pa_nil))))) (by dsimp only [Cx.tr])))
        (fun a pn hot => (ps_eqT (ps_asg (pv 4)
            (L2H.pg_tupH (n := 3) hot (pgs_cons (pg_fld (pv 0)) (pgs_cons (pg_fld (pv 0)) (pgs_cons (pg_fld (pv 0)) pgs_nil))))) (by dsimp only [Cx.suite])))))))), ?_⟩
    have hlaH := hc.same _ _ hla
    have hlo : oas.length = ops.length := hops.length
    have hml : m < ops.length := (List.getElem?_eq_some_iff.mp hop).1
    refine ⟨_, rfl, _, _, _, _, true, rfl, .ty "list", (ArN.lst (K := K) hlaH).ty, kit_ty (by decide +kernel), _, rfl, ?_⟩
    refine ⟨_, rfl, la, _, rfl, SqL.of hlaH, ?_⟩
    refine for_it (walk_enum (K := K) (a := la) (xs := oas.map V.ref)) (fun i σ H1 => ∃ o2 o3 : Option V, σ = [some (.ref p), some (.ref la), o2, o3, none] ∧ Same H H1) ⟨none, none, rfl, Same.refl H⟩ (fun i σ H1 _ ⟨_, _, _, sm⟩ => SqL.of (sm _ _ hlaH)) ?_ ?_
    · rintro i x σ H1 H2 hi ⟨o2, o3, rfl, sm⟩ ⟨tt, v1, v2, rfl, ntt, rfl, e1, e2⟩
      replace e2 : (oas.map V.ref)[i]? = some v2 := e2
      rw [List.getElem?_map] at e2
      cases hoa : oas[i]? with
      | none => rw [hoa] at e2; cases e2
      | some oa =>
        rw [hoa] at e2
        cases e2
        cases e1
        obtain ⟨op, hop, hok⟩ := pairedL hops hoa
        have s2 := sameUpd (o := .tup [.int (i : Nat), .ref oa]) (Same.refl H1) ntt
        refine ⟨tt, _, rfl, SqT.of upd_same, rfl, _, _, rfl, _, _, rfl, rfl, ?_⟩
        refine ⟨_, rfl, .ref oa, true, rfl, hok.a.sameH ((hc.same.trans sm).trans s2), fun H3 s3 => ?_⟩
        exact ⟨_, rfl, _, _, rfl, (sm.trans s2).trans s3⟩
    rintro σ H1 ⟨o2, o3, rfl, sm1⟩
    have hc1 := hc.same' A1 sm1
    obtain ⟨ps, hps, hpr⟩ := id hc1.past
    refine ⟨_, rfl, p, _, _, _, _, rfl, hc1.ob, T.b.e.o.r.c.cor.c, T.b.e.o.r.c.cor.n _ (by simp), lc_now, _, rfl, p, _, _, _, _, rfl, hc1.ob, T.b.e.o.r.c.cor.c, T.b.e.o.r.c.cor.n _ (by simp), lc_past, L.pl, _, rfl, .inl (SqL.of hps), fun q1 nq1 => ?_⟩
    have n1 : H0 q1 = none := hc1.same.free nq1
    have q1L : q1 ∉ L.all p := fun z => hc1.tracked q1 z nq1
    have s2 := sameUpd (o := .lst (ps.map V.ref)) (Same.refl H1) nq1
    have hq1 := @upd_same H1 q1 (.lst (ps.map V.ref))
    replace sm1 := sm1.trans s2
    generalize upd H1 q1 (.lst (ps.map V.ref)) = H2 at *
    have hc2 := hc1.same' A1 s2
    obtain ⟨us, hus, hur⟩ := id hc2.und
    refine ⟨_, rfl, p, _, _, _, _, rfl, hc2.ob, T.b.e.o.r.c.cor.c, T.b.e.o.r.c.cor.n _ (by simp), lc_undone, L.ul, _, rfl, .inl (SqL.of hus), fun q2 nq2 => ?_⟩
    have n2 : H0 q2 = none := hc2.same.free nq2
    have q2L : q2 ∉ L.all p := fun z => hc2.tracked q2 z nq2
    have q12 : q1 ≠ q2 := ne_of_none hq1 nq2
    have s3 := sameUpd (o := .lst (us.map V.ref)) (Same.refl H2) nq2
    have hq2 := @upd_same H2 q2 (.lst (us.map V.ref))
    replace sm1 := sm1.trans s3
    generalize upd H2 q2 (.lst (us.map V.ref)) = H3 at *
    replace hq1 := s3 _ _ hq1
    have hc3 := hc2.same' A1 s3
    refine ⟨(by show 3 ≤ sizeLine; decide), fun q3 nq3 => ?_⟩
    have q3L : q3 ∉ L.all p := fun z => hc3.tracked q3 z nq3
    have s4 := sameUpd (o := .tup [.ref L.na, .ref q1, .ref q2]) (Same.refl H3) nq3
    have hq3 := @upd_same H3 q3 (.tup [.ref L.na, .ref q1, .ref q2])
    replace sm1 := sm1.trans s4
    generalize upd H3 q3 (.tup [.ref L.na, .ref q1, .ref q2]) = H4 at *
    replace hq1 := s4 _ _ hq1
    replace hq2 := s4 _ _ hq2
    have hc4 := hc3.same' A1 s4
    have hpr4 : Paired (EntAt K H4) ps c.past := Paired.mapP hpr fun _ _ q => q.fz A1 (.same ((s2.trans s3).trans s4))
    have hur4 : Paired (EntAt K H4) us c.undone := Paired.mapP hur fun _ _ q => q.fz A1 (.same (s3.trans s4))
    clear hc1 hc2 hc3 s2 s3 s4 hps hus hpr hur nq1 nq2 nq3
    -- what stands beside the corridor
    obtain ⟨Hc, hHc⟩ : ∃ Hc, Hc = cutH H4 (L.all p) := ⟨_, rfl⟩
    have h4c : CorAt K Hc H4 p L pln c := hHc ▸ hc4.refit
    have s0c : Same H0 Hc := hHc ▸ hc4.cut
    have fzc : Fz K H4 Hc := hHc ▸ hc4.fzCut
    have cq1 : Hc q1 = some (.lst (ps.map V.ref)) := by rw [hHc]; exact (cutH_out q1L).trans hq1
    have cq2 : Hc q2 = some (.lst (us.map V.ref)) := by rw [hHc]; exact (cutH_out q2L).trans hq2
    have cq3 : Hc q3 = some (.tup [.ref L.na, .ref q1, .ref q2]) := by rw [hHc]; exact (cutH_out q3L).trans hq3
    have cla : Hc la = some (.lst (oas.map V.ref)) := s0c _ _ hla
    refine ⟨_, rfl, la, rfl, ⟨_, SqL.of (h4c.same _ _ cla)⟩, fun D nD => ?_⟩
    have n0D : Hc D = none := h4c.same.free nD
    have DL : D ∉ L.all p := fun z => hc4.tracked D z nD
    refine lc_list (K := K) (a := la) (xs := oas.map V.ref) (fun i H5 => ∃ (Li : CLoc) (ci : CSt) (rest : List PyData) (vs : List V), CorAt K Hc H5 p Li pln ci ∧ Li.own = L.own ∧ Li.sd = L.sd ∧ CorOk pln (kk + i) ci ∧ ci.saved = c.saved ∧ execAll pln ci ((ops.take m).drop i) = some (cm, rest) ∧ i ≤ m ∧ H5 D = some (.lst vs) ∧ D ∉ Li.all p ∧ vs.length = i) ?_ (fun i H5 _ ⟨_, _, _, _, hc5, _⟩ => SqL.of (hc5.same _ _ cla)) ?_ ?_
    · exact ⟨L, c, ds, [], h4c.same' A1 (sameUpd (Same.refl _) nD), rfl, rfl, co, rfl, hex, Nat.zero_le _, upd_same, DL, rfl⟩
    · rintro i x H5 hx ⟨Li, ci, rest, vs, hc5, eo, es, cok, esv, hx5, him, hD, nDL, hvl⟩
      rw [List.getElem?_map] at hx
      cases hoa : oas[i]? with
      | none => rw [hoa] at hx; cases hx
      | some oa =>
        rw [hoa] at hx
        cases hx
        obtain ⟨opi, hopi, hok⟩ := pairedL hops hoa
        have BD : cutH H5 (Li.all p) D = some (.lst vs) := (cutH_out nDL).trans hD
        refine ⟨rfl, _, rfl, p, _, _, rfl, hc5.ob, lc_no_execute, _, rfl, cutH H5 (Li.all p), p, oa, Li, pln, ci, opi, rfl, (cok.opIn wf (by omega) hc5.refit), hok.t.sameH (s0c.trans hc5.same), fun e he => ?_, fun c2 he L' H6 v hc6 eo6 es6 hres => ?_⟩
        · intro H6 s6
          rcases Nat.lt_or_ge i m with hlt | hge
          · exfalso
            have edr : (ops.take m).drop i = opi :: (ops.take m).drop (i + 1) := by
              have hl : i < (ops.take m).length := by rw [List.length_take]; omega
              rw [List.drop_eq_getElem_cons hl, List.getElem_take]
              rw [(List.getElem?_eq_some_iff.mp hopi).2]
            rw [edr] at hx5
            obtain ⟨c', r', x1, x2, x3⟩ := all_cons hx5
            rw [x1] at he
            cases he
          · have him2 : i = m := by omega
            subst him2
            have : (ops.take i).drop i = [] := List.drop_eq_nil_of_le (by rw [List.length_take]; omega)
            rw [this] at hx5
            cases hx5
            rw [hop] at hopi
            cases hopi
            rw [hbad] at he
            cases he
            have hc6 := hc5.same' A1 s6
            have ekm : PySem.W.exmOne K (errV K er) (.ref (He.ga K "SweepError")) = some true := by
              cases er with
              | number => exact T.ekN.exm
              | sign => exact T.ekU.exm
            refine ⟨true, ekm, fun _ => ?_, fun z => nomatch z⟩
            have at_p := hc6.ob
            have pcut : Hc p = none := h4c.new p List.mem_cons_self
            refine ⟨_, rfl, q3, _, rfl, SqT.of (hc6.same _ _ cq3), rfl, _, _, rfl, _, rfl, p, _, _, _, rfl, at_p, T.b.e.o.r.c.cor.c, T.b.e.o.r.c.cor.n _ (by simp), (by simp), _, _, rfl, _, rfl, p, _, _, _, rfl, upd_same, T.b.e.o.r.c.cor.c, T.b.e.o.r.c.cor.n _ (by simp), (by rw [put_now]; simp), _, _, rfl, _, rfl, p, _, _, _, rfl, upd_same, T.b.e.o.r.c.cor.c, T.b.e.o.r.c.cor.n _ (by simp), (by rw [put_now, put_past]; simp), rfl, ?_⟩
            rw [put_now, put_past, put_undone]
            have n0p : H0 p = none := hc.new p List.mem_cons_self
            obtain ⟨F1, hF1⟩ : ∃ F1, F1 = upd H6 p (.ins (He.ga K "Corridor") Li.dx (corFs (.ref Li.pa) (.ref L.na) (.ref Li.pl) (.ref Li.ul) (.ref Li.sd))) := ⟨_, rfl⟩
            obtain ⟨F2, hF2⟩ : ∃ F2, F2 = upd F1 p (.ins (He.ga K "Corridor") Li.dx (corFs (.ref Li.pa) (.ref L.na) (.ref q1) (.ref Li.ul) (.ref Li.sd))) := ⟨_, rfl⟩
            obtain ⟨F3, hF3⟩ : ∃ F3, F3 = upd F2 p (.ins (He.ga K "Corridor") Li.dx (corFs (.ref Li.pa) (.ref L.na) (.ref q1) (.ref q2) (.ref Li.sd))) := ⟨_, rfl⟩
            have f1 : Fz K H6 F1 := hF1 ▸ Fz.put (Fz.refl _) at_p (fun q => q rfl)
            have p1 : F1 p = some _ := hF1 ▸ upd_same
            have f2 : Fz K F1 F2 := hF2 ▸ Fz.put (Fz.refl _) p1 (fun q => q rfl)
            have p2 : F2 p = some _ := hF2 ▸ upd_same
            have f3 : Fz K F2 F3 := hF3 ▸ Fz.put (Fz.refl _) p2 (fun q => q rfl)
            have p3 : F3 p = some _ := hF3 ▸ upd_same
            have f13 := f1.trans (f2.trans f3)
            have f49 : Fz K H4 F3 := fzc.trans ((Fz.same hc6.same).trans f13)
            have out : ∀ a, a ≠ p → F3 a = H6 a := fun a ha => by rw [hF3, upd_ne ha, hF2, upd_ne ha, hF1, upd_ne ha]
            have sm9 : Same H0 F3 := by
              rw [hF3, hF2, hF1]
              exact sameUpd (sameUpd (sameUpd (s0c.trans hc6.same) n0p) n0p) n0p
            have q1p : q1 ≠ p := ne_of (hc6.same _ _ cq1) at_p (by intro z; cases z)
            have q2p : q2 ≠ p := ne_of (hc6.same _ _ cq2) at_p (by intro z; cases z)
            have nown : ∀ {q : Addr} {o : HO}, Hc q = some o → q ∉ Li.own := fun {q o} e z => by
              have := hc6.new q (List.mem_cons_of_mem _ (List.mem_cons_of_mem _ (List.mem_cons_of_mem _ (List.mem_cons_of_mem _ z))))
              rw [e] at this
              cases this
            show E (errV K er) none _
            rw [← hF1, ← hF2, ← hF3]
            refine k { Li with na := L.na, pl := q1, ul := q2 } F3 ((hc6.mono s0c).change A1 f13 sm9 p3 rfl rfl rfl esv.symm (hc4.now.fz A1 f49) ⟨ps, (out _ q1p).trans (hc6.same _ _ cq1), Paired.mapP hpr4 fun _ _ q => q.fz A1 f49⟩ ⟨us, (out _ q2p).trans (hc6.same _ _ cq2), Paired.mapP hur4 fun _ _ q => q.fz A1 f49⟩ (fun a ha _ _ _ => out a ha) q12 (nown cq1) (nown cq2) n1 n2) eo es
        · rcases Nat.lt_or_ge i m with hlt | hge
          · have edr : (ops.take m).drop i = opi :: (ops.take m).drop (i + 1) := by
              have hl : i < (ops.take m).length := by rw [List.length_take]; omega
              rw [List.drop_eq_getElem_cons hl, List.getElem_take]
              rw [(List.getElem?_eq_some_iff.mp hopi).2]
            rw [edr] at hx5
            obtain ⟨c', r', x1, x2, x3⟩ := all_cons hx5
            rw [x1] at he
            cases he
            have hD6 := hc6.same _ _ BD
            have nDL6 : D ∉ L'.all p := fun z => by rw [hc6.new D z] at BD; cases BD
            refine ⟨vs, hD6, by rw [hvl, sizeLine_eq]; omega, L', _, r', vs ++ [v], ?_, eo6.trans eo, es6.trans es, ?_, (exec1_savedF x1).trans esv, x2, hlt, upd_same, nDL6, by rw [List.length_append, hvl]; rfl⟩
            · refine (hc6.mono hc5.cut).keep A1 (Fz.put (Fz.refl _) hD6 (fun q => q)) (sameUpd (hc5.cut.trans hc6.same) n0D) fun a ha => ?_
              exact upd_ne (fun z => nDL6 (z ▸ ha))
            · have := cok.exec wf x1
              rw [Nat.add_assoc] at this
              exact this
          · exfalso
            have him2 : i = m := by omega
            subst him2
            rw [hop] at hopi
            cases hopi
            have : (ops.take i).drop i = [] := List.drop_eq_nil_of_le (by rw [List.length_take]; omega)
            rw [this] at hx5
            cases hx5
            rw [hbad] at he
            cases he
    · rintro H5 ⟨Li, ci, rest, vs, hc5, eo, es, cok, esv, hx5, him, hD, nDL, hvl⟩
      exfalso
      rw [List.length_map] at him
      omega
end
end Sw

end

section
set_option maxRecDepth 100000
set_option maxHeartbeats 4000000
/-! the corridor: save, restore -/
namespace Sw
open PySem PySem.Spec PyProof.Rows L2 SwA
structure SavT (K : PySem.W.Frag) (w : World) (mg : Str → Option Value) : Prop where
  p : CorP K w mg
  all : mg "all" = none
  MAXL : ∃ t, mg nMaxLetC = some (.int 8 t)
  name : PlT K mg "InvalidName"
  unknown : PlT K mg "UnknownName"
  save : MeT K "Corridor" "save" "Corridor.save" s_Corridor_save
  restore : MeT K "Corridor" "restore" "Corridor.restore" s_Corridor_restore
def nameOk : V → Bool
  | .str z => decide (1 ≤ z.length) && decide (z.length ≤ 8) && z.cps.toList.all isL
  | _ => false
def saveC (c : CSt) (nm : Cs) : CSt := ⟨c.now, c.past, c.undone, putA c.saved nm ⟨c.now, c.past, c.undone⟩⟩
def restC (c : CSt) (s : Snap) : CSt := ⟨s.now, s.past, s.undone, c.saved⟩
theorem map_ref_inj : ∀ {l m : List Addr}, l.map V.ref = m.map V.ref → l = m
  | [], [], _ => rfl
  | [], _ :: _, h => by cases h
  | _ :: _, [], h => by cases h
  | a :: l, b :: m, h => by
    injection h with h1 h2
    rw [V.ref.inj h1, map_ref_inj h2]
theorem snap_key {K : PySem.W.Frag} {H : Hp} {own : List Addr} {kv : Key × V} {e : Cs × Snap} (h : SnapAt K H own kv e) (nm : Cs) : (kv.1 = .inr (sx nm)) ↔ e.1 = nm := by
  rw [h.1]
  exact ⟨fun z => sx_inj (Sum.inr.inj z), fun z => by rw [z]⟩
theorem snap_put {K : PySem.W.Frag} {H : Hp} {own : List Addr} {nm : Cs} {t : Addr} {s : Snap} (ht : SnapAt K H own (.inr (sx nm), .ref t) (nm, s)) : ∀ {kvs : List (Key × V)} {sv : List (Cs × Snap)}, Paired (SnapAt K H own) kvs sv → Paired (SnapAt K H own) (putK kvs (.inr (sx nm)) (.ref t)) (putA sv nm s) := by
  intro kvs sv h
  have e : (kvs.any fun kv => decide (kv.1 = (.inr (sx nm) : Key))) = (sv.any fun kv => decide (kv.1 = nm)) := by
    induction h with
    | nil => rfl
    | cons a b ih => rw [List.any_cons, List.any_cons, ih, decide_eq_decide.mpr (snap_key a nm)]
  unfold putK putA
  rw [e]
  split
  · rename_i hq
    clear hq
    clear e
    induction h with
    | nil => exact .nil
    | @cons a b l m x y ih =>
      rw [List.map_cons, List.map_cons]
      refine .cons ?_ ih
      by_cases q : b.1 = nm
      · rw [if_pos q, if_pos ((snap_key x nm).mpr q), x.1, q]
        exact ht
      · rw [if_neg q, if_neg (fun z => q ((snap_key x nm).mp z))]
        exact x
  · exact Paired_snoc h ht
theorem snap_get {K : PySem.W.Frag} {H : Hp} {own : List Addr} {nm : Cs} : ∀ {kvs : List (Key × V)} {sv : List (Cs × Snap)}, Paired (SnapAt K H own) kvs sv →
    (getA sv nm = none → valV kvs (.inr (sx nm)) = none) ∧ (∀ s, getA sv nm = some s → ∃ t, valV kvs (.inr (sx nm)) = some (.ref t) ∧ SnapAt K H own (.inr (sx nm), .ref t) (nm, s))
  | _, _, .nil => ⟨fun _ => rfl, fun s h => by cases h⟩
  | _, _, .cons (a := kv) (b := r0) (l₁ := m) (l₂ := l) h t => by
    have ih := snap_get (nm := nm) t
    by_cases e : r0.1 = nm
    · have e1 : getA (r0 :: l) nm = some r0.2 := by unfold getA; rw [List.find?_cons, decide_eq_true e]; rfl
      have ek := (snap_key h nm).mpr e
      have e2 : valV (kv :: m) (.inr (sx nm)) = some kv.2 := valV_pos ek
      refine ⟨(fun z => by rw [e1] at z; cases z), fun s z => ?_⟩
      rw [e1] at z
      cases z
      obtain ⟨_, tt, x1, x2, x3, x4, x5⟩ := id h
      refine ⟨tt, by rw [e2, x4], rfl, tt, x1, x2, x3, rfl, x5⟩
    · have e1 : getA (r0 :: l) nm = getA l nm := by unfold getA; rw [List.find?_cons, decide_eq_false e]
      have e2 : valV (kv :: m) (.inr (sx nm)) = valV m (.inr (sx nm)) := valV_neg (fun q => e ((snap_key h nm).mp q))
      rw [e1, e2]
      exact ih
theorem SnapAt.own {K : PySem.W.Frag} {H : Hp} {own own' : List Addr} {kv : Key × V} {e : Cs × Snap} (i : ∀ a ∈ own, a ∈ own') (h : SnapAt K H own kv e) : SnapAt K H own' kv e :=
  let ⟨e0, t, na, la, ua, e1, e2, e3, e4, e5, e6, e7⟩ := h
  ⟨e0, t, na, la, ua, e1, e2, e3, i _ e4, i _ e5, e6, e7⟩
section
variable {P : Program} {w : World} {K : PySem.W.Frag} {mg : Str → Option Value} {base : Heap}
def spSave (K : PySem.W.Frag) : Sp := fun vs H Q E => ∃ (H0 : Hp) (p : Addr) (L : CLoc) (pln : Plan) (c : CSt) (v : V) (n : String), vs = [.ref p, v] ∧ CorAt K H0 H p L pln c ∧ ArN K H v n ∧ (∀ z, v = .str z → z.length ≤ 1000) ∧ c.saved.length ≤ 1000 ∧
  (nameOk v = false → ∀ H', Same H H' → E (.ref (He.ga K "InvalidName")) none H') ∧
  (∀ nm : Cs, v = sV nm → nameOk v = true → ∀ (L' : CLoc) (H' : Hp), CorAt K H0 H' p L' pln (saveC c nm) → Q .non H')
abbrev saN : List Str := ["self", "name", "letter"]
theorem sc_save : FnScope saN ["self", "name"] (defScope s_Corridor_save) := ⟨rfl, rfl, rfl, by decide +kernel, rfl, by decide +kernel, by decide +kernel⟩
theorem ok_save (T : SavT K w mg) : FnE P w K mg base (L2.CX P w) 1 ("Corridor", some "save") ["self", "name"] (spSave K) := by
  obtain ⟨fd, F⟩ := T.save.d
  obtain ⟨tML, mML⟩ := T.MAXL
  obtain ⟨tLE, mLE⟩ := T.p.o.r.c.m.lo.p.l.LETTERS
  refine ⟨fd, F.ok sc_save (fun vs H Q E h => ?_) (fun cdv A outer s H vs Q E hr h => ?_), F.bindsN fun _ _ _ _ _ _ us hl => match us, hl with | [_, _], _ => rfl, F.kp⟩
  · obtain ⟨H0, p, L, pln, c, v, n, rfl, _⟩ := h
    rfl
  · obtain ⟨H0, p, L, pln, c, v, n, rfl, hc, hv, hz, hsl, kB, kO⟩ := h
    have hu := hu_of hr
    refine ⟨_, (pss_cons (ps_if (PW.pt (pw_or (pt_not (pt_val (pe_callB call_isi (by rfl) T.p.o.r.c.m.isinstance (by decide +kernel) (pa_cons (pv 1) (pa_cons (pe_bltn (v := .ty "str") (by rfl) T.p.o.r.c.str (by decide +kernel) rfl) pa_nil))))) (pw_or1 (pt_not (pt_chain op_le op_le pe_int (pe_callB call_len_str (by rfl) T.p.o.r.c.m.lo.p.l.len boot_len (pa_cons (pv 1) pa_nil)) (pe_glob (v := .int 8) rfl mML ⟨_, rfl⟩))))))
        (pss_one (ps_raise rfl (takes_of rfl rfl rfl rfl) (pmk_own PySem.F.excBase_ValueError T.name.q T.name.g T.name.k (raises_own T.name.s T.name.t) rfl))) pss_nil)
      (pss_cons (ps_if (pt_not (pt_val (pe_callB (cr_all rfl) (by rfl) T.all (by decide +kernel) (pa_cons (pe_lc (own := [("letter", 2)]) (g := (gName 2)) (tt := tYes) (te := tOp (fun x y H Q => ∃ (c : Nat) (z : Str), x = .str ⟨#[c]⟩ ∧ y = .str z ∧ Q (.bl (decide (c ∈ z.cps.toList))) H) (tVar 2) (tC (.str "abcdefghijklmnopqrstuvwxyz"))) rfl sc_save.nd (pi_str (pv 1)) (blkOk_by (own := [("letter", 2)]) (N := saN) (sc := defScope s_Corridor_save) (by decide +kernel)) (fun _ _ _ _ _ => (pg_name (i := 2) sc_save.nd rfl (.inl rfl))) (fun _ _ _ _ _ => pts_nil) (fun _ _ _ _ _ => (pe_cmpR op_in_sign (pv 2) (pe_glob (v := .str "abcdefghijklmnopqrstuvwxyz") rfl mLE ⟨_, rfl⟩) (by rfl)))) pa_nil))))
        (pss_one (ps_raise rfl (takes_of rfl rfl rfl rfl) (pmk_own PySem.F.excBase_ValueError T.name.q T.name.g T.name.k (raises_own T.name.s T.name.t) rfl))) pss_nil)
      (pss_one (ps_dput hu (pe_fld (pv 0) rfl) (pv 1) (pe_tup (pa_cons (pe_fld (pv 0) rfl) (pa_cons (pe_callTy call_list_of (by rfl) T.p.o.r.c.list (by decide +kernel) (pa_cons (pe_fld (pv 0) rfl) pa_nil)) (pa_cons (pe_callTy call_list_of (by rfl) T.p.o.r.c.list (by decide +kernel) (pa_cons (pe_fld (pv 0) rfl) pa_nil)) pa_nil)))) rfl)))), ?_⟩
    have A1 := T.p.o.r.c.ap
    cases hv with
    | int i => exact ⟨_, rfl, _, _, _, _, false, rfl, .ty "str", (ArN.int (K := K) i).ty, kit_ty (by decide +kernel), _, rfl, kB rfl H (Same.refl H)⟩
    | bl b => exact ⟨_, rfl, _, _, _, _, false, rfl, .ty "str", (ArN.bl (K := K) b).ty, kit_ty (by decide +kernel), _, rfl, kB rfl H (Same.refl H)⟩
    | non => exact ⟨_, rfl, _, _, _, _, false, rfl, .ty "str", (ArN.non (K := K)).ty, kit_ty (by decide +kernel), _, rfl, kB rfl H (Same.refl H)⟩
    | tup e => exact ⟨_, rfl, _, _, _, _, false, rfl, .ty "str", (ArN.tup (K := K) e).ty, kit_ty (by decide +kernel), _, rfl, kB rfl H (Same.refl H)⟩
    | lst e => exact ⟨_, rfl, _, _, _, _, false, rfl, .ty "str", (ArN.lst (K := K) e).ty, kit_ty (by decide +kernel), _, rfl, kB rfl H (Same.refl H)⟩
    | str z =>
      have hz := hz z rfl
      refine ⟨_, rfl, _, _, _, _, true, rfl, .ty "str", (ArN.str (K := K) z).ty, kit_ty (by decide +kernel), _, rfl, ?_⟩
      refine ⟨_, rfl, z, rfl, by rw [sizeLine_eq]; omega, _, _, rfl, rfl, _, rfl, ?_⟩
      refine ite2 (fun h4 => ?_) (fun h4 => ⟨_, rfl, kB (by
        show (decide (1 ≤ z.length) && decide (z.length ≤ 8) && z.cps.toList.all isL) = false
        rw [decide_eq_false (fun q => h4 (decide_eq_true (by omega)))]
        rfl) H (Same.refl H)⟩)
      have h4 := of_decide_eq_true h4
      refine ⟨_, _, rfl, rfl, _, rfl, ?_⟩
      refine ite2 (fun h5 => ?_) (fun h5 => ?_)
      · refine kB ?_ H (Same.refl H)
        show (decide (1 ≤ z.length) && decide (z.length ≤ 8) && z.cps.toList.all isL) = false
        have : ¬ z.length ≤ 8 := fun q => by
          rw [decide_eq_true (show ((z.length : Nat) : Int) ≤ 8 by omega)] at h5
          cases h5
        rw [decide_eq_false this, Bool.and_false]
        rfl
      have h5 : z.length ≤ 8 := by
        refine Nat.le_of_not_lt fun q => h5 ?_
        rw [decide_eq_false (show ¬ ((z.length : Nat) : Int) ≤ 8 by omega)]
        rfl
      refine ⟨_, rfl, z, rfl, fun D nD => ?_⟩
      refine lc_it (walk_str (z := z)) (fun j H4 => Same H H4 ∧ H4 D = some (.lst (((z.cps.toList.take j).map isL).map V.bl))) ⟨sameUpd (Same.refl H) nD, upd_same⟩ (fun _ _ _ _ => trivial) ?_ ?_
      · rintro j x H4 H4' hj ⟨sm4, hD⟩ ⟨rfl, ch, hc', rfl⟩
        have hc2 : z.cps.toList[j]? = some ch := by simpa using hc'
        refine ⟨rfl, _, rfl, ch, _, rfl, rfl, _, hD, ?_, sameUpd sm4 nD, ?_⟩
        · have hzl : z.cps.toList.length = z.length := by simp [Str.length]
          rw [List.length_map, List.length_map, List.length_take, sizeLine_eq]
          omega
        · rw [upd_same, mem_letters, List.take_succ, hc2]
          simp
      rintro H1 ⟨s1, hD⟩
      have hzl : z.cps.size = z.cps.toList.length := by simp
      rw [hzl, List.take_length] at hD
      refine ⟨D, _, rfl, SqL.of hD, _, rfl, ?_⟩
      have ea : ((z.cps.toList.map isL).all id) = z.cps.toList.all isL := by rw [List.all_map]; rfl
      rw [ea]
      cases hall : z.cps.toList.all isL with
      | false =>
        refine kB ?_ H1 s1
        show (decide (1 ≤ z.length) && decide (z.length ≤ 8) && z.cps.toList.all isL) = false
        rw [hall, Bool.and_false]
      | true =>
        have hnm : nameOk (.str z) = true := by
          show (decide (1 ≤ z.length) && decide (z.length ≤ 8) && z.cps.toList.all isL) = true
          rw [hall, decide_eq_true h5, decide_eq_true (by omega)]
          rfl
        obtain ⟨nm, rfl⟩ := sx_surj z
        have k := kO nm rfl hnm
        have hc1 := hc.same' A1 s1
        obtain ⟨ps, hps, hpr⟩ := id hc1.past
        obtain ⟨us, hus, hur⟩ := id hc1.und
        refine ⟨_, rfl, p, _, _, _, _, rfl, hc1.ob, T.p.o.r.c.cor.c, T.p.o.r.c.cor.n _ (by simp), lc_now, ?_⟩
        refine ⟨_, rfl, p, _, _, _, _, rfl, hc1.ob, T.p.o.r.c.cor.c, T.p.o.r.c.cor.n _ (by simp), lc_past, L.pl, _, rfl, .inl (SqL.of hps), fun la nla => ?_⟩
        have s2 := sameUpd (o := .lst (ps.map V.ref)) (Same.refl H1) nla
        have hla := @upd_same H1 la (.lst (ps.map V.ref))
        replace hus := s2 _ _ hus
        replace s1 := s1.trans s2
        generalize upd H1 la (.lst (ps.map V.ref)) = H2 at *
        have hc2 := hc1.same' A1 s2
        refine ⟨_, rfl, p, _, _, _, _, rfl, hc2.ob, T.p.o.r.c.cor.c, T.p.o.r.c.cor.n _ (by simp), lc_undone, L.ul, _, rfl, .inl (SqL.of hus), fun ua nua => ?_⟩
        have dlu : la ≠ ua := ne_of_none hla nua
        have s3 := sameUpd (o := .lst (us.map V.ref)) (Same.refl H2) nua
        have hua := @upd_same H2 ua (.lst (us.map V.ref))
        replace hla := s3 _ _ hla
        replace s1 := s1.trans s3
        generalize upd H2 ua (.lst (us.map V.ref)) = H3 at *
        have hc3 := hc2.same' A1 s3
        refine ⟨(by show 3 ≤ sizeLine; decide), fun t nt => ?_⟩
        have s4 := sameUpd (o := .tup [.ref L.na, .ref la, .ref ua]) (Same.refl H3) nt
        have ht := @upd_same H3 t (.tup [.ref L.na, .ref la, .ref ua])
        replace hla := s4 _ _ hla
        replace hua := s4 _ _ hua
        replace s1 := s1.trans s4
        generalize upd H3 t (.tup [.ref L.na, .ref la, .ref ua]) = H4 at *
        have hc4 := hc3.same' A1 s4
        obtain ⟨kvs, hkv, hkp⟩ := id hc4.sav
        refine ⟨_, rfl, p, _, _, _, _, rfl, hc4.ob, T.p.o.r.c.cor.c, T.p.o.r.c.cor.n _ (by simp), lc_saved, _, rfl, L.sd, _, rfl, DPut.k (k := Sum.inr (sx nm)) hkv (by rw [hkp.length, sizeLine_eq]; omega), ?_⟩
        have fz : Fz K H4 (upd H4 L.sd (.dK (putK kvs (.inr (sx nm)) (.ref t)))) := Fz.put (Fz.refl _) hkv (fun q => q)
        have ne1 : ∀ {a xs}, H4 a = some (.lst xs) → (upd H4 L.sd (.dK (putK kvs (.inr (sx nm)) (.ref t)))) a = H4 a := fun e => upd_ne (ne_of e hkv (by intro z; cases z))
        obtain ⟨ps4, hps4, hpr4⟩ := id hc4.past
        obtain ⟨us4, hus4, hur4⟩ := id hc4.und
        have eps : ps4 = ps := by
          have := s4 _ _ (s3 _ _ (s2 _ _ hps))
          rw [hps4] at this
          have := HO.lst.inj (Option.some.inj this)
          exact map_ref_inj this
        have eus : us4 = us := by
          have := s4 _ _ (s3 _ _ hus)
          rw [hus4] at this
          have := HO.lst.inj (Option.some.inj this)
          exact map_ref_inj this
        subst eps eus
        have n0 : ∀ a ∈ L.all p, H0 a = none := hc.new
        have nl0 : H0 la = none := hc1.same.free nla
        have nu0 : H0 ua = none := hc2.same.free nua
        have nown : ∀ a ∈ L.own, a ≠ la ∧ a ≠ ua := fun a ha => by
          obtain ⟨xs, hx⟩ := hc1.ow a ha
          exact ⟨ne_of_none hx nla, ne_of_none (s2 _ _ hx) nua⟩
        refine k { L with own := la :: ua :: L.own } _ ⟨sameUpd hc4.same (n0 _ (by simp)), ?_, hc4.plan.fz A1 fz, hc4.now.fz A1 fz, hc4.past.fz A1 fz (ne1 hps4), hc4.und.fz A1 fz (ne1 hus4), ⟨_, upd_same, ?_⟩, hc4.ne, ?_, ?_, ?_, ?_⟩
        · exact (upd_ne (ne_of hc4.ob hkv (by intro z; cases z))).trans hc4.ob
        · refine snap_put ?_ (Paired.mapP hkp fun _ _ q => SnapAt.own (own' := la :: ua :: L.own) (fun a ha => by simp [ha]) (SnapAt.fz A1 fz (fun a ha => ?_) q))
          · exact ⟨rfl, t, L.na, la, ua, rfl, fz _ _ ht trivial, hc4.now.fz A1 fz, by simp, by simp, ⟨ps4, (ne1 hla).trans hla, Paired.mapP hpr4 fun _ _ q => q.fz A1 fz⟩, ⟨us4, (ne1 hua).trans hua, Paired.mapP hur4 fun _ _ q => q.fz A1 fz⟩⟩
          · obtain ⟨xs, hx⟩ := hc4.ow a ha
            exact ne1 hx
        · intro z
          simp only [List.mem_cons] at z
          rcases z with z | z | z
          · exact ne_of_none hps nla z
          · exact ne_of_none (s2 _ _ hps) nua z
          · exact hc.np z
        · intro z
          simp only [List.mem_cons] at z
          obtain ⟨us1, hus1, _⟩ := id hc1.und
          rcases z with z | z | z
          · exact ne_of_none hus1 nla z
          · exact ne_of_none (s2 _ _ hus1) nua z
          · exact hc.nu z
        · intro a ha
          simp only [List.mem_cons] at ha
          rcases ha with z | z | z
          · exact ⟨_, z ▸ (ne1 hla).trans hla⟩
          · exact ⟨_, z ▸ (ne1 hua).trans hua⟩
          · obtain ⟨xs, hx⟩ := hc4.ow a z
            exact ⟨xs, (ne1 hx).trans hx⟩
        · intro a ha
          simp only [CLoc.all, List.mem_cons] at ha
          rcases ha with z | z | z | z | z | z | z
          · exact n0 _ (by simp [z])
          · exact n0 _ (by simp [z])
          · exact n0 _ (by simp [z])
          · exact n0 _ (by simp [z])
          · exact z ▸ nl0
          · exact z ▸ nu0
          · exact n0 _ (by simp [z])
end
end Sw

end

section
set_option maxRecDepth 100000
set_option maxHeartbeats 4000000
/-! k19: plain -/
namespace Sw
open PySem PySem.Spec PyProof.Rows L2 SwA LamX
def t19 : Cs := txt "corridor 2; signs no red; moods go; robot 0 right; robot 1 left; when go no leave no on go;"
def p19 : Plan := ⟨[txt "no", txt "red"], [txt "go"], [0, 0], [(0, true), (1, false)], [((0, 0), ⟨0, txt "on", 0⟩)]⟩
theorem rd19 : Reads t19 p19 := ⟨by decide +kernel, _, _, (by rfl : loads t19 = .ok (_, _)), by rfl, by rfl⟩
theorem wf19 : WfP p19 := ⟨⟨by decide +kernel, by unfold NameOk Wd; decide +kernel⟩, ⟨by decide +kernel, by unfold NameOk Wd; decide +kernel⟩, by decide +kernel, by decide +kernel, by decide +kernel, by decide +kernel, by decide +kernel, by decide +kernel, by decide +kernel, by decide +kernel, by decide +kernel, by decide +kernel, by decide +kernel, fun kv hkv => by
  cases List.mem_singleton.mp hkv
  exact ⟨by decide +kernel, by decide +kernel, by decide +kernel, by decide +kernel, by decide +kernel⟩⟩
theorem cor_at19 {K : PySem.W.Frag} {H : Hp} {pl : Plan} {text : Cs} {R : VK} {E : XK} {x dx : Addr} (hR : Reads text pl) (wf : WfP pl) (nx : H x = none) (ndx : H dx = none)
    (q : ∀ (L : CLoc) (H' : Hp), CorAt K H H' x L pl (firstC pl) → L.own = [] → R .non H') :
    spCorInit K (.ref x :: ([sV text] ++ [])) (upd (upd H dx (.own x)) x (.ins (He.ga K "Corridor") dx [])) R E := by
  obtain ⟨hl, n0, st, h1, h2, h3⟩ := hR
  refine ⟨H, x, dx, text, rfl, upd_same, sameUpd (sameUpd (Same.refl H) ndx) nx, nx, hl, fun n s hns => ?_, fun l c hns => by rw [h1] at hns; cases hns⟩
  rw [h1] at hns
  cases hns
  rw [h3]
  have := wf.n1
  have := wf.n16
  have := wf.r3
  exact ⟨h2, by omega, by omega, by omega, fun L H' hc ho => q L H' hc ho⟩
theorem ex19a : ∃ cm ds, execAll p19 (firstC p19) [.step (.int 2), .turn (.int 1)] = some (cm, ds) := ⟨_, _, rfl⟩
theorem ex19b : ∃ cm ds, execAll p19 (firstC p19) [.put (.int 0) (.str "red")] = some (cm, ds) := by
  have e : signIx p19.signs (.str "red") = some 1 := by decide +kernel
  have h : ∃ c', execM p19 (firstC p19) (.put (.int 0) (.str "red")) = .inr c' := by
    show ∃ c', (if isIntIn (.int 0) 0 ((p19.floor.length : Int) - 1) = true then (match signIx p19.signs (.str "red") with
      | some g => (.inr (recordC (firstC p19) wPut (putNow (firstC p19).now (natV (.int 0)) g)) : OpErr ⊕ CSt)
      | none => .inl .sign) else .inl .number) = .inr c'
    rw [e, if_pos (by decide +kernel)]
    exact ⟨_, rfl⟩
  obtain ⟨c', h⟩ := h
  refine ⟨c', [resD p19 (firstC p19) (.put (.int 0) (.str "red"))], ?_⟩
  unfold execAll
  rw [h]
  rfl
theorem ex19n {c : CSt} {v v2 : V} (h : isIntIn v 0 1 = false) : execM p19 c (.put v v2) = .inl .number := by
  have h : isIntIn v 0 ((p19.floor.length : Int) - 1) = false := h
  simp only [execM, if_neg (show ¬ isIntIn v 0 ((p19.floor.length : Int) - 1) = true by rw [h]; decide)]
theorem ex19s {c : CSt} {v2 : V} (h : ∀ cs ∈ p19.signs, v2 ≠ sV cs) : execM p19 c (.put (.int 0) v2) = .inl .sign := by
  have hb : isIntIn (.int 0) 0 ((p19.floor.length : Int) - 1) = true := by decide +kernel
  simp only [execM, if_pos hb]
  rw [signIx_none h]
/-- the corridor after five hundred ticks -/
def c19 : CSt := recordC (undoC (firstC p19)) wStep (stepNow p19.rules (undoC (firstC p19)).now 500)
theorem c19_sums : c19.now.sums = [500, 500] := by decide +kernel
theorem c19_floor : c19.now.st.floor = [0, 0] := by decide +kernel
theorem ex19c : execM p19 (undoC (firstC p19)) (.step (.int 500)) = .inr c19 := by
  simp only [execM, if_pos (show isIntIn (.int 500) 0 500 = true from by decide)]
  rfl
def c20 : CSt := recordC c19 wStep (stepNow p19.rules c19.now 0)
theorem ex19d : execM p19 c19 (.step (.int 0)) = .inr c20 := by
  simp only [execM, if_pos (show isIntIn (.int 0) 0 500 = true from by decide)]
  rfl
theorem c20_floor : c20.now.st.floor = [0, 0] := by decide +kernel
def c21 : CSt := recordC c20 wPut (putNow c20.now 1 1)
theorem c21_sums : c21.now.sums = [500, 500] := by decide +kernel
theorem c21_tick : c21.now.tick = 500 := by decide +kernel
theorem c21_floor : c21.now.st.floor = [0, 1] := by decide +kernel
theorem red_ix {g : Nat} {cs : Cs} (hg : p19.signs[g]? = some cs) (e : V.str "red" = sV cs) : g = 1 := by
  match g, hg with
  | 0, hg => cases hg; exact absurd e (by decide +kernel)
  | 1, _ => rfl
  | n + 2, hg => cases hg
end Sw

end

section
set_option maxRecDepth 100000
set_option maxHeartbeats 4000000
/-! a lambda with parameters, handed to a method that calls it: its object is tracked, what it captured lies in a larger base -/
namespace SwA
open PySem PySem.Spec PyProof.Rows L2 LamX NdefX
/-- the object at f is the lambda F, its body e -/
def LamO (f : Addr) (F : NF) (e : Expr) : HO := .ext fun h => ∃ (od : Option Addr) (sl : Array (Option Value)) (pm ctv : Value), h.get? f = some (⟨.type "function", od, .func (PySem.W.kla_fn F.name F.qual F.params e F.scope F.cl pm (.ref F.c) ctv), sl⟩ : Obj)
theorem lamO_ne {f : Addr} {F : NF} {e : Expr} (ps : Array Value) : LamO f F e ≠ .tbl ps := fun z => by
  unfold LamO at z
  cases z
theorem lamO_at {P : Program} {w : World} {H : Hp} {h : Heap} {f : Addr} {F : NF} {e : Expr} (hok : HOk P w H h) (q : H f = some (LamO f F e)) :
    ∃ (od : Option Addr) (sl : Array (Option Value)) (pm ctv : Value), h.get? f = some (⟨.type "function", od, .func (PySem.W.kla_fn F.name F.qual F.params e F.scope F.cl pm (.ref F.c) ctv), sl⟩ : Obj) := (hok f _ q).1
section
variable {X : Cx} {pins : List (Addr × Obj)} {σ : L2.St} {H : Hp} {s : Shared}
theorem inv_lam {F : NF} {e : Expr} {o : Obj} {tk : Nat} {pm ctv : Value} (I : Inv X pins σ H s) (ho : o = PySem.W.kla_obj F.name F.qual F.params e F.scope F.cl pm F.c ctv) :
    Inv X pins σ (upd H s.heap.objs.size (LamO s.heap.objs.size F e)) { s with heap := s.heap.push o, toks := tk } := by
  have g : (s.heap.push o).get? s.heap.objs.size = some o := Heap.get?_push_size _ (by rw [ho]; rfl)
  refine I.laid (a := s.heap.objs.size) (fun b u q => Heap.get?_push_of_some _ q) (Nat.le_refl _) ⟨⟨none, #[], pm, ctv, ?_⟩, ⟨o, g⟩, fun h1 h2 z st => ?_⟩
  · rw [g, ho]
  · obtain ⟨a, b, c, d, z⟩ := z
    exact ⟨a, b, c, d, st _ z⟩
abbrev mkL (X : Cx) (params : Arguments) (scope : Scope) (c' : Addr) : NF := ⟨"<lambda>", X.env.qual ++ "<lambda>", params, [], scope, cloFrom X.env.cells scope.names [], c'⟩
theorem lam_track {T : List (Addr × Str)} {c P : Addr} {params : Arguments} {body : Expr} {scope : Scope} {pos : Pos} {E Q : Value → Shared → Prop} (I : Inv X pins σ H s) (TB : TabB X.base X.mg c P) (hcode : X.env.code = .ref c)
    (hm : (P, X.env.qual ++ "<lambda>") ∈ T) (hu : ∀ p ∈ T, p.1 = P → p.2 = X.env.qual ++ "<lambda>") (hT : Tabs T H) (hdef : defaultsOf params X.env = ([], [])) (hfree : ∀ y ∈ scope.names, y.2 = .free → ∃ c, X.env.cells.lookup y.1 = some c)
    (h : ∀ (f c' : Addr) (H1 : Hp) (s' : Shared), Inv X pins σ H1 s' → ExtN H H1 → Tabs T H1 → H f = none → H1 f = some (LamO f (mkL X params scope c') body) → H1 c' = some (CodeO c' (X.env.qual ++ "<lambda>")) → Q (.ref f) s') :
    wpAny (model X.prog X.w) X.A (eval (.Lambda params body scope pos) X.env) Q E s := by
  obtain ⟨ps, hP, ht, ha⟩ := hT _ hm
  have bP := TB.bm.keeps I.bk
  have gP : s.heap.get? P = some { cls := .none, data := .fields ps } := I.hok P _ hP
  refine PySem.W.kla_eval hdef ?_
  -- the end: the function's object is tracked
  have fin : ∀ (H1 : Hp) (h1 : Heap) (t1 tk : Nat) (c' : Addr) (ctv : Value), Inv X pins σ H1 { s with heap := h1, toks := t1 } → ExtN H H1 → Tabs T H1 → H1 c' = some (CodeO c' (X.env.qual ++ "<lambda>")) → s.heap.objs.size ≤ h1.objs.size →
      Q (.ref h1.objs.size) { s with heap := h1.push (PySem.W.kla_obj "<lambda>" (X.env.qual ++ "<lambda>") params body scope (cloFrom X.env.cells scope.names []) ((X.mg "__name__").getD .none) c' ctv), toks := tk } := fun H1 h1 t1 tk c' ctv I1 e1 T1 hc hz => by
    have n1 : H1 h1.objs.size = none := I1.hok.fresh (Nat.le_refl _)
    have I2 := inv_lam (F := mkL X params scope c') (e := body) (tk := tk) (pm := (X.mg "__name__").getD .none) (ctv := ctv) I1 rfl
    have up : ∀ b o, H1 b = some o → upd H1 h1.objs.size (LamO h1.objs.size (mkL X params scope c') body) b = some o := fun b o q => (upd_ne (ne_of_none q n1)).trans q
    exact h h1.objs.size c' _ _ I2 (fun b o q n => up b o (e1 b o q n)) (T1.ext up) (I.hok.fresh hz) upd_same (up _ _ hc)
  cases hc : codeAmong pos ps.toList with
  | some cv =>
    obtain ⟨c', e, hco⟩ := ha pos cv hc
    subst e
    exact PySem.W.kla_makeFunctionHit (mg := X.mg) (c := c) (P := P) (ps := ps) (closure_ok hfree) I.ok.glob (I.mod.glob.keeps I.bk) hcode (TB.code.keeps I.bk) gP ht hc bP fun ctv h' tk hx hz =>
      fin H h' tk tk c' ctv (I.kept hx) (ExtN.refl H) hT hco hz
  | none =>
    refine PySem.W.kla_makeFunction (mg := X.mg) (c := c) (P := P) (ps := ps) (closure_ok hfree) I.ok.glob (I.mod.glob.keeps I.bk) hcode (TB.code.keeps I.bk) gP ht hc TB.gP bP fun c' ctv h' tk hx hge hlt hrec htb => ?_
    obtain ⟨c2, oc, vs, t, e2, r⟩ := hrec
    cases e2
    have nC : H c' = none := I.hok.fresh hge
    have I1 := inv_table (t' := tk) (more := #[rawInt pos.line, rawInt pos.col, .ref c']) (h' := h') (q := X.env.qual ++ "<lambda>") I hP (fun b o nb q => hx b o nb q) htb hge ⟨oc, vs, t, r⟩
    have up : ExtN H (upd (upd H P (.tbl (ps ++ #[rawInt pos.line, rawInt pos.col, .ref c']))) c' (CodeO c' (X.env.qual ++ "<lambda>"))) := fun b o q n =>
      (upd_ne (ne_of_none q nC)).trans ((upd_ne fun (z : b = P) => n ps (Option.some.inj (q.symm.trans (by rw [z]; exact hP)))).trans q)
    refine fin _ h' tk tk c' ctv I1 up (fun p hp => ?_) upd_same (Nat.le_trans hge (Nat.le_of_lt hlt))
    by_cases hb : p.1 = P
    · have eL : (ps ++ #[rawInt pos.line, rawInt pos.col, .ref c']).toList = ps.toList ++ [rawInt pos.line, rawInt pos.col, .ref c'] := by simp
      rw [hu p hp hb, hb]
      refine ⟨_, (upd_ne (ne_of_none hP nC)).trans upd_same, eL ▸ PySem.TriplesOk_snoc _ _ _ _ ht, fun p' cv hcv => ?_⟩
      rcases among_app _ ht (eL ▸ hcv) with z | z
      · obtain ⟨c0, z1, z2⟩ := ha p' cv z
        exact ⟨c0, z1, up _ _ z2 codeO_ne⟩
      · exact ⟨c', z, upd_same⟩
    · obtain ⟨qs, a1, a2, a3⟩ := hT p hp
      refine ⟨qs, (upd_ne (ne_of_none a1 nC)).trans ((upd_ne hb).trans a1), a2, fun p' cv hcv => ?_⟩
      obtain ⟨c0, z1, z2⟩ := a3 p' cv hcv
      exact ⟨c0, z1, up _ _ z2 codeO_ne⟩
end
/-- the reading of a lambda: a new function that is known from now on -/
def tLamT (T : List (Addr × Str)) (mk : Addr → NF) (e : Expr) : TE := fun σ H Q => Tabs T H ∧ ∀ (f c' : Addr) (H1 : Hp), ExtN H H1 → Tabs T H1 → H f = none → H1 f = some (LamO f (mk c') e) → H1 c' = some (CodeO c' (mk c').qual) → Q (.ref f) H1
theorem pe_lamT {X : Cx} {T : List (Addr × Str)} {c P : Addr} {params : Arguments} {body : Expr} {scope : Scope} {pos : Pos} (TB : TabB X.base X.mg c P) (hcode : X.env.code = .ref c) (hm : (P, X.env.qual ++ "<lambda>") ∈ T) (hu : ∀ p ∈ T, p.1 = P → p.2 = X.env.qual ++ "<lambda>")
    (hdef : defaultsOf params X.env = ([], [])) (hfree : ∀ y ∈ scope.names, y.2 = .free → X.env.scope.names.lookup y.1 = some .cell ∨ X.env.scope.names.lookup y.1 = some .free) : PE X (.Lambda params body scope pos) (tLamT T (mkL X params scope) body) :=
  ⟨fun pins s σ H Q I ⟨hT, h⟩ => lam_track I TB hcode hm hu hT hdef (fun y hy e => (hfree y hy e).elim (fun z => I.ok.has _ (.inl z)) fun z => I.ok.has _ (.inr z)) fun f c' H1 s' I1 e1 T1 n f1 c1 => ⟨.ref f, H1, I1, rfl, h f c' H1 e1 T1 n f1 c1⟩⟩
/-- what the function at f promises while G stands -/
structure VOk (P : Program) (w : World) (K : PySem.W.Frag) (mg : Str → Option Value) (base : Heap) (CX : CXT) (k : Nat) (f : Addr) (G : Hp → Prop) (sp : Sp) : Prop where
  isf : ∀ {H : Hp} {h : Heap}, HOk P w H h → G H → PySem.W.FnAt f h
  run : ∀ (A : Around) (outer : List Env) (s : Shared) (H : Hp) (us : List Value) (vs : List V) (Q : VK) (E : XK), Room k A → Env0 P w K mg base A outer s H → G H → Vals vs us → sp vs H Q E → codeAny (model P w) A (.call (.ref f) ⟨us, []⟩) (CR CX outer P w H s Q E) s
abbrev gLam (f : Addr) (F : NF) (e : Expr) : Hp → Prop := fun H => H f = some (LamO f F e) ∧ H F.c = some (CodeO F.c F.qual)
section
variable {CX : CXT} {P : Program} {w : World} {K : PySem.W.Frag} {mg : Str → Option Value} {base : Heap} {N ps fr : List Str} {F : NF} {f : Addr} {e : Expr} {k j : Nat} {sp : Sp} {ws : List (Option V)}
theorem cells_base {cl : List (Str × Addr)} {h : Heap} {H : Hp} (C : CellsAt cl fr ws base fun _ => none) (hb : ∀ b o, base.get? b = some o → h.get? b = some o ∧ H b = none) : CellsAt cl fr ws h H := by
  have kp : ∀ {c : Addr} {v : Option Value}, base.IsCell c v → h.IsCell c v ∧ H c = none := fun ⟨o, ho, hd⟩ => ⟨⟨o, (hb _ _ ho).1, hd⟩, (hb _ _ ho).2⟩
  refine ⟨C.len, fun y c q => ?_, C.inj, fun i y q => ?_⟩
  · obtain ⟨_, v, z⟩ := C.all y c q
    exact ⟨(kp z).2, v, (kp z).1⟩
  · obtain ⟨c, hc, hv⟩ := C.has i y q
    refine ⟨c, hc, fun v ev => ?_⟩
    obtain ⟨u, r, z⟩ := hv v ev
    exact ⟨u, r, (kp z).1⟩
/-- a lambda by its body, what it captured lies in the base -/
theorem vok_lam (S : NScope N ps fr F.scope) (hbind : ∀ (pm ctv : Value) (us : List Value), us.length = ps.length → bindArgs (PySem.W.kla_fn F.name F.qual F.params e F.scope F.cl pm (.ref F.c) ctv) ⟨us, []⟩ = pure (ps.zip us)) (C : CellsAt F.cl fr ws base fun _ => none)
    (len : ∀ vs H Q E, sp vs H Q E → vs.length = ps.length)
    (hbody : ∀ (A : Around) (outer : List Env) (s : Shared) (H : Hp) (vs : List V) (Q : VK) (E : XK), Room k (A.deeper (envF F f s.heap.objs.size)) → sp vs H Q E → ∃ t, PE (ncx CX P w K mg base N F f A outer s H E) e t ∧ t (startF N vs ws) H Q) :
    VOk P w K mg base CX (k + 1) f (gLam f F e) sp := by
  refine ⟨fun hok ⟨g, _⟩ => ?_, fun A outer s H us vs Q E hr e0 ⟨hf, hc⟩ r hsp => ?_⟩
  · obtain ⟨od, sl, pm, ctv, z⟩ := lamO_at hok g
    exact ⟨_, od, _, sl, z⟩
  have hl := len _ _ _ _ hsp
  obtain ⟨od, sl, pm, ctv, ho⟩ := lamO_at e0.hok hf
  refine PySem.W.kla_callFunE hr.depth ho rfl S.co S.gen rfl (codeO_at e0.hok hc) ?_
  rw [hbind pm ctv us (by rw [← r.length]; exact hl)]
  have lim : s.heap.NoLimit := e0.mod.nolimit.keeps fun b o q => (e0.bs b o q).1
  refine wpAny_pure (wpAny_newFunctionEnv S.nocell (fun ⟨n, _⟩ hy => S.par n (List.of_mem_zip hy).1) (fun h₁ hns hsb => ⟨lim.fresh _ hsb, ?_⟩) S.kind)
  show codeAny _ _ (.expr e (envF F f s.heap.objs.size)) _ _
  have kp : ∀ b o, s.heap.get? b = some o → h₁.get? b = some o := fun b o q => hsb.extBut b o (Nat.ne_of_lt (Heap.lt_size q)) (Heap.get?_push_of_some _ q)
  obtain ⟨t, ht, hq⟩ := hbody A outer s H vs Q E (hr.deeper _) hsp
  have J := inv_startN (CX := CX) (E := E) (f := f) (tk := s.toks + (ps.zip us).length) S hr.hd e0 hl r (cells_base C e0.bs) hns kp
  refine PySem.W.kla_codeExpr (wpAny_mono (ht.run [] _ (startF N vs ws) H Q J hq) (fun v s' z => ?_) fun _ _ z => z)
  obtain ⟨x, H', J', rv, q⟩ := z
  exact ⟨x, H', J'.os, J'.bare, J'.base, J'.hok, rv, q⟩
end
/-- x(..), x a name that holds the function at f -/
def tCallVal (f : Addr) (G : Hp → Prop) (i : Nat) (sp : Sp) (E : XK) (t : TA) : TE := fun σ H Q => σ[i]? = some (some (.ref f)) ∧ G H ∧ t σ H fun vs H1 => G H1 ∧ sp vs H1 Q E
section
variable {X : Cx} {CX : CXT} {i j k : Nat} {x : Str} {f : Addr} {G : Hp → Prop} {sp : Sp} {E : XK} {t : TA} {e : Expr} {es : List Expr} {p pos apos : Pos}
theorem run_val {pins : List (Addr × Obj)} {σ : L2.St} {H : Hp} {s : Shared} {Q : VK} {us : List Value} {vs : List V} (V : VOk X.prog X.w X.K X.mg X.base CX k f G sp) (hr : Room k X.A) (hx : Passes CX X E) (I : Inv X pins σ H s) (g : G H) (r : Vals vs us) (q : sp vs H Q E) :
    wpAny (model X.prog X.w) X.A (call (.ref f) us) (EP X pins σ Q) X.xe s := by
  refine wpAny_call (codeAny_mono (V.run X.A X.stack s H us vs Q E hr I.env0 g r q) fun r s' hq => ?_)
  match r, hq with
  | .error e, hq => exact hx pins σ H s e s' I hq
  | .ok (.ret u), hq => exact I.after hq
theorem pe_callVal (V : VOk X.prog X.w X.K X.mg X.base CX k f G sp) (hr : Room k X.A) (hx : Passes CX X E) (hN : X.N[i]? = some x) (hv : Vis X.env.scope x) (ha : PA X (e :: es) t)
    (hd : (x == ("__debug__" : Str)) = false := by decide) (hcd : (x == ("__classdict__" : Str)) = false := by decide)
    (he : starEach (e :: es) X.env = (false, eval e X.env) :: starEach es X.env := by rfl) (hpl : (backTo pos (starEach es X.env)).any (·.1) = false := by rfl) :
    PE X (.Call (.Name x p) (e :: es) [] pos) (tCallVal f G i sp E t) := by
  refine ⟨fun pins s σ H Q I ⟨hs, g, ht⟩ => ?_⟩
  refine wpAny_Call_Name_kw (thn ((pe_var (pos := p) hN hv hd hcd).run pins s σ H (fun v H1 => v = .ref f ∧ H1 = H) I ⟨.ref f, hs, rfl, rfl⟩) fun u s1 ⟨v, H1, I1, r1, ev, eH⟩ => ?_)
  subst ev eH
  obtain rfl : u = Value.ref f := r1
  exact PySem.W.callWith_F (first := []) (V.isf I1.hok g) (thn (ha.run pos pins s1 σ _ _ I1 ht) fun us s2 ⟨vs, H2, I2, r, g2, q⟩ => ⟨V.isf I2.hok g2, run_val V hr hx I2 g2 r q⟩) he hpl
end
/-! a method whose argument reads cells of the running def: the base grows by all that is not tracked -/
theorem frames_base {h base base' : Heap} : ∀ {l : List Env}, (∀ b ∈ frs l, base'.get? b = none) → h.FunFrames base l → h.FunFrames base' l
  | [], _, _ => trivial
  | env :: r, hn, ⟨hk, ⟨L, o, hf, _, ho⟩, hr⟩ => by
    have e : frs (env :: r) = L :: frs r := by
      unfold frs
      rw [List.filterMap_cons, hf]
    rw [e] at hn
    exact ⟨hk, ⟨L, o, hf, hn L List.mem_cons_self, ho⟩, frames_base (fun b hb => hn b (List.mem_cons_of_mem _ hb)) hr⟩
section
variable {X : Cx} {CX : CXT} {k : Nat} {C g : Addr} {fd : FuncData} {ps : List Str} {E : XK} {m : Str} {p pos apos : Pos} {z o : Expr} {zs : List Expr} {ta : TE} {t : TA} {cl : List (Str × Addr)} {fr : List Str} {js : List Nat} {ws : List (Option V)}
theorem run_lent {pins : List (Addr × Obj)} {σ : L2.St} {H : Hp} {s : Shared} {Q : VK} {us : List Value} {vs : List V} {sp : Sp} (I : Inv X pins σ H s) (hfn : ∀ y, X.fn y = true) (hcl : ∀ y c, cl.lookup y = some c → X.env.cells.lookup y = some c) (Cs : CellsAt cl fr ws s.heap H)
    (F : ∀ base' : Heap, (∀ b ob, X.base.get? b = some ob → base'.get? b = some ob) → (CellsAt cl fr ws base' fun _ => none) → FnOk X.prog X.w X.K X.mg base' CX k g fd ps sp) (hr : Room k X.A) (hb : L2.Binds X.K fd ps []) (hx : Passes CX X E) (r : Vals vs us) (h : sp vs H Q E) :
    wpAny (model X.prog X.w) X.A (call (.ref g) us) (EP X pins σ Q) X.xe s := by
  obtain ⟨B, hB⟩ : ∃ B, B = PySem.W.hideAll s.heap (trk s.heap H ++ frs X.stack) := ⟨_, rfl⟩
  have hid : ∀ b, b ∈ trk s.heap H ++ frs X.stack → B.get? b = none := fun b hb => hB ▸ PySem.W.hideAll_none _ hb
  have ofB : ∀ b ob, B.get? b = some ob → s.heap.get? b = some ob ∧ H b = none := fun b ob q => by
    have q' : s.heap.get? b = some ob := PySem.W.of_hideAll _ (hB ▸ q)
    refine ⟨q', ?_⟩
    cases hz : H b with
    | none => rfl
    | some u =>
      have := hid b (List.mem_append_left _ (List.mem_filter.mpr ⟨List.mem_range.mpr (Heap.lt_size q'), by rw [hz]; rfl⟩))
      rw [this] at q
      cases q
  have toB : ∀ b ob, s.heap.get? b = some ob → H b = none → b ∉ frs X.stack → B.get? b = some ob := fun b ob q n nf => by
    rw [hB]
    refine PySem.W.hideAll_get _ q fun hm => ?_
    rcases List.mem_append.mp hm with z | z
    · have z2 := (List.mem_filter.mp z).2
      rw [n] at z2
      cases z2
    · exact nf z
  have kb : ∀ b ob, X.base.get? b = some ob → B.get? b = some ob := fun b ob q => toB b ob (I.bs b ob q).1 (I.bs b ob q).2 fun z => by
    have := (I.stack.mem z).1
    rw [q] at this
    cases this
  have nfr : ∀ y c, cl.lookup y = some c → c ∉ frs X.stack := fun y c q z => by
    have qe := hcl y c q
    rcases List.mem_cons.mp (I.stkSub c z) with z | z
    · exact I.cne y c qe z
    · obtain ⟨_, ob, ho, _⟩ := I.ok.funs.mem z
      exact absurd (Nat.lt_of_lt_of_le (Heap.lt_size ho) (I.ok.cab y c (hfn y) qe)) (Nat.lt_irrefl _)
  have cB : CellsAt cl fr ws B fun _ => none := by
    have kc : ∀ {y c} {v : Option Value}, cl.lookup y = some c → s.heap.IsCell c v → B.IsCell c v := fun {y c v} q ⟨ob, ho, hd⟩ => ⟨ob, toB c ob ho (Cs.all y c q).1 (nfr y c q), hd⟩
    refine ⟨Cs.len, fun y c q => ?_, Cs.inj, fun i y q => ?_⟩
    · obtain ⟨_, v, z⟩ := Cs.all y c q
      exact ⟨rfl, v, kc q z⟩
    · obtain ⟨c, hc, hv⟩ := Cs.has i y q
      refine ⟨c, hc, fun v ev => ?_⟩
      obtain ⟨u, ru, z⟩ := hv v ev
      exact ⟨u, ru, kc hc z⟩
  have M : Mod X.K X.mg B := ⟨I.mod.kin.keeps kb, I.mod.glob.keeps kb, let ⟨mb, h1, h2⟩ := I.mod.blt; ⟨mb, h1.keeps kb, h2⟩, I.mod.nolimit.keeps kb⟩
  have e0 : Env0 X.prog X.w X.K X.mg B X.A X.stack s H := ⟨I.ok.frames, M, ofB, Nat.le_of_eq (by rw [hB, PySem.W.hideAll_size]), frames_base (fun b hb => hid b (List.mem_append_right _ hb)) I.stack, I.stkFree, I.hok, I.bare⟩
  have Fn := F B kb cB
  have hl : (us ++ []).length = ps.length := by
    rw [List.append_nil, ← r.length]
    exact Fn.len _ _ _ _ h
  have hb2 := hb s us I.kIn hl
  rw [List.append_nil] at hb2
  refine wpAny_call (codeAny_mono (Fn.run X.A X.stack s H ⟨us, []⟩ us vs Q E hr e0 hb2 r h) fun r s' hq => ?_)
  match r, hq with
  | .error e, hq => exact hx pins σ H s e s' I hq
  | .ok (.ret u), hq => exact I.after hq
/-- o.m(e, ..), one of the arguments a lambda that was just made -/
def tMethB (C : Addr) (m : Str) (sp : Addr → Addr → List (Option V) → Sp) (js : List Nat) (E : XK) (ta : TE) (t : TA) : TE := fun σ H Q => ta σ H fun x H1 => ∃ a dx fs, x = .ref a ∧ H1 a = some (.ins C dx fs) ∧ fs.lookup m = none ∧
  t σ H1 fun vs H2 => ∃ f c', sp f c' (js.map (slotAt σ)) (x :: vs) H2 Q E
theorem pe_methB {pl : Sem Bool} {sp : Addr → Addr → List (Option V) → Sp} (hfn : ∀ y, X.fn y = true) (he : PE X o ta) (c : Cls X.K C) (hm : Meth X.K C m g) (cp : X.Ok → NdefX.Caps X cl fr js)
    (F : ∀ (f c' : Addr) (ws : List (Option V)) (base' : Heap), (∀ b ob, X.base.get? b = some ob → base'.get? b = some ob) → (CellsAt cl fr ws base' fun _ => none) → FnOk X.prog X.w X.K X.mg base' CX k g fd ps (sp f c' ws))
    (hr : Room k X.A) (hb : L2.Binds X.K fd ps []) (hx : Passes CX X E) (ha : PA X (z :: zs) t)
    (hst : starEach (z :: zs) X.env = (false, eval z X.env) :: starEach zs X.env := by rfl)
    (hpl : (backTo pos (starEach zs X.env)).any (·.1) = false := by rfl)
    (ht : eval (.Call (.Attribute o m apos) (z :: zs) [] pos) X.env = (do let ov ← eval o X.env; standAt apos.atName; let (f, first) ← holding [ov] (getMethod ov m pl); callWith pos f first (backTo pos (starEach (z :: zs) X.env)) (backToKw pos (keywordEach [] X.env))) := by rfl) :
    PE X (.Call (.Attribute o m apos) (z :: zs) [] pos) (tMethB C m sp js E ta t) := by
  refine ⟨fun pins s σ H Q I h => ?_⟩
  refine PySem.W.methodCall_KW (pl := pl) (thn (he.run pins s σ H _ I h) fun u s1 ⟨x, H1, I1, rx, a, dx, fs, ex, ea, l, q⟩ => by
    subst ex
    cases (show u = Value.ref a from rx)
    refine getmeth_ok I1 ea c hm l (PySem.W.callWith_K (first := [.ref a]) (h₀ := X.base) I.ok.mod.kin hm.kp (thn (ha.run pos pins s1 σ H1 _ I1 q) fun us s2 ⟨vs, H2, I2, r, f, c', q2⟩ => ⟨I2.kIn, ?_⟩) hst hpl)
    exact run_lent (us := .ref a :: us) (vs := .ref a :: vs) I2 hfn (cp I2.ok).sub (cells_of I2 (cp I2.ok)) (F f c' _) hr hb hx (.cons rfl r) q2) ht
end
end SwA

end

section
set_option maxRecDepth 100000
set_option maxHeartbeats 4000000
/-! lambdas without parameters or with one that has a default, laid in lists and called by other defs -/
namespace SwA
open PySem PySem.Spec PyProof.Rows L2 LamX NdefX
/-- the object at f is the lambda F, its body e, its defaults dV -/
def LamV (f : Addr) (F : NF) (e : Expr) (dV : Value) : HO := .ext fun h => ∃ (od : Option Addr) (sl : Array (Option Value)) (doc pm ctv : Value), h.get? f = some (⟨.type "function", od, .func (PySem.W.kdv_fn F.name F.qual F.params (.expr e) F.scope F.cl dV doc pm (.ref F.c) ctv), sl⟩ : Obj)
theorem lamV_ne {f : Addr} {F : NF} {e : Expr} {dV : Value} (ps : Array Value) : LamV f F e dV ≠ .tbl ps := fun z => by
  unfold LamV at z
  cases z
theorem lamV_at {P : Program} {w : World} {H : Hp} {h : Heap} {f : Addr} {F : NF} {e : Expr} {dV : Value} (hok : HOk P w H h) (q : H f = some (LamV f F e dV)) :
    ∃ (od : Option Addr) (sl : Array (Option Value)) (doc pm ctv : Value), h.get? f = some (⟨.type "function", od, .func (PySem.W.kdv_fn F.name F.qual F.params (.expr e) F.scope F.cl dV doc pm (.ref F.c) ctv), sl⟩ : Obj) := (hok f _ q).1
section
variable {X : Cx} {pins : List (Addr × Obj)} {σ : L2.St} {H : Hp} {s : Shared}
theorem inv_lamV {F : NF} {e : Expr} {dV : Value} {o : Obj} {tk : Nat} {doc pm ctv : Value} (I : Inv X pins σ H s) (ho : o = PySem.W.kdv_obj F.name F.qual F.params (.expr e) F.scope F.cl dV doc pm F.c ctv) :
    Inv X pins σ (upd H s.heap.objs.size (LamV s.heap.objs.size F e dV)) { s with heap := s.heap.push o, toks := tk } := by
  have g : (s.heap.push o).get? s.heap.objs.size = some o := Heap.get?_push_size _ (by rw [ho]; rfl)
  refine I.laid (a := s.heap.objs.size) (fun b u q => Heap.get?_push_of_some _ q) (Nat.le_refl _) ⟨⟨none, #[], doc, pm, ctv, ?_⟩, ⟨o, g⟩, fun h1 h2 z st => ?_⟩
  · rw [g, ho]
  · obtain ⟨a, b, c, d, e, z⟩ := z
    exact ⟨a, b, c, d, e, st _ z⟩
/-- the function is made: its object is known from now on -/
theorem tail_track {T : List (Addr × Str)} {c P : Addr} {params : Arguments} {body : Expr} {scope : Scope} {dV : Value} {pos : Pos} {E Q : Value → Shared → Prop} (I : Inv X pins σ H s) (TB : TabB X.base X.mg c P) (hcode : X.env.code = .ref c)
    (hm : (P, X.env.qual ++ "<lambda>") ∈ T) (hu : ∀ p ∈ T, p.1 = P → p.2 = X.env.qual ++ "<lambda>") (hT : Tabs T H) (hfree : ∀ y ∈ scope.names, y.2 = .free → ∃ c, X.env.cells.lookup y.1 = some c)
    (h : ∀ (f c' : Addr) (H1 : Hp) (s' : Shared), Inv X pins σ H1 s' → ExtN H H1 → Tabs T H1 → H f = none → H1 f = some (LamV f (mkL X params scope c') body dV) → H1 c' = some (CodeO c' (X.env.qual ++ "<lambda>")) → Q (.ref f) s') :
    wpAny (model X.prog X.w) X.A (makeTail "<lambda>" (X.env.qual ++ "<lambda>") params (.expr body) scope X.env dV .none none pos pos.line) Q E s := by
  obtain ⟨ps, hP, ht, ha⟩ := hT _ hm
  have bP := TB.bm.keeps I.bk
  have gP : s.heap.get? P = some { cls := .none, data := .fields ps } := I.hok P _ hP
  -- the end: the function's object is tracked
  have fin : ∀ (H1 : Hp) (h1 : Heap) (t1 tk : Nat) (c' : Addr) (doc ctv : Value), Inv X pins σ H1 { s with heap := h1, toks := t1 } → ExtN H H1 → Tabs T H1 → H1 c' = some (CodeO c' (X.env.qual ++ "<lambda>")) → s.heap.objs.size ≤ h1.objs.size →
      Q (.ref h1.objs.size) { s with heap := h1.push (PySem.W.kdv_obj "<lambda>" (X.env.qual ++ "<lambda>") params (.expr body) scope (cloFrom X.env.cells scope.names []) dV doc ((X.mg "__name__").getD .none) c' ctv), toks := tk } := fun H1 h1 t1 tk c' doc ctv I1 e1 T1 hc hz => by
    have n1 : H1 h1.objs.size = none := I1.hok.fresh (Nat.le_refl _)
    have I2 := inv_lamV (F := mkL X params scope c') (e := body) (dV := dV) (tk := tk) (doc := doc) (pm := (X.mg "__name__").getD .none) (ctv := ctv) I1 rfl
    have up : ∀ b o, H1 b = some o → upd H1 h1.objs.size (LamV h1.objs.size (mkL X params scope c') body dV) b = some o := fun b o q => (upd_ne (ne_of_none q n1)).trans q
    exact h h1.objs.size c' _ _ I2 (fun b o q n => up b o (e1 b o q n)) (T1.ext up) (I.hok.fresh hz) upd_same (up _ _ hc)
  cases hc : codeAmong pos ps.toList with
  | some cv =>
    obtain ⟨c', e, hco⟩ := ha pos cv hc
    subst e
    exact PySem.W.kdv_makeTailHit (mg := X.mg) (c := c) (P := P) (ps := ps) (closure_ok hfree) I.ok.glob (I.mod.glob.keeps I.bk) hcode (TB.code.keeps I.bk) gP ht hc bP fun ctv doc h' tk hx hz =>
      fin H h' tk tk c' doc ctv (I.kept hx) (ExtN.refl H) hT hco hz
  | none =>
    refine PySem.W.kdv_makeTail (mg := X.mg) (c := c) (P := P) (ps := ps) (closure_ok hfree) I.ok.glob (I.mod.glob.keeps I.bk) hcode (TB.code.keeps I.bk) gP ht hc TB.gP bP fun c' ctv doc h' tk hx hge hlt hrec htb => ?_
    obtain ⟨c2, oc, vs, t, e2, r⟩ := hrec
    cases e2
    have nC : H c' = none := I.hok.fresh hge
    have I1 := inv_table (t' := tk) (more := #[rawInt pos.line, rawInt pos.col, .ref c']) (h' := h') (q := X.env.qual ++ "<lambda>") I hP (fun b o nb q => hx b o nb q) htb hge ⟨oc, vs, t, r⟩
    have up : ExtN H (upd (upd H P (.tbl (ps ++ #[rawInt pos.line, rawInt pos.col, .ref c']))) c' (CodeO c' (X.env.qual ++ "<lambda>"))) := fun b o q n =>
      (upd_ne (ne_of_none q nC)).trans ((upd_ne fun (z : b = P) => n ps (Option.some.inj (q.symm.trans (by rw [z]; exact hP)))).trans q)
    refine fin _ h' tk tk c' doc ctv I1 up (fun p hp => ?_) upd_same (Nat.le_trans hge (Nat.le_of_lt hlt))
    by_cases hb : p.1 = P
    · have eL : (ps ++ #[rawInt pos.line, rawInt pos.col, .ref c']).toList = ps.toList ++ [rawInt pos.line, rawInt pos.col, .ref c'] := by simp
      rw [hu p hp hb, hb]
      refine ⟨_, (upd_ne (ne_of_none hP nC)).trans upd_same, eL ▸ PySem.TriplesOk_snoc _ _ _ _ ht, fun p' cv hcv => ?_⟩
      rcases among_app _ ht (eL ▸ hcv) with z | z
      · obtain ⟨c0, z1, z2⟩ := ha p' cv z
        exact ⟨c0, z1, up _ _ z2 codeO_ne⟩
      · exact ⟨c', z, upd_same⟩
    · obtain ⟨qs, a1, a2, a3⟩ := hT p hp
      refine ⟨qs, (upd_ne (ne_of_none a1 nC)).trans ((upd_ne hb).trans a1), a2, fun p' cv hcv => ?_⟩
      obtain ⟨c0, z1, z2⟩ := a3 p' cv hcv
      exact ⟨c0, z1, up _ _ z2 codeO_ne⟩
end
/-- the readings: a new function that is known from now on; without defaults, and with one default, the number 0 -/
def tLamV0 (T : List (Addr × Str)) (mk : Addr → NF) (e : Expr) : TE := fun σ H Q => Tabs T H ∧ ∀ (f c' : Addr) (H1 : Hp), ExtN H H1 → Tabs T H1 → H f = none → H1 f = some (LamV f (mk c') e .none) → H1 c' = some (CodeO c' (mk c').qual) → Q (.ref f) H1
def tLamV1 (T : List (Addr × Str)) (mk : Addr → NF) (e : Expr) : TE := fun σ H Q => Tabs T H ∧ ∀ (f c' t0 : Addr) (H1 : Hp), ExtN H H1 → Tabs T H1 → H f = none → H1 t0 = some (.tup [.int 0]) → H1 f = some (LamV f (mk c') e (.ref t0)) → H1 c' = some (CodeO c' (mk c').qual) → Q (.ref f) H1
theorem pe_lamV0 {X : Cx} {T : List (Addr × Str)} {c P : Addr} {params : Arguments} {body : Expr} {scope : Scope} {pos : Pos} (TB : TabB X.base X.mg c P) (hcode : X.env.code = .ref c) (hm : (P, X.env.qual ++ "<lambda>") ∈ T) (hu : ∀ p ∈ T, p.1 = P → p.2 = X.env.qual ++ "<lambda>")
    (hdef : defaultsOf params X.env = ([], [])) (hfree : ∀ y ∈ scope.names, y.2 = .free → X.env.scope.names.lookup y.1 = some .cell ∨ X.env.scope.names.lookup y.1 = some .free) : PE X (.Lambda params body scope pos) (tLamV0 T (mkL X params scope) body) := by
  refine ⟨fun pins s σ H Q I ⟨hT, h⟩ => ?_⟩
  refine PySem.W.kla_eval hdef ?_
  rw [makeFunction_eq]
  simp only [List.zip_nil_right, List.filterMap_nil, List.isEmpty_nil, if_true, pure_bind]
  exact tail_track I TB hcode hm hu hT (fun y hy e => (hfree y hy e).elim (fun z => I.ok.has _ (.inl z)) fun z => I.ok.has _ (.inr z)) fun f c' H1 s' I1 e1 T1 n f1 c1 => ⟨.ref f, H1, I1, rfl, h f c' H1 e1 T1 n f1 c1⟩
theorem pe_lamV1 {X : Cx} {T : List (Addr × Str)} {c P : Addr} {params : Arguments} {body e0 : Expr} {scope : Scope} {pos : Pos} (TB : TabB X.base X.mg c P) (hcode : X.env.code = .ref c) (hm : (P, X.env.qual ++ "<lambda>") ∈ T) (hu : ∀ p ∈ T, p.1 = P → p.2 = X.env.qual ++ "<lambda>")
    (hdef : params.defaults = [e0]) (hkw : params.kw_defaults = []) (he0 : PE X e0 (tC (.int 0))) (hfree : ∀ y ∈ scope.names, y.2 = .free → X.env.scope.names.lookup y.1 = some .cell ∨ X.env.scope.names.lookup y.1 = some .free) : PE X (.Lambda params body scope pos) (tLamV1 T (mkL X params scope) body) := by
  refine ⟨fun pins s σ H Q I ⟨hT, h⟩ => ?_⟩
  refine PySem.W.kdv_lam (by rw [hdef]; rfl) hkw ?_
  rw [hdef]
  refine PySem.W.kdv_all1 (wpAny_mono (he0.run pins s σ H (fun v H1 => v = .int 0 ∧ H1 = H) I ⟨rfl, rfl⟩) (fun u s1 z => ?_) fun _ _ z => z)
  obtain ⟨x, H1, I1, rx, rfl, rfl⟩ := z
  refine PySem.W.kdv_all0 ?_
  rw [makeFunction_eq]
  simp only [List.zip_nil_right, List.filterMap_nil, List.isEmpty_nil, if_true, pure_bind, List.isEmpty_cons, Bool.false_eq_true, if_false]
  refine wpAny_bind (wpAny_newTextTuple ?_)
  have hf : H1 s1.heap.objs.size = none := I1.hok.fresh (Nat.le_refl _)
  have I2 : Inv X pins σ (upd H1 s1.heap.objs.size (.tup [.int 0])) { s1 with heap := s1.heap.push { cls := .type "tuple", data := .seq [u].toArray } } :=
    I1.laid (t' := s1.toks) (fun b u e => Heap.get?_push_of_some _ e) (Nat.le_refl _) ⟨(by show 1 ≤ sizeLine; decide), [u], .cons rx .nil, ⟨_, Heap.get?_push_size _ rfl, rfl, _, rfl⟩⟩
  have s12 : ∀ b o, H1 b = some o → upd H1 s1.heap.objs.size (.tup [.int 0]) b = some o := fun b o q => (upd_ne (ne_of_none q hf)).trans q
  refine tail_track I2 TB hcode hm hu (hT.ext fun b o q => s12 b o q) (fun y hy e => (hfree y hy e).elim (fun z => I.ok.has _ (.inl z)) fun z => I.ok.has _ (.inr z)) fun f c' H3 s' I3 e3 T3 n f1 c1 => ⟨.ref f, H3, I3, rfl, ?_⟩
  exact h f c' s1.heap.objs.size H3 (fun b o q m => e3 b o (s12 b o q) m) T3 (by cases hz : H1 f with | none => rfl | some o => rw [s12 f o hz] at n; cases n) (e3 _ _ upd_same fun ps z => by cases z) f1 c1
/-! what such a function promises -/
abbrev gLamV0 (f : Addr) (F : NF) (e : Expr) : Hp → Prop := fun H => H f = some (LamV f F e .none) ∧ H F.c = some (CodeO F.c F.qual)
abbrev gLamV1 (f t0 : Addr) (F : NF) (e : Expr) : Hp → Prop := fun H => H f = some (LamV f F e (.ref t0)) ∧ H t0 = some (.tup [.int 0]) ∧ H F.c = some (CodeO F.c F.qual)
section
variable {CX : CXT} {P : Program} {w : World} {K : PySem.W.Frag} {mg : Str → Option Value} {base : Heap} {N ps fr : List Str} {F : NF} {f t0 : Addr} {e : Expr} {k : Nat} {sp : Sp} {ws : List (Option V)}
theorem vok_V {G : Hp → Prop} {dV : Value} {vs0 : List V} (S : NScope N ps fr F.scope) (hG : ∀ H, G H → H f = some (LamV f F e dV) ∧ H F.c = some (CodeO F.c F.qual)) (hl : vs0.length = ps.length)
    (hbind : ∀ (H : Hp) (s : Shared), HOk P w H s.heap → G H → ∃ us, Vals vs0 us ∧ ∀ (doc pm ctv : Value), BindsTo s (PySem.W.kdv_fn F.name F.qual F.params (.expr e) F.scope F.cl dV doc pm (.ref F.c) ctv) ⟨[], []⟩ (ps.zip us)) (C : CellsAt F.cl fr ws base fun _ => none)
    (hbody : ∀ (A : Around) (outer : List Env) (s : Shared) (H : Hp) (Q : VK) (E : XK), Room k (A.deeper (envF F f s.heap.objs.size)) → sp [] H Q E → ∃ t, PE (ncx CX P w K mg base N F f A outer s H E) e t ∧ t (startF N vs0 ws) H Q) :
    VOk P w K mg base CX (k + 1) f G (fun vs H Q E => vs = [] ∧ sp [] H Q E) := by
  refine ⟨fun hok g => ?_, fun A outer s H us vs Q E hr e0 g r hsp => ?_⟩
  · obtain ⟨od, sl, doc, pm, ctv, z⟩ := lamV_at hok (hG _ g).1
    exact ⟨_, od, _, sl, z⟩
  obtain ⟨rfl, hsp⟩ := hsp
  obtain rfl : us = [] := by cases r; rfl
  obtain ⟨od, sl, doc, pm, ctv, ho⟩ := lamV_at e0.hok (hG _ g).1
  obtain ⟨us0, r0, hb⟩ := hbind H s e0.hok g
  refine PySem.W.kla_callFunE hr.depth ho rfl S.co S.gen rfl (codeO_at e0.hok (hG _ g).2) (hb doc pm ctv _ _ _ _ ?_)
  have lim : s.heap.NoLimit := e0.mod.nolimit.keeps fun b o q => (e0.bs b o q).1
  refine wpAny_newFunctionEnv S.nocell (fun ⟨n, _⟩ hy => S.par n (List.of_mem_zip hy).1) (fun h₁ hns hsb => ⟨lim.fresh _ hsb, ?_⟩) S.kind
  show codeAny _ _ (.expr e (envF F f s.heap.objs.size)) _ _
  have kp : ∀ b o, s.heap.get? b = some o → h₁.get? b = some o := fun b o q => hsb.extBut b o (Nat.ne_of_lt (Heap.lt_size q)) (Heap.get?_push_of_some _ q)
  obtain ⟨t, ht, hq⟩ := hbody A outer s H Q E (hr.deeper _) hsp
  have J := inv_startN (CX := CX) (E := E) (f := f) (tk := s.toks + (ps.zip us0).length) S hr.hd e0 hl r0 (cells_base C e0.bs) hns kp
  refine PySem.W.kla_codeExpr (wpAny_mono (ht.run [] _ (startF N vs0 ws) H Q J hq) (fun v s' z => ?_) fun _ _ z => z)
  obtain ⟨x, H', J', rv, q⟩ := z
  exact ⟨x, H', J'.os, J'.bare, J'.base, J'.hok, rv, q⟩
/-- no parameters -/
theorem vok_V0 (S : NScope N [] fr F.scope) (hbind : ∀ (doc pm ctv : Value), bindArgs (PySem.W.kdv_fn F.name F.qual F.params (.expr e) F.scope F.cl .none doc pm (.ref F.c) ctv) ⟨[], []⟩ = pure []) (C : CellsAt F.cl fr ws base fun _ => none)
    (hbody : ∀ (A : Around) (outer : List Env) (s : Shared) (H : Hp) (Q : VK) (E : XK), Room k (A.deeper (envF F f s.heap.objs.size)) → sp [] H Q E → ∃ t, PE (ncx CX P w K mg base N F f A outer s H E) e t ∧ t (startF N [] ws) H Q) :
    VOk P w K mg base CX (k + 1) f (gLamV0 f F e) (fun vs H Q E => vs = [] ∧ sp [] H Q E) :=
  vok_V (vs0 := []) S (fun H g => g) rfl (fun H s _ _ => ⟨[], .nil, fun doc pm ctv => BindsTo.of_eq (hbind doc pm ctv)⟩) C hbody
/-- one parameter, its default 0 -/
theorem vok_V1 {x : Str} (S : NScope N [x] fr F.scope) (hbind : ∀ (doc pm ctv : Value), ∃ kk : Option (Array Value) → Sem (List (Str × Value)), bindArgs (PySem.W.kdv_fn F.name F.qual F.params (.expr e) F.scope F.cl (.ref t0) doc pm (.ref F.c) ctv) ⟨[], []⟩ = seqItems? (.ref t0) >>= kk ∧ ∀ u : Value, kk (some #[u]) = pure [(x, u)]) (C : CellsAt F.cl fr ws base fun _ => none)
    (hbody : ∀ (A : Around) (outer : List Env) (s : Shared) (H : Hp) (Q : VK) (E : XK), Room k (A.deeper (envF F f s.heap.objs.size)) → sp [] H Q E → ∃ t, PE (ncx CX P w K mg base N F f A outer s H E) e t ∧ t (startF N [.int 0] ws) H Q) :
    VOk P w K mg base CX (k + 1) f (gLamV1 f t0 F e) (fun vs H Q E => vs = [] ∧ sp [] H Q E) := by
  refine vok_V (vs0 := [.int 0]) S (fun H g => ⟨g.1, g.2.2⟩) rfl (fun H s hok g => ?_) C hbody
  obtain ⟨_, its, rv, o, ho, hc, n, hd⟩ := (show ObjOk P w H s.heap t0 (.tup [.int 0]) from hok t0 _ g.2.1)
  obtain ⟨u, rfl, ru⟩ := rv.one
  refine ⟨[u], .cons ru .nil, fun doc pm ctv => ?_⟩
  obtain ⟨kk, h1, h2⟩ := hbind doc pm ctv
  exact BindsTo.of_defaults (T := t0) rfl ho hd h1 (h2 u)
end
/-- x(), x a name that holds the function at f -/
def tCallVal0 (f : Addr) (G : Hp → Prop) (i : Nat) (sp : Sp) (E : XK) : TE := fun σ H Q => σ[i]? = some (some (.ref f)) ∧ G H ∧ sp [] H Q E
section
variable {X : Cx} {CX : CXT} {i k : Nat} {x : Str} {f : Addr} {G : Hp → Prop} {sp : Sp} {E : XK} {p pos : Pos}
theorem pe_callVal0 (V : VOk X.prog X.w X.K X.mg X.base CX k f G sp) (hr : Room k X.A) (hx : Passes CX X E) (hN : X.N[i]? = some x) (hv : Vis X.env.scope x)
    (hd : (x == ("__debug__" : Str)) = false := by decide) (hcd : (x == ("__classdict__" : Str)) = false := by decide) :
    PE X (.Call (.Name x p) [] [] pos) (tCallVal0 f G i sp E) := by
  refine ⟨fun pins s σ H Q I ⟨hs, g, ht⟩ => ?_⟩
  refine wpAny_Call_Name_kw (thn ((pe_var (pos := p) hN hv hd hcd).run pins s σ H (fun v H1 => v = .ref f ∧ H1 = H) I ⟨.ref f, hs, rfl, rfl⟩) fun u s1 ⟨v, H1, I1, r1, ev, eH⟩ => ?_)
  subst ev eH
  obtain rfl : u = Value.ref f := r1
  exact PySem.W.callWith_F0 (first := []) (V.isf I1.hok g) (run_val V hr hx I1 g .nil ht)
end
/-! a def called with arguments that read cells of the running def: the base grows by all that is not tracked -/
/-- what is told of the larger base -/
structure Lent (X : Cx) (σ : L2.St) (base' : Heap) : Prop where
  up : ∀ b ob, X.base.get? b = some ob → base'.get? b = some ob
  ce : ∀ (cl : List (Str × Addr)) (fr : List Str) (js : List Nat), (X.Ok → NdefX.Caps X cl fr js) → CellsAt cl fr (js.map (slotAt σ)) base' fun _ => none
def tCallL (X : Cx) (sp : Heap → Sp) (E : XK) (t : TA) : TE := fun σ H Q => t σ H fun vs H1 => ∀ base' : Heap, Lent X σ base' → sp base' vs H1 Q E
section
variable {X : Cx} {CX : CXT} {k : Nat} {g : Addr} {ps : List Str} {E : XK} {x : Str} {p pos : Pos} {e : Expr} {es : List Expr} {t : TA}
theorem run_lentL {pins : List (Addr × Obj)} {σ : L2.St} {H : Hp} {s : Shared} {Q : VK} {us : List Value} {vs : List V} {sp : Heap → Sp} (I : Inv X pins σ H s) (hfn : ∀ y, X.fn y = true)
    (F : ∀ base' : Heap, ∃ fd, FnOk X.prog X.w X.K X.mg base' CX k g fd ps (sp base') ∧ L2.Binds X.K fd ps []) (hr : Room k X.A) (hx : Passes CX X E) (r : Vals vs us) (h : ∀ base', Lent X σ base' → sp base' vs H Q E) :
    wpAny (model X.prog X.w) X.A (call (.ref g) us) (EP X pins σ Q) X.xe s := by
  obtain ⟨B, hB⟩ : ∃ B, B = PySem.W.hideAll s.heap (trk s.heap H ++ frs X.stack) := ⟨_, rfl⟩
  have hid : ∀ b, b ∈ trk s.heap H ++ frs X.stack → B.get? b = none := fun b hb => hB ▸ PySem.W.hideAll_none _ hb
  have ofB : ∀ b ob, B.get? b = some ob → s.heap.get? b = some ob ∧ H b = none := fun b ob q => by
    have q' : s.heap.get? b = some ob := PySem.W.of_hideAll _ (hB ▸ q)
    refine ⟨q', ?_⟩
    cases hz : H b with
    | none => rfl
    | some u =>
      have := hid b (List.mem_append_left _ (List.mem_filter.mpr ⟨List.mem_range.mpr (Heap.lt_size q'), by rw [hz]; rfl⟩))
      rw [this] at q
      cases q
  have toB : ∀ b ob, s.heap.get? b = some ob → H b = none → b ∉ frs X.stack → B.get? b = some ob := fun b ob q n nf => by
    rw [hB]
    refine PySem.W.hideAll_get _ q fun hm => ?_
    rcases List.mem_append.mp hm with z | z
    · have z2 := (List.mem_filter.mp z).2
      rw [n] at z2
      cases z2
    · exact nf z
  have kb : ∀ b ob, X.base.get? b = some ob → B.get? b = some ob := fun b ob q => toB b ob (I.bs b ob q).1 (I.bs b ob q).2 fun z => by
    have := (I.stack.mem z).1
    rw [q] at this
    cases this
  have cB : ∀ (cl : List (Str × Addr)) (fr : List Str) (js : List Nat), (X.Ok → NdefX.Caps X cl fr js) → CellsAt cl fr (js.map (slotAt σ)) B fun _ => none := fun cl fr js cp => by
    have Cs := cells_of I (cp I.ok)
    have hcl := (cp I.ok).sub
    have nfr : ∀ y c, cl.lookup y = some c → c ∉ frs X.stack := fun y c q z => by
      have qe := hcl y c q
      rcases List.mem_cons.mp (I.stkSub c z) with z | z
      · exact I.cne y c qe z
      · obtain ⟨_, ob, ho, _⟩ := I.ok.funs.mem z
        exact absurd (Nat.lt_of_lt_of_le (Heap.lt_size ho) (I.ok.cab y c (hfn y) qe)) (Nat.lt_irrefl _)
    have kc : ∀ {y c} {v : Option Value}, cl.lookup y = some c → s.heap.IsCell c v → B.IsCell c v := fun {y c v} q ⟨ob, ho, hd⟩ => ⟨ob, toB c ob ho (Cs.all y c q).1 (nfr y c q), hd⟩
    refine ⟨Cs.len, fun y c q => ?_, Cs.inj, fun i y q => ?_⟩
    · obtain ⟨_, v, z⟩ := Cs.all y c q
      exact ⟨rfl, v, kc q z⟩
    · obtain ⟨c, hc, hv⟩ := Cs.has i y q
      refine ⟨c, hc, fun v ev => ?_⟩
      obtain ⟨u, ru, z⟩ := hv v ev
      exact ⟨u, ru, kc hc z⟩
  have M : Mod X.K X.mg B := ⟨I.mod.kin.keeps kb, I.mod.glob.keeps kb, let ⟨mb, h1, h2⟩ := I.mod.blt; ⟨mb, h1.keeps kb, h2⟩, I.mod.nolimit.keeps kb⟩
  have e0 : Env0 X.prog X.w X.K X.mg B X.A X.stack s H := ⟨I.ok.frames, M, ofB, Nat.le_of_eq (by rw [hB, PySem.W.hideAll_size]), frames_base (fun b hb => hid b (List.mem_append_right _ hb)) I.stack, I.stkFree, I.hok, I.bare⟩
  obtain ⟨fd, Fn, hb⟩ := F B
  have q := h B ⟨kb, cB⟩
  have hl : (us ++ []).length = ps.length := by
    rw [List.append_nil, ← r.length]
    exact Fn.len _ _ _ _ q
  have hb2 := hb s us I.kIn hl
  rw [List.append_nil] at hb2
  refine wpAny_call (codeAny_mono (Fn.run X.A X.stack s H ⟨us, []⟩ us vs Q E hr e0 hb2 r q) fun r s' hq => ?_)
  match r, hq with
  | .error e, hq => exact hx pins σ H s e s' I hq
  | .ok (.ret u), hq => exact I.after hq
theorem pe_callL {sp : Heap → Sp} (hfn : ∀ y, X.fn y = true) (F : ∀ base' : Heap, ∃ fd, FnOk X.prog X.w X.K X.mg base' CX k g fd ps (sp base') ∧ L2.Binds X.K fd ps []) (hr : Room k X.A) (hg : Gl X x) (hm : X.mg x = some (.ref g)) (hk : PySem.W.keepIn X.K (.ref g) = true)
    (hx : Passes CX X E) (ha : PA X (e :: es) t) (hdb : (x == ("__debug__" : Str)) = false := by decide)
    (he : starEach (e :: es) X.env = (false, eval e X.env) :: starEach es X.env := by rfl) (hpl : (backTo pos (starEach es X.env)).any (·.1) = false := by rfl) :
    PE X (.Call (.Name x p) (e :: es) [] pos) (tCallL X sp E t) := by
  refine ⟨fun pins s σ H Q I h => ?_⟩
  refine wpAny_Call_Name_kw (ld_glob I hg hm ?_ hdb)
  exact PySem.W.callWith_K (h₀ := X.base) I.ok.mod.kin hk (thn (ha.run pos pins s σ H _ I h) fun us s1 ⟨vs, H1, I1, r, q⟩ => ⟨I1.kIn, run_lentL I1 hfn F hr hx r q⟩) he hpl
end
end SwA

end

section
set_option maxRecDepth 100000
set_option maxHeartbeats 4000000
/-! the law's own: the error of a call, the call a function value -/
namespace Sw
open PySem PySem.Spec PyProof.Rows L2 SwA
def spEof (P : Program) (w : World) (K : PySem.W.Frag) (mg : Str → Option Value) (n : Nat) (base : Heap) : Sp := fun vs H Q _ => ∃ (f : Addr) (G : Hp → Prop) (sp : Sp), vs = [.ref f] ∧ VOk P w K mg base (L2.CX P w) n f G sp ∧ G H ∧ sp [] H (fun _ H' => Q .non H') (fun cls d H' => ErrW K cls d H' Q)
abbrev eoX (P : Program) (w : World) (K : PySem.W.Frag) (mg : Str → Option Value) (base : Heap) (cdv : Value) (A : Around) (outer : List Env) (s : Shared) (H : Hp) (E : XK) : Cx := (cxOf CX0 P w K mg base eofN "_law_error_of" (defScope s__law_error_of) (He.fAd K ("_law_error_of", none)) cdv A outer s H E).nox
section
variable {P : Program} {w : World} {K : PySem.W.Frag} {mg : Str → Option Value} {base : Heap}
theorem ok_eofV (T : EofT K mg) (n : Nat) : FnE P w K mg base CX0 (n + 1) ("_law_error_of", none) ["_law_call"] (spEof P w K mg n base) := by
  obtain ⟨fd, F⟩ := T.d.d
  refine ⟨fd, F.ok sc_eof (fun vs H Q E h => ?_) (fun cdv A outer s H vs Q E hr h => ?_), F.bindsN fun _ _ _ _ _ _ us hl => match us, hl with | [_], _ => rfl, F.kp⟩
  · obtain ⟨f, G, sp, rfl, _⟩ := h
    rfl
  · obtain ⟨f, G, sp, rfl, hVo, hG, hsp⟩ := h
    have hu3 : (eoX P w K mg base cdv A outer s H E).A.units + 3 < cLine := by
      have := hr.un
      show (A.deeper (envOfC "_law_error_of" (defScope s__law_error_of) s.heap.objs.size (He.fAd K ("_law_error_of", none)) cdv)).units + 3 < cLine
      omega
    refine ⟨_, PSs.nox (pss_cons (ps_try_asL (X := eoX P w K mg base cdv A outer s H E) (i := 1) (c := .ref (He.ga K "SweepError")) (ts := ?ts)
        (tb := fun W D σ H => ∃ Ech : XK, (∀ cls d σ' H', Ech cls d H' → W cls d σ' H') ∧ σ[0]? = some (some (.ref f)) ∧ G H ∧ sp [] H (fun _ H' => D.nx σ H') Ech)
        5 rfl rfl rfl sc_eof.nd rfl rfl ⟨rfl, by decide, .inl T.sw⟩ takes0 ?bo ?su)
      (pss_one (ps_ret pe_non))), ?fin⟩
    case su =>
      intro a oe cls d pn hz hf
      have su : PSs ((eoX P w K mg base cdv A outer s H E).suite a ((a, oe) :: pn)) (hdB (defBody s__law_error_of)) _ := (pss_cons (ps_set (i := 2) sc_eof.nd rfl (.inl rfl) (pe_lst (pa_cons (pe_callB (call_isEx (X := eoX P w K mg base cdv A outer s H E) hz hf) (by rfl) T.isinstance (by decide +kernel) (pa_cons (pv 1) (pa_cons (pe_glob (v := .ref (He.ga K "InvalidTick")) (by rfl) (T.g "InvalidTick" (by decide +kernel)) rfl) pa_nil))) (pa_cons (pe_callB (call_isEx (X := eoX P w K mg base cdv A outer s H E) hz hf) (by rfl) T.isinstance (by decide +kernel) (pa_cons (pv 1) (pa_cons (pe_glob (v := .ref (He.ga K "InvalidNumber")) (by rfl) (T.g "InvalidNumber" (by decide +kernel)) rfl) pa_nil))) (pa_cons (pe_callB (call_isEx (X := eoX P w K mg base cdv A outer s H E) hz hf) (by rfl) T.isinstance (by decide +kernel) (pa_cons (pv 1) (pa_cons (pe_glob (v := .ref (He.ga K "UnknownSign")) (by rfl) (T.g "UnknownSign" (by decide +kernel)) rfl) pa_nil))) pa_nil)))))
        (pss_cons (ps_set (i := 2) sc_eof.nd rfl (.inl rfl) (pe_op op_cat (pv 2) (pe_lst (pa_cons (pe_callB (call_isEx (X := eoX P w K mg base cdv A outer s H E) hz hf) (by rfl) T.isinstance (by decide +kernel) (pa_cons (pv 1) (pa_cons (pe_glob (v := .ref (He.ga K "TooLong")) (by rfl) (T.g "TooLong" (by decide +kernel)) rfl) pa_nil))) (pa_cons (pe_callB (call_isEx (X := eoX P w K mg base cdv A outer s H E) hz hf) (by rfl) T.isinstance (by decide +kernel) (pa_cons (pv 1) (pa_cons (pe_glob (v := .ref (He.ga K "OtherCorridor")) (by rfl) (T.g "OtherCorridor" (by decide +kernel)) rfl) pa_nil))) (pa_cons (pe_callB (call_isEx (X := eoX P w K mg base cdv A outer s H E) hz hf) (by rfl) T.isinstance (by decide +kernel) (pa_cons (pv 1) (pa_cons (pe_glob (v := .ref (He.ga K "Contradiction")) (by rfl) (T.g "Contradiction" (by decide +kernel)) rfl) pa_nil))) pa_nil))))))
        (pss_cons (ps_set (i := 2) sc_eof.nd rfl (.inl rfl) (pe_op op_cat (pv 2) (pe_lst (pa_cons (pe_callB (call_isEx (X := eoX P w K mg base cdv A outer s H E) hz hf) (by rfl) T.isinstance (by decide +kernel) (pa_cons (pv 1) (pa_cons (pe_glob (v := .ref (He.ga K "InvalidName")) (by rfl) (T.g "InvalidName" (by decide +kernel)) rfl) pa_nil))) (pa_cons (pe_callB (call_isEx (X := eoX P w K mg base cdv A outer s H E) hz hf) (by rfl) T.isinstance (by decide +kernel) (pa_cons (pv 1) (pa_cons (pe_glob (v := .ref (He.ga K "UnknownName")) (by rfl) (T.g "UnknownName" (by decide +kernel)) rfl) pa_nil))) (pa_cons (pe_callB (call_isEx (X := eoX P w K mg base cdv A outer s H E) hz hf) (by rfl) T.isinstance (by decide +kernel) (pa_cons (pv 1) (pa_cons (pe_glob (v := .ref (He.ga K "SyntaxFault")) (by rfl) (T.g "SyntaxFault" (by decide +kernel)) rfl) pa_nil))) pa_nil))))))
        (pss_cons (ps_set (i := 2) sc_eof.nd rfl (.inl rfl) (pe_op op_cat (pv 2) (pe_lst (pa_cons (pe_callB (call_isEx (X := eoX P w K mg base cdv A outer s H E) hz hf) (by rfl) T.isinstance (by decide +kernel) (pa_cons (pv 1) (pa_cons (pe_glob (v := .ref (He.ga K "CheckFault")) (by rfl) (T.g "CheckFault" (by decide +kernel)) rfl) pa_nil))) (pa_cons (pe_callB (call_isEx (X := eoX P w K mg base cdv A outer s H E) hz hf) (by rfl) T.isinstance (by decide +kernel) (pa_cons (pv 1) (pa_cons (pe_glob (v := .ref (He.ga K "InvalidCode")) (by rfl) (T.g "InvalidCode" (by decide +kernel)) rfl) pa_nil))) (pa_cons (pe_callB (call_isEx (X := eoX P w K mg base cdv A outer s H E) hz hf) (by rfl) T.isinstance (by decide +kernel) (pa_cons (pv 1) (pa_cons (pe_glob (v := .ref (He.ga K "InvalidOperation")) (by rfl) (T.g "InvalidOperation" (by decide +kernel)) rfl) pa_nil))) pa_nil))))))
        (pss_cons (ps_if (PW.pt (pw_or (pt_cmpR op_ne (pe_bm PySem.F.plainAttrs_list PySem.F.slot_list_count PySem.F.type_list_count (mt_bcount (X := (eoX P w K mg base cdv A outer s H E).suite a ((a, oe) :: pn)) hu3) (pv 2) (pa_cons pe_bl pa_nil)) pe_int (nomark _)) (pw_or1 (pt_not (pt_val (pe_callB (call_isEx (X := eoX P w K mg base cdv A outer s H E) hz hf) (by rfl) T.isinstance (by decide +kernel) (pa_cons (pv 1) (pa_cons (pe_bltn (v := .ty "ValueError") (by rfl) T.VE (by decide +kernel) rfl) pa_nil))))))))
          (pss_one (ps_ret (pe_tup (pa_cons pe_str (pa_cons pe_int pa_nil))))) pss_nil)
        (pss_cons (ps_set (i := 3) sc_eof.nd rfl (.inl rfl) (pe_lst (pa_cons pe_str (pa_cons pe_str (pa_cons pe_str (pa_cons pe_str (pa_cons pe_str (pa_cons pe_str (pa_cons pe_str (pa_cons pe_str (pa_cons pe_str (pa_cons pe_str pa_nil))))))))))))
        (pss_cons (ps_set (i := 4) sc_eof.nd rfl (.inl rfl) (pe_ix ix_list (pe_op op_cat (pv 3) (pe_lst (pa_cons pe_str (pa_cons pe_str pa_nil)))) (pe_bm PySem.F.plainAttrs_list PySem.F.slot_list_index PySem.F.type_list_index mt_index (pv 2) (pa_cons pe_bl pa_nil)) (fun _ _ => rfl)))
        (pss_cons (ps_if (pt_cmpR op_in_seq (pv 4) (pe_lst (pa_cons pe_str (pa_cons pe_str pa_nil))) (by rfl))
          (pss_one (ps_ret (pe_tup (pa_cons (pv 4) (pa_cons (pe_ifExp (pt_cmpR op_eq (pv 4) pe_str (nomark _)) pe_no pe_no) pa_nil))))) pss_nil)
        (pss_one (ps_ret (pe_tup (pa_cons (pv 4) (pa_cons (pe_ifExp (pt_cmpR op_in_seq (pv 4) (pe_lst (pa_cons pe_str (pa_cons pe_str pa_nil))) (by rfl)) pe_no pe_int) pa_nil)))))))))))))
      have hK : ((eoX P w K mg base cdv A outer s H E).suite a ((a, oe) :: pn)).K = K := rfl
      rw [hK] at su
      exact su
    case bo =>
      intro W pn xe tk _
      refine ⟨fun pins s' σ H' D I h' => ?_⟩
      obtain ⟨Ech, hW, h1, h2, h3⟩ := h'
      exact (pss_one (ps_expr (pe_callVal0 (X := (eoX P w K mg base cdv A outer s H E).tr pn xe) (i := 0) hVo hr (passes_call tk hW) rfl (.inl rfl)))).run pins s' σ H' D I ⟨h1, h2, h3⟩
    case fin =>
      refine ⟨fun cls d H' => ErrW K cls d H' Q, fun cls d σ' H' hE => ?_, rfl, hG, hsp⟩
      obtain ⟨D, j, z, rfl, rfl, ek, hj, hz, kq⟩ := hE
      refine ⟨true, ek.exm, fun _ a na hl => ?_, fun z => nomatch z⟩
      obtain ⟨x0, x1, x2, x3, x4, rfl⟩ : ∃ x0 x1 x2 x3 x4, σ' = [x0, x1, x2, x3, x4] := by
        have hl : (σ'.set 1 (some (.ref a))).length = 5 := hl
        rw [List.length_set] at hl
        match σ', hl with
        | [x0, x1, x2, x3, x4], _ => exact ⟨x0, x1, x2, x3, x4, rfl⟩
      clear hl
      refine ⟨_, rfl, He.ga K D, _, _, decide (0 = j), rfl, rfl, ek.ex, rfl, (fun _ h => h), ek.kd ("InvalidTick", 0) (by decide +kernel), _, rfl, He.ga K D, _, _, decide (1 = j), rfl, rfl, ek.ex, rfl, (fun _ h => h), ek.kd ("InvalidNumber", 1) (by decide +kernel), _, rfl, He.ga K D, _, _, decide (2 = j), rfl, rfl, ek.ex, rfl, (fun _ h => h), ek.kd ("UnknownSign", 2) (by decide +kernel), (by show 3 ≤ sizeLine; decide), fun p1 np1 => ?_⟩
      have s1 := sameUpd (o := .lst [.bl (decide (0 = j)), .bl (decide (1 = j)), .bl (decide (2 = j))]) (Same.refl H') np1
      have hp1 := @upd_same H' p1 (.lst [.bl (decide (0 = j)), .bl (decide (1 = j)), .bl (decide (2 = j))])
      generalize upd H' p1 (.lst [.bl (decide (0 = j)), .bl (decide (1 = j)), .bl (decide (2 = j))]) = H1 at *
      refine ⟨_, rfl, _, rfl, He.ga K D, _, _, decide (3 = j), rfl, rfl, ek.ex, rfl, (fun _ h => h), ek.kd ("TooLong", 3) (by decide +kernel), _, rfl, He.ga K D, _, _, decide (4 = j), rfl, rfl, ek.ex, rfl, (fun _ h => h), ek.kd ("OtherCorridor", 4) (by decide +kernel), _, rfl, He.ga K D, _, _, decide (5 = j), rfl, rfl, ek.ex, rfl, (fun _ h => h), ek.kd ("Contradiction", 5) (by decide +kernel), (by show 3 ≤ sizeLine; decide), fun p2 np2 => ?_⟩
      have u0 := sameUpd (o := .lst [.bl (decide (3 = j)), .bl (decide (4 = j)), .bl (decide (5 = j))]) (Same.refl H1) np2
      have hp2 := @upd_same H1 p2 (.lst [.bl (decide (3 = j)), .bl (decide (4 = j)), .bl (decide (5 = j))])
      replace hp1 := u0 _ _ hp1
      replace s1 := s1.trans u0
      generalize upd H1 p2 (.lst [.bl (decide (3 = j)), .bl (decide (4 = j)), .bl (decide (5 = j))]) = H2 at *
      refine ⟨p1, p2, _, _, rfl, rfl, hp1, hp2, (by show 6 ≤ sizeLine; decide), fun p3 np3 => ?_⟩
      have u1 := sameUpd (o := .lst ([.bl (decide (0 = j)), .bl (decide (1 = j)), .bl (decide (2 = j))] ++ [.bl (decide (3 = j)), .bl (decide (4 = j)), .bl (decide (5 = j))])) (Same.refl H2) np3
      have hp3 := @upd_same H2 p3 (.lst ([.bl (decide (0 = j)), .bl (decide (1 = j)), .bl (decide (2 = j))] ++ [.bl (decide (3 = j)), .bl (decide (4 = j)), .bl (decide (5 = j))]))
      replace s1 := s1.trans u1
      generalize upd H2 p3 (.lst ([.bl (decide (0 = j)), .bl (decide (1 = j)), .bl (decide (2 = j))] ++ [.bl (decide (3 = j)), .bl (decide (4 = j)), .bl (decide (5 = j))])) = H3 at *
      refine ⟨_, rfl, _, rfl, He.ga K D, _, _, decide (6 = j), rfl, rfl, ek.ex, rfl, (fun _ h => h), ek.kd ("InvalidName", 6) (by decide +kernel), _, rfl, He.ga K D, _, _, decide (7 = j), rfl, rfl, ek.ex, rfl, (fun _ h => h), ek.kd ("UnknownName", 7) (by decide +kernel), _, rfl, He.ga K D, _, _, decide (8 = j), rfl, rfl, ek.ex, rfl, (fun _ h => h), ek.kd ("SyntaxFault", 8) (by decide +kernel), (by show 3 ≤ sizeLine; decide), fun p4 np4 => ?_⟩
      have u2 := sameUpd (o := .lst [.bl (decide (6 = j)), .bl (decide (7 = j)), .bl (decide (8 = j))]) (Same.refl H3) np4
      have hp4 := @upd_same H3 p4 (.lst [.bl (decide (6 = j)), .bl (decide (7 = j)), .bl (decide (8 = j))])
      replace hp3 := u2 _ _ hp3
      replace s1 := s1.trans u2
      generalize upd H3 p4 (.lst [.bl (decide (6 = j)), .bl (decide (7 = j)), .bl (decide (8 = j))]) = H4 at *
      refine ⟨p3, p4, _, _, rfl, rfl, hp3, hp4, (by show 9 ≤ sizeLine; decide), fun p5 np5 => ?_⟩
      have u3 := sameUpd (o := .lst (([.bl (decide (0 = j)), .bl (decide (1 = j)), .bl (decide (2 = j))] ++ [.bl (decide (3 = j)), .bl (decide (4 = j)), .bl (decide (5 = j))]) ++ [.bl (decide (6 = j)), .bl (decide (7 = j)), .bl (decide (8 = j))])) (Same.refl H4) np5
      have hp5 := @upd_same H4 p5 (.lst (([.bl (decide (0 = j)), .bl (decide (1 = j)), .bl (decide (2 = j))] ++ [.bl (decide (3 = j)), .bl (decide (4 = j)), .bl (decide (5 = j))]) ++ [.bl (decide (6 = j)), .bl (decide (7 = j)), .bl (decide (8 = j))]))
      replace s1 := s1.trans u3
      generalize upd H4 p5 (.lst (([.bl (decide (0 = j)), .bl (decide (1 = j)), .bl (decide (2 = j))] ++ [.bl (decide (3 = j)), .bl (decide (4 = j)), .bl (decide (5 = j))]) ++ [.bl (decide (6 = j)), .bl (decide (7 = j)), .bl (decide (8 = j))])) = H5 at *
      refine ⟨_, rfl, _, rfl, He.ga K D, _, _, decide (9 = j), rfl, rfl, ek.ex, rfl, (fun _ h => h), ek.kd ("CheckFault", 9) (by decide +kernel), _, rfl, He.ga K D, _, _, decide (10 = j), rfl, rfl, ek.ex, rfl, (fun _ h => h), ek.kd ("InvalidCode", 10) (by decide +kernel), _, rfl, He.ga K D, _, _, decide (11 = j), rfl, rfl, ek.ex, rfl, (fun _ h => h), ek.kd ("InvalidOperation", 11) (by decide +kernel), (by show 3 ≤ sizeLine; decide), fun p6 np6 => ?_⟩
      have u4 := sameUpd (o := .lst [.bl (decide (9 = j)), .bl (decide (10 = j)), .bl (decide (11 = j))]) (Same.refl H5) np6
      have hp6 := @upd_same H5 p6 (.lst [.bl (decide (9 = j)), .bl (decide (10 = j)), .bl (decide (11 = j))])
      replace hp5 := u4 _ _ hp5
      replace s1 := s1.trans u4
      generalize upd H5 p6 (.lst [.bl (decide (9 = j)), .bl (decide (10 = j)), .bl (decide (11 = j))]) = H6 at *
      refine ⟨p5, p6, _, _, rfl, rfl, hp5, hp6, (by show 12 ≤ sizeLine; decide), fun p7 np7 => ?_⟩
      have u5 := sameUpd (o := .lst ((([.bl (decide (0 = j)), .bl (decide (1 = j)), .bl (decide (2 = j))] ++ [.bl (decide (3 = j)), .bl (decide (4 = j)), .bl (decide (5 = j))]) ++ [.bl (decide (6 = j)), .bl (decide (7 = j)), .bl (decide (8 = j))]) ++ [.bl (decide (9 = j)), .bl (decide (10 = j)), .bl (decide (11 = j))])) (Same.refl H6) np7
      have hp7 := @upd_same H6 p7 (.lst ((([.bl (decide (0 = j)), .bl (decide (1 = j)), .bl (decide (2 = j))] ++ [.bl (decide (3 = j)), .bl (decide (4 = j)), .bl (decide (5 = j))]) ++ [.bl (decide (6 = j)), .bl (decide (7 = j)), .bl (decide (8 = j))]) ++ [.bl (decide (9 = j)), .bl (decide (10 = j)), .bl (decide (11 = j))]))
      replace s1 := s1.trans u5
      generalize upd H6 p7 (.lst ((([.bl (decide (0 = j)), .bl (decide (1 = j)), .bl (decide (2 = j))] ++ [.bl (decide (3 = j)), .bl (decide (4 = j)), .bl (decide (5 = j))]) ++ [.bl (decide (6 = j)), .bl (decide (7 = j)), .bl (decide (8 = j))]) ++ [.bl (decide (9 = j)), .bl (decide (10 = j)), .bl (decide (11 = j))])) = H7 at *
      have hk : H7 p7 = some (.lst ((bsJ j).map V.bl)) := hp7
      have hj12 : j < 12 := by omega
      refine ⟨_, rfl, .inl ⟨rfl, _, SqL.of hk⟩, p7, bsJ j, rfl, rfl, SqL.of hk, ?_⟩
      rw [bs_count hj12]
      refine ⟨rfl, false, rfl, iteF ?_⟩
      refine ⟨_, rfl, He.ga K D, _, _, true, rfl, rfl, ek.ex, rfl, (fun _ h => h), ek.ve, _, rfl, ?_⟩
      refine ⟨(by show 10 ≤ sizeLine; decide), fun p8 np8 => ?_⟩
      have u6 := sameUpd (o := .lst [.str "tick", .str "number", .str "sign", .str "long", .str "other", .str "contradiction", .str "name", .str "unknown", .str "syntax", .str "check"]) (Same.refl H7) np8
      have hp8 := @upd_same H7 p8 (.lst [.str "tick", .str "number", .str "sign", .str "long", .str "other", .str "contradiction", .str "name", .str "unknown", .str "syntax", .str "check"])
      replace hk := u6 _ _ hk
      replace s1 := s1.trans u6
      generalize upd H7 p8 (.lst [.str "tick", .str "number", .str "sign", .str "long", .str "other", .str "contradiction", .str "name", .str "unknown", .str "syntax", .str "check"]) = H8 at *
      refine ⟨_, rfl, (by show 2 ≤ sizeLine; decide), fun p9 np9 => ?_⟩
      have u7 := sameUpd (o := .lst [.str "code", .str "operation"]) (Same.refl H8) np9
      have hp9 := @upd_same H8 p9 (.lst [.str "code", .str "operation"])
      replace hk := u7 _ _ hk
      replace hp8 := u7 _ _ hp8
      replace s1 := s1.trans u7
      generalize upd H8 p9 (.lst [.str "code", .str "operation"]) = H9 at *
      refine ⟨p8, p9, _, _, rfl, rfl, hp8, hp9, (by show 12 ≤ sizeLine; decide), fun p10 np10 => ?_⟩
      have u8 := sameUpd (o := .lst ([.str "tick", .str "number", .str "sign", .str "long", .str "other", .str "contradiction", .str "name", .str "unknown", .str "syntax", .str "check"] ++ [.str "code", .str "operation"])) (Same.refl H9) np10
      have hp10 := @upd_same H9 p10 (.lst ([.str "tick", .str "number", .str "sign", .str "long", .str "other", .str "contradiction", .str "name", .str "unknown", .str "syntax", .str "check"] ++ [.str "code", .str "operation"]))
      replace hk := u8 _ _ hk
      replace s1 := s1.trans u8
      generalize upd H9 p10 (.lst ([.str "tick", .str "number", .str "sign", .str "long", .str "other", .str "contradiction", .str "name", .str "unknown", .str "syntax", .str "check"] ++ [.str "code", .str "operation"])) = H10 at *
      obtain ⟨b1, b2⟩ := bs_at hj12
      refine ⟨_, rfl, .inl ⟨rfl, _, SqL.of hk⟩, p7, _, _, j, .bl true, rfl, rfl, SqL.of hk, rfl, rfl, b1, rfl, b2, p10, _, _, _, rfl, rfl, SqL.of hp10, atI_nat (wordV hz), ?_⟩
      obtain ⟨w1, w2⟩ := word_out hj hz
      refine ⟨_, rfl, (by show 2 ≤ sizeLine; decide), fun p11 np11 => ?_⟩
      have u9 := sameUpd (o := .lst [.str "syntax", .str "check"]) (Same.refl H10) np11
      have hp11 := @upd_same H10 p11 (.lst [.str "syntax", .str "check"])
      replace s1 := s1.trans u9
      generalize upd H10 p11 (.lst [.str "syntax", .str "check"]) = H11 at *
      refine ⟨p11, _, rfl, .inl (SqL.of hp11), rfl, rfl, false, congrArg V.bl w1, iteF ?_⟩
      refine ⟨_, rfl, _, rfl, (by show 2 ≤ sizeLine; decide), fun p12 np12 => ?_⟩
      have u10 := sameUpd (o := .lst [.str "code", .str "operation"]) (Same.refl H11) np12
      have hp12 := @upd_same H11 p12 (.lst [.str "code", .str "operation"])
      replace s1 := s1.trans u10
      generalize upd H11 p12 (.lst [.str "code", .str "operation"]) = H12 at *
      refine ⟨p12, _, rfl, .inl (SqL.of hp12), rfl, rfl, false, congrArg V.bl w2, iteF ?_⟩
      exact ⟨(by show 2 ≤ sizeLine; decide), fun t nt => kq t _ (s1.trans (sameUpd (Same.refl _) nt)) upd_same⟩
end
end Sw

end

section
set_option maxRecDepth 100000
set_option maxHeartbeats 4000000
/-! the law's own: the error of a call, with what the error tells: its place -/
namespace SwA
open PySem PySem.Spec PyProof.Rows L2
def XDat (d : Option Addr) (H : Hp) : Prop := d = none ∨ ∃ (dd : Addr) (fs : List (Str × V)), d = some dd ∧ H dd = some (.xd fs)
theorem XDat.same {d : Option Addr} {H H' : Hp} (h : XDat d H) (s : Same H H') : XDat d H' := h.elim .inl fun ⟨dd, fs, e, q⟩ => .inr ⟨dd, fs, e, s _ _ q⟩
def rIsEy (K : PySem.W.Frag) (cls : Value) (d : Option Addr) (a : Addr) : List V → Hp → VK → Prop := fun xs H Q => ∃ (D : Addr) (c : V) (cv : Value) (b : Bool), cls = .ref D ∧ XDat d H ∧ L2.ExcC K D ∧ xs = [.ref a, c] ∧ (∀ u, RelV c u → u = cv) ∧ PySem.W.kitOne K (.ref D) cv = some b ∧ Q (.bl b) H
theorem call_isEy {X : Cx} {a : Addr} {cls : Value} {d : Option Addr} {oe : Obj} {pn : List (Addr × Obj)} (hz : Zc cls d oe) (hf : ∃ vs, oe.data = .fields vs) : CallR (X.suite a ((a, oe) :: pn)) (.builtin "isinstance") (rIsEy X.K cls d a) := by
  intro pins s σ H xs us Q I r h
  obtain ⟨D, c, cv, b, rfl, hx, C, h⟩ := h
  rcases hx with rfl | ⟨dd, fs, rfl, hdd⟩
  · exact call_isE C hz hf pins s σ H xs us Q I r ⟨c, cv, b, h⟩
  obtain ⟨rfl, hcv, e, q⟩ := h
  obtain ⟨u1, rest, rfl, r1, r2⟩ : ∃ u1 rest, us = u1 :: rest ∧ RelV (.ref a) u1 ∧ Vals [c] rest := by
    cases r with
    | cons rx rr => exact ⟨_, _, rfl, rx, rr⟩
  obtain ⟨u2, rfl, r3⟩ := r2.one
  cases r1
  obtain rfl := hcv _ r3
  have hget := (I.pin (a, oe) (List.mem_append_left _ List.mem_cons_self)).1
  obtain ⟨vs, hv⟩ := hf
  have hok : ObjOk X.prog X.w H s.heap dd (.xd fs) := I.hok dd _ hdd
  obtain ⟨mA, hns, _⟩ := hok
  obtain ⟨od, ho, _⟩ := lookIn_ns hns
  have J : PySem.W.InstAt s.heap a oe D (some od) := ⟨hget, hz.1, by unfold PySem.W.notCls; rw [hv] <;> rfl, by rw [hz.2]; exact ho⟩
  obtain ⟨cd, hcd, _⟩ := PySem.W.any_some C.hd
  have hcl : (PySem.W.clsIn X.K D).isSome = true := by rw [hcd]; rfl
  exact PySem.W.kia_one (PySem.W.kitx_exc hcl C.hg C.hk C.hs C.ha C.hn C.ht C.hm) I.kIn J e (fun z => nomatch z) fun tk => ⟨.bl b, H, I.kept (t' := tk) fun _ _ z => z, rfl, q⟩
/-- a field of the exception that the suite holds in a name; its class is told by the promise -/
def tXfy (K : PySem.W.Frag) (a : Addr) (cls : Value) (d : Option Addr) (i : Nat) (n : Str) : TE := fun σ H Q => ∃ C : Addr, XfC K C ∧ PySem.W.findIn K (.ref C) n = some none ∧ tXf a cls d C n (tVar i) σ H Q
theorem pe_xfy {X : Cx} {a : Addr} {oe : Obj} {cls : Value} {d : Option Addr} {pn : List (Addr × Obj)} {e : Expr} {pos : Pos} {n : Str} {i : Nat} (hz : Zc cls d oe) (hf : ∃ vs, oe.data = .fields vs) (he : PE (X.suite a ((a, oe) :: pn)) e (tVar i)) (hb : attributeBase e n X.env (eval e X.env) = eval e X.env := by rfl) :
    PE (X.suite a ((a, oe) :: pn)) (.Attribute e n pos) (tXfy X.K a cls d i n) :=
  ⟨fun pins s σ H Q I ⟨_, T, hno, h⟩ => (pe_xf T hno hz hf he hb).run pins s σ H Q I h⟩
end SwA
namespace Sw
open PySem PySem.Spec PyProof.Rows L2 SwA
/-- an error, told by the law, with what it tells -/
def ErrX (K : PySem.W.Frag) (cls : Value) (d : Option Addr) (H : Hp) (Q : VK) : Prop := ∃ (D : Str) (j : Nat) (z : Str), cls = .ref (He.ga K D) ∧ EKind K D j ∧ wordN[j]? = some z ∧
  ((j < 8 ∧ d = none ∧ ∀ (t : Addr) (H' : Hp), Same H H' → H' t = some (.tup [.str z, .int 0]) → Q (.ref t) H') ∨
   ((j = 10 ∨ j = 11) ∧ XfC K (He.ga K D) ∧ PySem.W.findIn K (.ref (He.ga K D)) "place" = some none ∧ ∃ (dd : Addr) (fs : List (Str × V)) (i : Int), d = some dd ∧ H dd = some (.xd fs) ∧ List.lookup ("place" : Str) fs = some (V.int i) ∧ ∀ (t : Addr) (H' : Hp), Same H H' → H' t = some (.tup [.str z, .int i]) → Q (.ref t) H') ∨
   (j = 8 ∧ XfC K (He.ga K D) ∧ PySem.W.findIn K (.ref (He.ga K D)) "line" = some none ∧ PySem.W.findIn K (.ref (He.ga K D)) "column" = some none ∧ ∃ (dd : Addr) (fs : List (Str × V)) (l c : Int), d = some dd ∧ H dd = some (.xd fs) ∧ List.lookup ("line" : Str) fs = some (V.int l) ∧ List.lookup ("column" : Str) fs = some (V.int c) ∧
     ∀ (t t2 : Addr) (H' : Hp), Same H H' → H' t2 = some (.tup [.int l, .int c]) → H' t = some (.tup [.str z, .ref t2]) → Q (.ref t) H'))
def spEofX (P : Program) (w : World) (K : PySem.W.Frag) (mg : Str → Option Value) (n : Nat) (base : Heap) : Sp := fun vs H Q _ => ∃ (f : Addr) (G : Hp → Prop) (sp : Sp), vs = [.ref f] ∧ VOk P w K mg base (L2.CX P w) n f G sp ∧ G H ∧ sp [] H (fun _ H' => Q .non H') (fun cls d H' => ErrX K cls d H' Q)
section
variable {P : Program} {w : World} {K : PySem.W.Frag} {mg : Str → Option Value} {base : Heap}
theorem ok_eofX (T : EofT K mg) (n : Nat) : FnE P w K mg base CX0 (n + 1) ("_law_error_of", none) ["_law_call"] (spEofX P w K mg n base) := by
  obtain ⟨fd, F⟩ := T.d.d
  refine ⟨fd, F.ok sc_eof (fun vs H Q E h => ?_) (fun cdv A outer s H vs Q E hr h => ?_), F.bindsN fun _ _ _ _ _ _ us hl => match us, hl with | [_], _ => rfl, F.kp⟩
  · obtain ⟨f, G, sp, rfl, _⟩ := h
    rfl
  · obtain ⟨f, G, sp, rfl, hVo, hG, hsp⟩ := h
    have hu3 : (eoX P w K mg base cdv A outer s H E).A.units + 3 < cLine := by
      have := hr.un
      show (A.deeper (envOfC "_law_error_of" (defScope s__law_error_of) s.heap.objs.size (He.fAd K ("_law_error_of", none)) cdv)).units + 3 < cLine
      omega
    refine ⟨_, PSs.nox (pss_cons (ps_try_asL (X := eoX P w K mg base cdv A outer s H E) (i := 1) (c := .ref (He.ga K "SweepError")) (ts := ?ts)
        (tb := fun W D σ H => ∃ Ech : XK, (∀ cls d σ' H', Ech cls d H' → W cls d σ' H') ∧ σ[0]? = some (some (.ref f)) ∧ G H ∧ sp [] H (fun _ H' => D.nx σ H') Ech)
        5 rfl rfl rfl sc_eof.nd rfl rfl ⟨rfl, by decide, .inl T.sw⟩ takes0 ?bo ?su)
      (pss_one (ps_ret pe_non))), ?fin⟩
    case su =>
      intro a oe cls d pn hz hf
      have su : PSs ((eoX P w K mg base cdv A outer s H E).suite a ((a, oe) :: pn)) (hdB (defBody s__law_error_of)) _ := (pss_cons (ps_set (i := 2) sc_eof.nd rfl (.inl rfl) (pe_lst (pa_cons (pe_callB (call_isEy (X := eoX P w K mg base cdv A outer s H E) hz hf) (by rfl) T.isinstance (by decide +kernel) (pa_cons (pv 1) (pa_cons (pe_glob (v := .ref (He.ga K "InvalidTick")) (by rfl) (T.g "InvalidTick" (by decide +kernel)) rfl) pa_nil))) (pa_cons (pe_callB (call_isEy (X := eoX P w K mg base cdv A outer s H E) hz hf) (by rfl) T.isinstance (by decide +kernel) (pa_cons (pv 1) (pa_cons (pe_glob (v := .ref (He.ga K "InvalidNumber")) (by rfl) (T.g "InvalidNumber" (by decide +kernel)) rfl) pa_nil))) (pa_cons (pe_callB (call_isEy (X := eoX P w K mg base cdv A outer s H E) hz hf) (by rfl) T.isinstance (by decide +kernel) (pa_cons (pv 1) (pa_cons (pe_glob (v := .ref (He.ga K "UnknownSign")) (by rfl) (T.g "UnknownSign" (by decide +kernel)) rfl) pa_nil))) pa_nil)))))
        (pss_cons (ps_set (i := 2) sc_eof.nd rfl (.inl rfl) (pe_op op_cat (pv 2) (pe_lst (pa_cons (pe_callB (call_isEy (X := eoX P w K mg base cdv A outer s H E) hz hf) (by rfl) T.isinstance (by decide +kernel) (pa_cons (pv 1) (pa_cons (pe_glob (v := .ref (He.ga K "TooLong")) (by rfl) (T.g "TooLong" (by decide +kernel)) rfl) pa_nil))) (pa_cons (pe_callB (call_isEy (X := eoX P w K mg base cdv A outer s H E) hz hf) (by rfl) T.isinstance (by decide +kernel) (pa_cons (pv 1) (pa_cons (pe_glob (v := .ref (He.ga K "OtherCorridor")) (by rfl) (T.g "OtherCorridor" (by decide +kernel)) rfl) pa_nil))) (pa_cons (pe_callB (call_isEy (X := eoX P w K mg base cdv A outer s H E) hz hf) (by rfl) T.isinstance (by decide +kernel) (pa_cons (pv 1) (pa_cons (pe_glob (v := .ref (He.ga K "Contradiction")) (by rfl) (T.g "Contradiction" (by decide +kernel)) rfl) pa_nil))) pa_nil))))))
        (pss_cons (ps_set (i := 2) sc_eof.nd rfl (.inl rfl) (pe_op op_cat (pv 2) (pe_lst (pa_cons (pe_callB (call_isEy (X := eoX P w K mg base cdv A outer s H E) hz hf) (by rfl) T.isinstance (by decide +kernel) (pa_cons (pv 1) (pa_cons (pe_glob (v := .ref (He.ga K "InvalidName")) (by rfl) (T.g "InvalidName" (by decide +kernel)) rfl) pa_nil))) (pa_cons (pe_callB (call_isEy (X := eoX P w K mg base cdv A outer s H E) hz hf) (by rfl) T.isinstance (by decide +kernel) (pa_cons (pv 1) (pa_cons (pe_glob (v := .ref (He.ga K "UnknownName")) (by rfl) (T.g "UnknownName" (by decide +kernel)) rfl) pa_nil))) (pa_cons (pe_callB (call_isEy (X := eoX P w K mg base cdv A outer s H E) hz hf) (by rfl) T.isinstance (by decide +kernel) (pa_cons (pv 1) (pa_cons (pe_glob (v := .ref (He.ga K "SyntaxFault")) (by rfl) (T.g "SyntaxFault" (by decide +kernel)) rfl) pa_nil))) pa_nil))))))
        (pss_cons (ps_set (i := 2) sc_eof.nd rfl (.inl rfl) (pe_op op_cat (pv 2) (pe_lst (pa_cons (pe_callB (call_isEy (X := eoX P w K mg base cdv A outer s H E) hz hf) (by rfl) T.isinstance (by decide +kernel) (pa_cons (pv 1) (pa_cons (pe_glob (v := .ref (He.ga K "CheckFault")) (by rfl) (T.g "CheckFault" (by decide +kernel)) rfl) pa_nil))) (pa_cons (pe_callB (call_isEy (X := eoX P w K mg base cdv A outer s H E) hz hf) (by rfl) T.isinstance (by decide +kernel) (pa_cons (pv 1) (pa_cons (pe_glob (v := .ref (He.ga K "InvalidCode")) (by rfl) (T.g "InvalidCode" (by decide +kernel)) rfl) pa_nil))) (pa_cons (pe_callB (call_isEy (X := eoX P w K mg base cdv A outer s H E) hz hf) (by rfl) T.isinstance (by decide +kernel) (pa_cons (pv 1) (pa_cons (pe_glob (v := .ref (He.ga K "InvalidOperation")) (by rfl) (T.g "InvalidOperation" (by decide +kernel)) rfl) pa_nil))) pa_nil))))))
        (pss_cons (ps_if (PW.pt (pw_or (pt_cmpR op_ne (pe_bm PySem.F.plainAttrs_list PySem.F.slot_list_count PySem.F.type_list_count (mt_bcount (X := (eoX P w K mg base cdv A outer s H E).suite a ((a, oe) :: pn)) hu3) (pv 2) (pa_cons pe_bl pa_nil)) pe_int (nomark _)) (pw_or1 (pt_not (pt_val (pe_callB (call_isEy (X := eoX P w K mg base cdv A outer s H E) hz hf) (by rfl) T.isinstance (by decide +kernel) (pa_cons (pv 1) (pa_cons (pe_bltn (v := .ty "ValueError") (by rfl) T.VE (by decide +kernel) rfl) pa_nil))))))))
          (pss_one (ps_ret (pe_tup (pa_cons pe_str (pa_cons pe_int pa_nil))))) pss_nil)
        (pss_cons (ps_set (i := 3) sc_eof.nd rfl (.inl rfl) (pe_lst (pa_cons pe_str (pa_cons pe_str (pa_cons pe_str (pa_cons pe_str (pa_cons pe_str (pa_cons pe_str (pa_cons pe_str (pa_cons pe_str (pa_cons pe_str (pa_cons pe_str pa_nil))))))))))))
        (pss_cons (ps_set (i := 4) sc_eof.nd rfl (.inl rfl) (pe_ix ix_list (pe_op op_cat (pv 3) (pe_lst (pa_cons pe_str (pa_cons pe_str pa_nil)))) (pe_bm PySem.F.plainAttrs_list PySem.F.slot_list_index PySem.F.type_list_index mt_index (pv 2) (pa_cons pe_bl pa_nil)) (fun _ _ => rfl)))
        (pss_cons (ps_if (pt_cmpR op_in_seq (pv 4) (pe_lst (pa_cons pe_str (pa_cons pe_str pa_nil))) (by rfl))
          (pss_one (ps_ret (pe_tup (pa_cons (pv 4) (pa_cons (pe_ifExp (pt_cmpR op_eq (pv 4) pe_str (nomark _)) (pe_tup (pa_cons (pe_xfy (X := eoX P w K mg base cdv A outer s H E) (n := "line") hz hf (pv 1)) (pa_cons (pe_xfy (X := eoX P w K mg base cdv A outer s H E) (n := "column") hz hf (pv 1)) pa_nil))) pe_no) pa_nil))))) pss_nil)
        (pss_one (ps_ret (pe_tup (pa_cons (pv 4) (pa_cons (pe_ifExp (pt_cmpR op_in_seq (pv 4) (pe_lst (pa_cons pe_str (pa_cons pe_str pa_nil))) (by rfl)) (pe_xfy (X := eoX P w K mg base cdv A outer s H E) (n := "place") hz hf (pv 1)) pe_int) pa_nil)))))))))))))
      have hK : ((eoX P w K mg base cdv A outer s H E).suite a ((a, oe) :: pn)).K = K := rfl
      rw [hK] at su
      exact su
    case bo =>
      intro W pn xe tk _
      refine ⟨fun pins s' σ H' D I h' => ?_⟩
      obtain ⟨Ech, hW, h1, h2, h3⟩ := h'
      exact (pss_one (ps_expr (pe_callVal0 (X := (eoX P w K mg base cdv A outer s H E).tr pn xe) (i := 0) hVo hr (passes_call tk hW) rfl (.inl rfl)))).run pins s' σ H' D I ⟨h1, h2, h3⟩
    case fin =>
      refine ⟨fun cls d H' => ErrX K cls d H' Q, fun cls d σ' H' hE => ?_, rfl, hG, hsp⟩
      obtain ⟨D, j, z, rfl, ek, hz, hcs⟩ := hE
      have xd : XDat d H' := by
        rcases hcs with ⟨_, e, _⟩ | ⟨_, _, _, dd, fs, _, e, q, _⟩ | ⟨_, _, _, _, dd, fs, _, _, e, q, _⟩
        · exact .inl e
        · exact .inr ⟨dd, fs, e, q⟩
        · exact .inr ⟨dd, fs, e, q⟩
      have hj12 : j < 12 := (List.getElem?_eq_some_iff.mp hz).1
      refine ⟨true, ek.exm, fun _ a na hl => ?_, fun z => nomatch z⟩
      obtain ⟨x0, x1, x2, x3, x4, rfl⟩ : ∃ x0 x1 x2 x3 x4, σ' = [x0, x1, x2, x3, x4] := by
        have hl : (σ'.set 1 (some (.ref a))).length = 5 := hl
        rw [List.length_set] at hl
        match σ', hl with
        | [x0, x1, x2, x3, x4], _ => exact ⟨x0, x1, x2, x3, x4, rfl⟩
      clear hl
      refine ⟨_, rfl, He.ga K D, _, _, decide (0 = j), rfl, xd, ek.ex, rfl, (fun _ h => h), ek.kd ("InvalidTick", 0) (by decide +kernel), _, rfl, He.ga K D, _, _, decide (1 = j), rfl, xd, ek.ex, rfl, (fun _ h => h), ek.kd ("InvalidNumber", 1) (by decide +kernel), _, rfl, He.ga K D, _, _, decide (2 = j), rfl, xd, ek.ex, rfl, (fun _ h => h), ek.kd ("UnknownSign", 2) (by decide +kernel), (by show 3 ≤ sizeLine; decide), fun p1 np1 => ?_⟩
      have s1 := sameUpd (o := .lst [.bl (decide (0 = j)), .bl (decide (1 = j)), .bl (decide (2 = j))]) (Same.refl H') np1
      have hp1 := @upd_same H' p1 (.lst [.bl (decide (0 = j)), .bl (decide (1 = j)), .bl (decide (2 = j))])
      generalize upd H' p1 (.lst [.bl (decide (0 = j)), .bl (decide (1 = j)), .bl (decide (2 = j))]) = H1 at *
      refine ⟨_, rfl, _, rfl, He.ga K D, _, _, decide (3 = j), rfl, xd.same s1, ek.ex, rfl, (fun _ h => h), ek.kd ("TooLong", 3) (by decide +kernel), _, rfl, He.ga K D, _, _, decide (4 = j), rfl, xd.same s1, ek.ex, rfl, (fun _ h => h), ek.kd ("OtherCorridor", 4) (by decide +kernel), _, rfl, He.ga K D, _, _, decide (5 = j), rfl, xd.same s1, ek.ex, rfl, (fun _ h => h), ek.kd ("Contradiction", 5) (by decide +kernel), (by show 3 ≤ sizeLine; decide), fun p2 np2 => ?_⟩
      have u0 := sameUpd (o := .lst [.bl (decide (3 = j)), .bl (decide (4 = j)), .bl (decide (5 = j))]) (Same.refl H1) np2
      have hp2 := @upd_same H1 p2 (.lst [.bl (decide (3 = j)), .bl (decide (4 = j)), .bl (decide (5 = j))])
      replace hp1 := u0 _ _ hp1
      replace s1 := s1.trans u0
      generalize upd H1 p2 (.lst [.bl (decide (3 = j)), .bl (decide (4 = j)), .bl (decide (5 = j))]) = H2 at *
      refine ⟨p1, p2, _, _, rfl, rfl, hp1, hp2, (by show 6 ≤ sizeLine; decide), fun p3 np3 => ?_⟩
      have u1 := sameUpd (o := .lst ([.bl (decide (0 = j)), .bl (decide (1 = j)), .bl (decide (2 = j))] ++ [.bl (decide (3 = j)), .bl (decide (4 = j)), .bl (decide (5 = j))])) (Same.refl H2) np3
      have hp3 := @upd_same H2 p3 (.lst ([.bl (decide (0 = j)), .bl (decide (1 = j)), .bl (decide (2 = j))] ++ [.bl (decide (3 = j)), .bl (decide (4 = j)), .bl (decide (5 = j))]))
      replace s1 := s1.trans u1
      generalize upd H2 p3 (.lst ([.bl (decide (0 = j)), .bl (decide (1 = j)), .bl (decide (2 = j))] ++ [.bl (decide (3 = j)), .bl (decide (4 = j)), .bl (decide (5 = j))])) = H3 at *
      refine ⟨_, rfl, _, rfl, He.ga K D, _, _, decide (6 = j), rfl, xd.same s1, ek.ex, rfl, (fun _ h => h), ek.kd ("InvalidName", 6) (by decide +kernel), _, rfl, He.ga K D, _, _, decide (7 = j), rfl, xd.same s1, ek.ex, rfl, (fun _ h => h), ek.kd ("UnknownName", 7) (by decide +kernel), _, rfl, He.ga K D, _, _, decide (8 = j), rfl, xd.same s1, ek.ex, rfl, (fun _ h => h), ek.kd ("SyntaxFault", 8) (by decide +kernel), (by show 3 ≤ sizeLine; decide), fun p4 np4 => ?_⟩
      have u2 := sameUpd (o := .lst [.bl (decide (6 = j)), .bl (decide (7 = j)), .bl (decide (8 = j))]) (Same.refl H3) np4
      have hp4 := @upd_same H3 p4 (.lst [.bl (decide (6 = j)), .bl (decide (7 = j)), .bl (decide (8 = j))])
      replace hp3 := u2 _ _ hp3
      replace s1 := s1.trans u2
      generalize upd H3 p4 (.lst [.bl (decide (6 = j)), .bl (decide (7 = j)), .bl (decide (8 = j))]) = H4 at *
      refine ⟨p3, p4, _, _, rfl, rfl, hp3, hp4, (by show 9 ≤ sizeLine; decide), fun p5 np5 => ?_⟩
      have u3 := sameUpd (o := .lst (([.bl (decide (0 = j)), .bl (decide (1 = j)), .bl (decide (2 = j))] ++ [.bl (decide (3 = j)), .bl (decide (4 = j)), .bl (decide (5 = j))]) ++ [.bl (decide (6 = j)), .bl (decide (7 = j)), .bl (decide (8 = j))])) (Same.refl H4) np5
      have hp5 := @upd_same H4 p5 (.lst (([.bl (decide (0 = j)), .bl (decide (1 = j)), .bl (decide (2 = j))] ++ [.bl (decide (3 = j)), .bl (decide (4 = j)), .bl (decide (5 = j))]) ++ [.bl (decide (6 = j)), .bl (decide (7 = j)), .bl (decide (8 = j))]))
      replace s1 := s1.trans u3
      generalize upd H4 p5 (.lst (([.bl (decide (0 = j)), .bl (decide (1 = j)), .bl (decide (2 = j))] ++ [.bl (decide (3 = j)), .bl (decide (4 = j)), .bl (decide (5 = j))]) ++ [.bl (decide (6 = j)), .bl (decide (7 = j)), .bl (decide (8 = j))])) = H5 at *
      refine ⟨_, rfl, _, rfl, He.ga K D, _, _, decide (9 = j), rfl, xd.same s1, ek.ex, rfl, (fun _ h => h), ek.kd ("CheckFault", 9) (by decide +kernel), _, rfl, He.ga K D, _, _, decide (10 = j), rfl, xd.same s1, ek.ex, rfl, (fun _ h => h), ek.kd ("InvalidCode", 10) (by decide +kernel), _, rfl, He.ga K D, _, _, decide (11 = j), rfl, xd.same s1, ek.ex, rfl, (fun _ h => h), ek.kd ("InvalidOperation", 11) (by decide +kernel), (by show 3 ≤ sizeLine; decide), fun p6 np6 => ?_⟩
      have u4 := sameUpd (o := .lst [.bl (decide (9 = j)), .bl (decide (10 = j)), .bl (decide (11 = j))]) (Same.refl H5) np6
      have hp6 := @upd_same H5 p6 (.lst [.bl (decide (9 = j)), .bl (decide (10 = j)), .bl (decide (11 = j))])
      replace hp5 := u4 _ _ hp5
      replace s1 := s1.trans u4
      generalize upd H5 p6 (.lst [.bl (decide (9 = j)), .bl (decide (10 = j)), .bl (decide (11 = j))]) = H6 at *
      refine ⟨p5, p6, _, _, rfl, rfl, hp5, hp6, (by show 12 ≤ sizeLine; decide), fun p7 np7 => ?_⟩
      have u5 := sameUpd (o := .lst ((([.bl (decide (0 = j)), .bl (decide (1 = j)), .bl (decide (2 = j))] ++ [.bl (decide (3 = j)), .bl (decide (4 = j)), .bl (decide (5 = j))]) ++ [.bl (decide (6 = j)), .bl (decide (7 = j)), .bl (decide (8 = j))]) ++ [.bl (decide (9 = j)), .bl (decide (10 = j)), .bl (decide (11 = j))])) (Same.refl H6) np7
      have hp7 := @upd_same H6 p7 (.lst ((([.bl (decide (0 = j)), .bl (decide (1 = j)), .bl (decide (2 = j))] ++ [.bl (decide (3 = j)), .bl (decide (4 = j)), .bl (decide (5 = j))]) ++ [.bl (decide (6 = j)), .bl (decide (7 = j)), .bl (decide (8 = j))]) ++ [.bl (decide (9 = j)), .bl (decide (10 = j)), .bl (decide (11 = j))]))
      replace s1 := s1.trans u5
      generalize upd H6 p7 (.lst ((([.bl (decide (0 = j)), .bl (decide (1 = j)), .bl (decide (2 = j))] ++ [.bl (decide (3 = j)), .bl (decide (4 = j)), .bl (decide (5 = j))]) ++ [.bl (decide (6 = j)), .bl (decide (7 = j)), .bl (decide (8 = j))]) ++ [.bl (decide (9 = j)), .bl (decide (10 = j)), .bl (decide (11 = j))])) = H7 at *
      have hk : H7 p7 = some (.lst ((bsJ j).map V.bl)) := hp7
      refine ⟨_, rfl, .inl ⟨rfl, _, SqL.of hk⟩, p7, bsJ j, rfl, rfl, SqL.of hk, ?_⟩
      rw [bs_count hj12]
      refine ⟨rfl, false, rfl, iteF ?_⟩
      refine ⟨_, rfl, He.ga K D, _, _, true, rfl, xd.same s1, ek.ex, rfl, (fun _ h => h), ek.ve, _, rfl, ?_⟩
      refine ⟨(by show 10 ≤ sizeLine; decide), fun p8 np8 => ?_⟩
      have u6 := sameUpd (o := .lst [.str "tick", .str "number", .str "sign", .str "long", .str "other", .str "contradiction", .str "name", .str "unknown", .str "syntax", .str "check"]) (Same.refl H7) np8
      have hp8 := @upd_same H7 p8 (.lst [.str "tick", .str "number", .str "sign", .str "long", .str "other", .str "contradiction", .str "name", .str "unknown", .str "syntax", .str "check"])
      replace hk := u6 _ _ hk
      replace s1 := s1.trans u6
      generalize upd H7 p8 (.lst [.str "tick", .str "number", .str "sign", .str "long", .str "other", .str "contradiction", .str "name", .str "unknown", .str "syntax", .str "check"]) = H8 at *
      refine ⟨_, rfl, (by show 2 ≤ sizeLine; decide), fun p9 np9 => ?_⟩
      have u7 := sameUpd (o := .lst [.str "code", .str "operation"]) (Same.refl H8) np9
      have hp9 := @upd_same H8 p9 (.lst [.str "code", .str "operation"])
      replace hk := u7 _ _ hk
      replace hp8 := u7 _ _ hp8
      replace s1 := s1.trans u7
      generalize upd H8 p9 (.lst [.str "code", .str "operation"]) = H9 at *
      refine ⟨p8, p9, _, _, rfl, rfl, hp8, hp9, (by show 12 ≤ sizeLine; decide), fun p10 np10 => ?_⟩
      have u8 := sameUpd (o := .lst ([.str "tick", .str "number", .str "sign", .str "long", .str "other", .str "contradiction", .str "name", .str "unknown", .str "syntax", .str "check"] ++ [.str "code", .str "operation"])) (Same.refl H9) np10
      have hp10 := @upd_same H9 p10 (.lst ([.str "tick", .str "number", .str "sign", .str "long", .str "other", .str "contradiction", .str "name", .str "unknown", .str "syntax", .str "check"] ++ [.str "code", .str "operation"]))
      replace hk := u8 _ _ hk
      replace s1 := s1.trans u8
      generalize upd H9 p10 (.lst ([.str "tick", .str "number", .str "sign", .str "long", .str "other", .str "contradiction", .str "name", .str "unknown", .str "syntax", .str "check"] ++ [.str "code", .str "operation"])) = H10 at *
      obtain ⟨b1, b2⟩ := bs_at hj12
      refine ⟨_, rfl, .inl ⟨rfl, _, SqL.of hk⟩, p7, _, _, j, .bl true, rfl, rfl, SqL.of hk, rfl, rfl, b1, rfl, b2, p10, _, _, _, rfl, rfl, SqL.of hp10, atI_nat (wordV hz), ?_⟩
      rcases hcs with ⟨hj, rfl, kq⟩ | ⟨hj, hxf, hno, dd, fs, ip, rfl, hdd, hlk, kq⟩ | ⟨rfl, hxf, hno1, hno2, dd, fs, il, ic, rfl, hdd, hl1, hl2, kq⟩
      · obtain ⟨w1, w2⟩ := word_out hj hz
        refine ⟨_, rfl, (by show 2 ≤ sizeLine; decide), fun p11 np11 => ?_⟩
        have u9 := sameUpd (o := .lst [.str "syntax", .str "check"]) (Same.refl H10) np11
        have hp11 := @upd_same H10 p11 (.lst [.str "syntax", .str "check"])
        replace s1 := s1.trans u9
        generalize upd H10 p11 (.lst [.str "syntax", .str "check"]) = H11 at *
        refine ⟨p11, _, rfl, .inl (SqL.of hp11), rfl, rfl, false, congrArg V.bl w1, iteF ?_⟩
        refine ⟨_, rfl, _, rfl, (by show 2 ≤ sizeLine; decide), fun p12 np12 => ?_⟩
        have u10 := sameUpd (o := .lst [.str "code", .str "operation"]) (Same.refl H11) np12
        have hp12 := @upd_same H11 p12 (.lst [.str "code", .str "operation"])
        replace s1 := s1.trans u10
        generalize upd H11 p12 (.lst [.str "code", .str "operation"]) = H12 at *
        refine ⟨p12, _, rfl, .inl (SqL.of hp12), rfl, rfl, false, congrArg V.bl w2, iteF ?_⟩
        exact ⟨(by show 2 ≤ sizeLine; decide), fun t nt => kq t _ (s1.trans (sameUpd (Same.refl _) nt)) upd_same⟩
      · have hw : inV (.str z) [.str "syntax", .str "check"] = false ∧ inV (.str z) [.str "code", .str "operation"] = true := by
          rcases hj with rfl | rfl <;> (cases hz; exact ⟨by decide +kernel, by decide +kernel⟩)
        obtain ⟨w1, w2⟩ := hw
        refine ⟨_, rfl, (by show 2 ≤ sizeLine; decide), fun p11 np11 => ?_⟩
        have u9 := sameUpd (o := .lst [.str "syntax", .str "check"]) (Same.refl H10) np11
        have hp11 := @upd_same H10 p11 (.lst [.str "syntax", .str "check"])
        replace s1 := s1.trans u9
        generalize upd H10 p11 (.lst [.str "syntax", .str "check"]) = H11 at *
        refine ⟨p11, _, rfl, .inl (SqL.of hp11), rfl, rfl, false, congrArg V.bl w1, iteF ?_⟩
        refine ⟨_, rfl, _, rfl, (by show 2 ≤ sizeLine; decide), fun p12 np12 => ?_⟩
        have u10 := sameUpd (o := .lst [.str "code", .str "operation"]) (Same.refl H11) np12
        have hp12 := @upd_same H11 p12 (.lst [.str "code", .str "operation"])
        replace s1 := s1.trans u10
        generalize upd H11 p12 (.lst [.str "code", .str "operation"]) = H12 at *
        refine ⟨p12, _, rfl, .inl (SqL.of hp12), rfl, rfl, true, congrArg V.bl w2, iteT ?_⟩
        refine ⟨He.ga K D, hxf, hno, _, rfl, rfl, rfl, dd, fs, .int ip, rfl, s1 _ _ hdd, hlk, ?_⟩
        exact ⟨(by show 2 ≤ sizeLine; decide), fun t nt => kq t _ (s1.trans (sameUpd (Same.refl _) nt)) upd_same⟩
      · have hw : inV (.str z) [.str "syntax", .str "check"] = true := by
          cases hz
          decide +kernel
        refine ⟨_, rfl, (by show 2 ≤ sizeLine; decide), fun p11 np11 => ?_⟩
        have u9 := sameUpd (o := .lst [.str "syntax", .str "check"]) (Same.refl H10) np11
        have hp11 := @upd_same H10 p11 (.lst [.str "syntax", .str "check"])
        replace s1 := s1.trans u9
        generalize upd H10 p11 (.lst [.str "syntax", .str "check"]) = H11 at *
        refine ⟨p11, _, rfl, .inl (SqL.of hp11), rfl, rfl, true, congrArg V.bl hw, iteT ?_⟩
        have ez : z = "syntax" := by
          cases hz
          rfl
        refine ⟨_, rfl, _, rfl, rfl, _, rfl, ?_⟩
        rw [decide_eq_true (show V.str z = V.str "syntax" by rw [ez])]
        refine iteT ⟨He.ga K D, hxf, hno1, _, rfl, rfl, rfl, dd, fs, .int il, rfl, s1 _ _ hdd, hl1, He.ga K D, hxf, hno2, _, rfl, rfl, rfl, dd, fs, .int ic, rfl, s1 _ _ hdd, hl2, (by show 2 ≤ sizeLine; decide), fun t2 nt2 => ?_⟩
        have u10 := sameUpd (o := .tup [.int il, .int ic]) (Same.refl H11) nt2
        have ht2 := @upd_same H11 t2 (.tup [.int il, .int ic])
        replace s1 := s1.trans u10
        generalize upd H11 t2 (.tup [.int il, .int ic]) = H12 at *
        exact ⟨(by show 2 ≤ sizeLine; decide), fun t nt => kq t t2 _ (s1.trans (sameUpd (Same.refl _) nt)) (sameUpd (Same.refl _) nt _ _ ht2) upd_same⟩
end
end Sw

end

section
set_option maxRecDepth 100000
set_option maxHeartbeats 4000000
/-! the law's own: all calls raise the expected error -/
namespace Sw
open PySem PySem.Spec PyProof.Rows L2 SwA
structure AarT (K : PySem.W.Frag) (mg : Str → Option Value) : Prop where
  e : EofT K mg
  aar : DeT K mg "_law_all_raise" s__law_all_raise
/-- empty lists stand -/
def KpE (H H' : Hp) : Prop := ∀ D, H D = some (.lst []) → H' D = some (.lst [])
theorem KpE.same {H H' : Hp} (s : Same H H') : KpE H H' := fun D e => s D _ e
/-- the call f raises the error z, wherever R holds; empty lists stand -/
def RaisesV (P : Program) (w : World) (K : PySem.W.Frag) (mg : Str → Option Value) (n : Nat) (base : Heap) (R : Hp → Prop) (z : Str) (f : Addr) : Prop := ∃ (G : Hp → Prop) (sp : Sp), VOk P w K mg base (L2.CX P w) n f G sp ∧ ∀ H1, R H1 → G H1 ∧
  ∀ (Q : VK) (E : XK), (∀ (D : Str) (j : Nat) (H2 : Hp), EKind K D j → j < 8 → wordN[j]? = some z → R H2 → KpE H1 H2 → E (.ref (He.ga K D)) none H2) → sp [] H1 Q E
def spAllR (P : Program) (w : World) (K : PySem.W.Frag) (mg : Str → Option Value) (n : Nat) (base : Heap) : Sp := fun vs H Q _ => ∃ (l ex : Addr) (R : Hp → Prop) (fs : List Addr) (z : Str), vs = [.ref l, .ref ex] ∧ R H ∧ (∀ H1 H2, R H1 → Same H1 H2 → R H2) ∧
  (∀ H1, R H1 → H1 l = some (.lst (fs.map V.ref)) ∧ H1 ex = some (.tup [.str z, .int 0])) ∧ z.cps.all (· < 0x110000) = true ∧ (∀ f ∈ fs, RaisesV P w K mg n base R z f) ∧ ∀ H', R H' → Q (.bl true) H'
section
variable {P : Program} {w : World} {K : PySem.W.Frag} {mg : Str → Option Value} {base : Heap}
theorem shd_er {z : Str} (h : z.cps.all (· < 0x110000) = true) : ShD 2 (.tuple [.str z, .int 0]) := shd_tuple fun d hd => by
  simp only [List.mem_cons, List.not_mem_nil, or_false] at hd
  rcases hd with rfl | rfl
  · exact shd_str h
  · exact shd_int _
abbrev aaN : List Str := ["_law_calls", "_law_expected", "_law_call"]
theorem sc_aar : FnScope aaN ["_law_calls", "_law_expected"] (defScope s__law_all_raise) := ⟨rfl, rfl, rfl, by decide +kernel, rfl, by decide +kernel, by decide +kernel⟩
theorem ok_aar (T : AarT K mg) (n : Nat) : FnE P w K mg base CX0 (n + 2) ("_law_all_raise", none) ["_law_calls", "_law_expected"] (spAllR P w K mg n base) := by
  obtain ⟨fd, F⟩ := T.aar.d
  obtain ⟨fdEO, GEO, bEO, kEO⟩ := ok_eofV (P := P) (w := w) (base := base) T.e n
  refine ⟨fd, F.ok sc_aar (fun vs H Q E h => ?_) (fun cdv A outer s H vs Q E hr h => ?_), F.bindsN fun _ _ _ _ _ _ us hl => match us, hl with | [_, _], _ => rfl, F.kp⟩
  · obtain ⟨l, ex, R, fs, z, rfl, _⟩ := h
    rfl
  · obtain ⟨l, ex, R, fs, z, rfl, hR, hst, hRl, hz, hfs, k⟩ := h
    refine ⟨_, PSs.nox (pss_one (ps_ret (pe_cmpR (op_eqNil (hu0 hr)) (pe_lc (own := [("_law_call", 2)]) (g := (gName 2)) (tt := tTest (tOp (rNeD K) (tCall (spEof P w K mg n base) [] E0 (tCons (tVar 2) tNil)) (tVar 1))) (te := tVar 2) rfl sc_aar.nd (pi_list (pv 0)) (blkOk_by (own := [("_law_call", 2)]) (N := aaN) (sc := defScope s__law_all_raise) (by decide +kernel)) (fun _ _ _ _ _ => (pg_name (i := 2) sc_aar.nd rfl (.inl rfl))) (fun _ _ _ _ _ => (pts_one (pt_cmpR (op_neD hr.units) (pe_call GEO hr rfl T.e.d.g kEO bEO .nil pass0 (pa_cons (pv 2) pa_nil)) (pv 1) (nomark _)))) (fun _ _ _ _ _ => (pv 2))) (pe_lst pa_nil) (nomark _)))), ?_⟩
    refine ⟨_, rfl, l, rfl, ⟨_, SqL.of (hRl _ hR).1⟩, fun D nD => ?_⟩
    refine lc_list (K := K) (a := l) (xs := fs.map V.ref) (fun i Hy => R Hy ∧ Hy D = some (.lst [])) ⟨hst _ _ hR (sameUpd (Same.refl _) nD), upd_same⟩ (fun i Hy _ q => SqL.of (hRl _ q.1).1) ?_ ?_
    · rintro i x Hy hx ⟨hRy, hD⟩
      rw [List.getElem?_map] at hx
      obtain ⟨f, hf, rfl⟩ := Option.map_eq_some_iff.mp hx
      obtain ⟨G, sp, hVo, hth⟩ := hfs f (List.mem_of_getElem? hf)
      obtain ⟨hG, hsp⟩ := hth Hy hRy
      refine ⟨rfl, _, rfl, f, G, sp, rfl, hVo, hG, hsp _ _ fun D' j H2 ek hj hwz hR2 hk => ?_⟩
      have hD2 := hk D hD
      refine ⟨D', j, z, rfl, rfl, ek, hj, hwz, fun t H3 s3 ht => ?_⟩
      have hR3 := hst _ _ hR2 s3
      refine ⟨_, rfl, _, _, .tup (SqT.of ht) (.cons (.str _) (.cons (.int _) .nil)), .tup (SqT.of (hRl _ hR3).2) (.cons (.str _) (.cons (.int _) .nil)), (shd_er hz).shaped (by decide), (shd_er hz).shaped (by decide), _, rfl, ?_⟩
      rw [(shd_er hz).eqv]
      exact iteF ⟨hR3, s3 _ _ hD2⟩
    · rintro Hy ⟨hRy, hD⟩
      refine ⟨(by show 0 ≤ sizeLine; decide), fun el nel => ?_⟩
      have se := sameUpd (o := .lst []) (Same.refl Hy) nel
      exact ⟨D, el, _, rfl, rfl, SqL.of (se _ _ hD), SqL.of upd_same, k _ (hst _ _ hRy se)⟩
end
end Sw

end

section
set_option maxRecDepth 100000
set_option maxHeartbeats 4000000
/-! the law's own: all calls raise the expected error, with what it tells -/
namespace Sw
open PySem PySem.Spec PyProof.Rows L2 SwA
/-- the error z with what it tells -/
def ErrK (K : PySem.W.Frag) (cls : Value) (d : Option Addr) (H : Hp) (z : Str) (x : PyData) : Prop := ∃ (D : Str) (j : Nat), cls = .ref (He.ga K D) ∧ EKind K D j ∧ wordN[j]? = some z ∧
  ((j < 8 ∧ d = none ∧ x = .int 0) ∨
   ((j = 10 ∨ j = 11) ∧ XfC K (He.ga K D) ∧ PySem.W.findIn K (.ref (He.ga K D)) "place" = some none ∧ ∃ (dd : Addr) (fs : List (Str × V)) (i : Int), d = some dd ∧ H dd = some (.xd fs) ∧ List.lookup ("place" : Str) fs = some (V.int i) ∧ x = .int i) ∨
   (j = 8 ∧ XfC K (He.ga K D) ∧ PySem.W.findIn K (.ref (He.ga K D)) "line" = some none ∧ PySem.W.findIn K (.ref (He.ga K D)) "column" = some none ∧ ∃ (dd : Addr) (fs : List (Str × V)) (l c : Int), d = some dd ∧ H dd = some (.xd fs) ∧ List.lookup ("line" : Str) fs = some (V.int l) ∧ List.lookup ("column" : Str) fs = some (V.int c) ∧ x = .tuple [.int l, .int c]))
theorem ErrK.told {K : PySem.W.Frag} {cls : Value} {d : Option Addr} {H : Hp} {z : Str} {x : PyData} {Q : VK} (h : ErrK K cls d H z x) (k : ∀ (t : Addr) (H' : Hp), Same H H' → Dp K H' (.ref t) (.tuple [.str z, x]) → Q (.ref t) H') : ErrX K cls d H Q := by
  obtain ⟨D, j, e1, ek, hz, hc⟩ := h
  refine ⟨D, j, z, e1, ek, hz, ?_⟩
  rcases hc with ⟨h1, h2, rfl⟩ | ⟨h1, h2, h3, dd, fs, i, h4, h5, h6, rfl⟩ | ⟨h1, h2, h3, h4, dd, fs, l, c, h5, h6, h7, h8, rfl⟩
  · exact .inl ⟨h1, h2, fun t H' s q => k t H' s (.tup (SqT.of q) (.cons (.str _) (.cons (.int _) .nil)))⟩
  · exact .inr (.inl ⟨h1, h2, h3, dd, fs, i, h4, h5, h6, fun t H' s q => k t H' s (.tup (SqT.of q) (.cons (.str _) (.cons (.int _) .nil)))⟩)
  · exact .inr (.inr ⟨h1, h2, h3, h4, dd, fs, l, c, h5, h6, h7, h8, fun t t2 H' s q2 q => k t H' s (.tup (SqT.of q) (.cons (.str _) (.cons (.tup (SqT.of q2) (.cons (.int _) (.cons (.int _) .nil))) .nil)))⟩)
/-- the call f raises the error z, which tells x, wherever R holds; empty lists stand -/
def RaisesX (P : Program) (w : World) (K : PySem.W.Frag) (mg : Str → Option Value) (n : Nat) (base : Heap) (R : Hp → Prop) (z : Str) (x : PyData) (f : Addr) : Prop := ∃ (G : Hp → Prop) (sp : Sp), VOk P w K mg base (L2.CX P w) n f G sp ∧ ∀ H1, R H1 → G H1 ∧
  ∀ (Q : VK) (E : XK), (∀ (cls : Value) (d : Option Addr) (H2 : Hp), ErrK K cls d H2 z x → R H2 → KpE H1 H2 → E cls d H2) → sp [] H1 Q E
def spAllX (P : Program) (w : World) (K : PySem.W.Frag) (mg : Str → Option Value) (n : Nat) (base : Heap) : Sp := fun vs H Q _ => ∃ (l ex : Addr) (R : Hp → Prop) (fs : List Addr) (z : Str) (x : PyData), vs = [.ref l, .ref ex] ∧ R H ∧ (∀ H1 H2, R H1 → Same H1 H2 → R H2) ∧
  (∀ H1, R H1 → H1 l = some (.lst (fs.map V.ref)) ∧ Dp K H1 (.ref ex) (.tuple [.str z, x])) ∧ ShD 3 (.tuple [.str z, x]) ∧ (∀ f ∈ fs, RaisesX P w K mg n base R z x f) ∧ ∀ H', R H' → Q (.bl true) H'
section
variable {P : Program} {w : World} {K : PySem.W.Frag} {mg : Str → Option Value} {base : Heap}
theorem ok_aarX (T : AarT K mg) (n : Nat) : FnE P w K mg base CX0 (n + 2) ("_law_all_raise", none) ["_law_calls", "_law_expected"] (spAllX P w K mg n base) := by
  obtain ⟨fd, F⟩ := T.aar.d
  obtain ⟨fdEO, GEO, bEO, kEO⟩ := ok_eofX (P := P) (w := w) (base := base) T.e n
  refine ⟨fd, F.ok sc_aar (fun vs H Q E h => ?_) (fun cdv A outer s H vs Q E hr h => ?_), F.bindsN fun _ _ _ _ _ _ us hl => match us, hl with | [_, _], _ => rfl, F.kp⟩
  · obtain ⟨l, ex, R, fs, z, x, rfl, _⟩ := h
    rfl
  · obtain ⟨l, ex, R, fs, z, xd, rfl, hR, hst, hRl, hsh, hfs, k⟩ := h
    refine ⟨_, PSs.nox (pss_one (ps_ret (pe_cmpR (op_eqNil (hu0 hr)) (pe_lc (own := [("_law_call", 2)]) (g := (gName 2)) (tt := tTest (tOp (rNeD K) (tCall (spEofX P w K mg n base) [] E0 (tCons (tVar 2) tNil)) (tVar 1))) (te := tVar 2) rfl sc_aar.nd (pi_list (pv 0)) (blkOk_by (own := [("_law_call", 2)]) (N := aaN) (sc := defScope s__law_all_raise) (by decide +kernel)) (fun _ _ _ _ _ => (pg_name (i := 2) sc_aar.nd rfl (.inl rfl))) (fun _ _ _ _ _ => (pts_one (pt_cmpR (op_neD hr.units) (pe_call GEO hr rfl T.e.d.g kEO bEO .nil pass0 (pa_cons (pv 2) pa_nil)) (pv 1) (nomark _)))) (fun _ _ _ _ _ => (pv 2))) (pe_lst pa_nil) (nomark _)))), ?_⟩
    refine ⟨_, rfl, l, rfl, ⟨_, SqL.of (hRl _ hR).1⟩, fun D nD => ?_⟩
    refine lc_list (K := K) (a := l) (xs := fs.map V.ref) (fun i Hy => R Hy ∧ Hy D = some (.lst [])) ⟨hst _ _ hR (sameUpd (Same.refl _) nD), upd_same⟩ (fun i Hy _ q => SqL.of (hRl _ q.1).1) ?_ ?_
    · rintro i x Hy hx ⟨hRy, hD⟩
      rw [List.getElem?_map] at hx
      obtain ⟨f, hf, rfl⟩ := Option.map_eq_some_iff.mp hx
      obtain ⟨G, sp, hVo, hth⟩ := hfs f (List.mem_of_getElem? hf)
      obtain ⟨hG, hsp⟩ := hth Hy hRy
      refine ⟨rfl, _, rfl, f, G, sp, rfl, hVo, hG, hsp _ _ fun cls d H2 hek hR2 hk => hek.told fun t H3 s3 ht => ?_⟩
      have hD2 := hk D hD
      have hR3 := hst _ _ hR2 s3
      refine ⟨_, rfl, _, _, ht, (hRl _ hR3).2, hsh.shaped (by decide), hsh.shaped (by decide), _, rfl, ?_⟩
      rw [hsh.eqv]
      exact iteF ⟨hR3, s3 _ _ hD2⟩
    · rintro Hy ⟨hRy, hD⟩
      refine ⟨(by show 0 ≤ sizeLine; decide), fun el nel => ?_⟩
      have se := sameUpd (o := .lst []) (Same.refl Hy) nel
      exact ⟨D, el, _, rfl, rfl, SqL.of (se _ _ hD), SqL.of upd_same, k _ (hst _ _ hRy se)⟩
end
end Sw

end

section
set_option maxRecDepth 100000
set_option maxHeartbeats 4000000
/-! the law's own: all calls raise the expected error; what stands is told with the list that the law fills -/
namespace Sw
open PySem PySem.Spec PyProof.Rows L2 SwA
/-- the call f raises the error z, which tells x, wherever R holds -/
def RaisesY (P : Program) (w : World) (K : PySem.W.Frag) (mg : Str → Option Value) (n : Nat) (base : Heap) (R : Addr → Hp → Prop) (z : Str) (x : PyData) (f : Addr) : Prop := ∃ (G : Hp → Prop) (sp : Sp), VOk P w K mg base (L2.CX P w) n f G sp ∧ ∀ D H1, R D H1 → G H1 ∧
  ∀ (Q : VK) (E : XK), (∀ (cls : Value) (d : Option Addr) (H2 : Hp), ErrK K cls d H2 z x → R D H2 → E cls d H2) → sp [] H1 Q E
def spAllY (P : Program) (w : World) (K : PySem.W.Frag) (mg : Str → Option Value) (n : Nat) (base : Heap) : Sp := fun vs H Q _ => ∃ (l ex : Addr) (R : Addr → Hp → Prop) (fs : List Addr) (z : Str) (x : PyData), vs = [.ref l, .ref ex] ∧ (∃ xs, H l = some (.lst xs)) ∧ (∀ D, H D = none → R D (upd H D (.lst []))) ∧ (∀ D H1 H2, R D H1 → Same H1 H2 → R D H2) ∧
  (∀ D H1, R D H1 → H1 D = some (.lst []) ∧ H1 l = some (.lst (fs.map V.ref)) ∧ Dp K H1 (.ref ex) (.tuple [.str z, x])) ∧ ShD 3 (.tuple [.str z, x]) ∧ (∀ f ∈ fs, RaisesY P w K mg n base R z x f) ∧ ∀ D H', R D H' → Q (.bl true) H'
section
variable {P : Program} {w : World} {K : PySem.W.Frag} {mg : Str → Option Value} {base : Heap}
theorem ok_aarY (T : AarT K mg) (n : Nat) : FnE P w K mg base CX0 (n + 2) ("_law_all_raise", none) ["_law_calls", "_law_expected"] (spAllY P w K mg n base) := by
  obtain ⟨fd, F⟩ := T.aar.d
  obtain ⟨fdEO, GEO, bEO, kEO⟩ := ok_eofX (P := P) (w := w) (base := base) T.e n
  refine ⟨fd, F.ok sc_aar (fun vs H Q E h => ?_) (fun cdv A outer s H vs Q E hr h => ?_), F.bindsN fun _ _ _ _ _ _ us hl => match us, hl with | [_, _], _ => rfl, F.kp⟩
  · obtain ⟨l, ex, R, fs, z, x, rfl, _⟩ := h
    rfl
  · obtain ⟨l, ex, R, fs, z, xd, rfl, ⟨xs0, hl0⟩, hR, hst, hRl, hsh, hfs, k⟩ := h
    refine ⟨_, PSs.nox (pss_one (ps_ret (pe_cmpR (op_eqNil (hu0 hr)) (pe_lc (own := [("_law_call", 2)]) (g := (gName 2)) (tt := tTest (tOp (rNeD K) (tCall (spEofX P w K mg n base) [] E0 (tCons (tVar 2) tNil)) (tVar 1))) (te := tVar 2) rfl sc_aar.nd (pi_list (pv 0)) (blkOk_by (own := [("_law_call", 2)]) (N := aaN) (sc := defScope s__law_all_raise) (by decide +kernel)) (fun _ _ _ _ _ => (pg_name (i := 2) sc_aar.nd rfl (.inl rfl))) (fun _ _ _ _ _ => (pts_one (pt_cmpR (op_neD hr.units) (pe_call GEO hr rfl T.e.d.g kEO bEO .nil pass0 (pa_cons (pv 2) pa_nil)) (pv 1) (nomark _)))) (fun _ _ _ _ _ => (pv 2))) (pe_lst pa_nil) (nomark _)))), ?_⟩
    refine ⟨_, rfl, l, rfl, ⟨_, SqL.of hl0⟩, fun D nD => ?_⟩
    refine lc_list (K := K) (a := l) (xs := fs.map V.ref) (fun i Hy => R D Hy) (hR D nD) (fun i Hy _ q => SqL.of (hRl _ _ q).2.1) ?_ ?_
    · rintro i x Hy hx hRy
      rw [List.getElem?_map] at hx
      obtain ⟨f, hf, rfl⟩ := Option.map_eq_some_iff.mp hx
      obtain ⟨G, sp, hVo, hth⟩ := hfs f (List.mem_of_getElem? hf)
      obtain ⟨hG, hsp⟩ := hth D Hy hRy
      refine ⟨rfl, _, rfl, f, G, sp, rfl, hVo, hG, hsp _ _ fun cls d H2 hek hR2 => hek.told fun t H3 s3 ht => ?_⟩
      have hR3 := hst _ _ _ hR2 s3
      refine ⟨_, rfl, _, _, ht, (hRl _ _ hR3).2.2, hsh.shaped (by decide), hsh.shaped (by decide), _, rfl, ?_⟩
      rw [hsh.eqv]
      exact iteF hR3
    · rintro Hy hRy
      refine ⟨(by show 0 ≤ sizeLine; decide), fun el nel => ?_⟩
      have se := sameUpd (o := .lst []) (Same.refl Hy) nel
      exact ⟨D, el, _, rfl, rfl, SqL.of (se _ _ (hRl _ _ hRy).1), SqL.of upd_same, k D _ (hst _ _ _ hRy se)⟩
end
end Sw

end

section
set_option maxRecDepth 100000
set_option maxHeartbeats 4000000
/-! the corridor: restore -/
namespace Sw
open PySem PySem.Spec PyProof.Rows L2 SwA
def snapOf (c : CSt) : V → Option Snap
  | .str z => getA c.saved z.cps.toList
  | _ => none
section
variable {P : Program} {w : World} {K : PySem.W.Frag} {mg : Str → Option Value} {base : Heap}
def spRestore (K : PySem.W.Frag) : Sp := fun vs H Q E => ∃ (H0 : Hp) (p : Addr) (L : CLoc) (pln : Plan) (c : CSt) (v : V) (n : String), vs = [.ref p, v] ∧ CorAt K H0 H p L pln c ∧ ArN K H v n ∧
  (snapOf c v = none → ∀ H', Same H H' → E (.ref (He.ga K "UnknownName")) none H') ∧
  (∀ s, snapOf c v = some s → ∀ (L' : CLoc) (H' : Hp), CorAt K H0 H' p L' pln (restC c s) → L'.own = L.own → L'.sd = L.sd → Q .non H')
abbrev reN : List Str := ["self", "name", "past", "undone"]
theorem sc_restore : FnScope reN ["self", "name"] (defScope s_Corridor_restore) := ⟨rfl, rfl, rfl, by decide +kernel, rfl, by decide +kernel, by decide +kernel⟩
theorem ok_restore (T : SavT K w mg) : FnE P w K mg base (L2.CX P w) 1 ("Corridor", some "restore") ["self", "name"] (spRestore K) := by
  obtain ⟨fd, F⟩ := T.restore.d
  refine ⟨fd, F.ok sc_restore (fun vs H Q E h => ?_) (fun cdv A outer s H vs Q E hr h => ?_), F.bindsN fun _ _ _ _ _ _ us hl => match us, hl with | [_, _], _ => rfl, F.kp⟩
  · obtain ⟨H0, p, L, pln, c, v, n, rfl, _⟩ := h
    rfl
  · obtain ⟨H0, p, L, pln, c, v, n, rfl, hc, hv, kB, kO⟩ := h
    have hu := hu_of hr
    refine ⟨_, (pss_cons (ps_if (PW.pt (pw_or (pt_not (pt_val (pe_callB call_isi (by rfl) T.p.o.r.c.m.isinstance (by decide +kernel) (pa_cons (pv 1) (pa_cons (pe_bltn (v := .ty "str") (by rfl) T.p.o.r.c.str (by decide +kernel) rfl) pa_nil))))) (pw_or1 (pt_cmp (pc_dnotin hu (pv 1) (pe_fld (pv 0) rfl))))))
        (pss_one (ps_raise rfl (takes_of rfl rfl rfl rfl) (pmk_own PySem.F.excBase_ValueError T.unknown.q T.unknown.g T.unknown.k (raises_own T.unknown.s T.unknown.t) rfl))) pss_nil)
      (pss_cons (ps_asg (pe_dget hu (pe_fld (pv 0) rfl) (pv 1) (fun _ _ => rfl))
        (pg_tup rfl (pgs_cons (pg_fld (pv 0)) (pgs_cons (pg_name (i := 2) sc_restore.nd rfl (.inl rfl)) (pgs_cons (pg_name (i := 3) sc_restore.nd rfl (.inl rfl)) pgs_nil)))))
      (pss_one (ps_asg (pe_tup (pa_cons (pe_callTy call_list_of (by rfl) T.p.o.r.c.list (by decide +kernel) (pa_cons (pv 2) pa_nil)) (pa_cons (pe_callTy call_list_of (by rfl) T.p.o.r.c.list (by decide +kernel) (pa_cons (pv 3) pa_nil)) pa_nil)))
        (pg_tup rfl (pgs_cons (pg_fld (pv 0)) (pgs_cons (pg_fld (pv 0)) pgs_nil))))))), ?_⟩
    have A1 := T.p.o.r.c.ap
    cases hv with
    | int i => exact ⟨_, rfl, _, _, _, _, false, rfl, .ty "str", (ArN.int (K := K) i).ty, kit_ty (by decide +kernel), _, rfl, kB rfl H (Same.refl H)⟩
    | bl b => exact ⟨_, rfl, _, _, _, _, false, rfl, .ty "str", (ArN.bl (K := K) b).ty, kit_ty (by decide +kernel), _, rfl, kB rfl H (Same.refl H)⟩
    | non => exact ⟨_, rfl, _, _, _, _, false, rfl, .ty "str", (ArN.non (K := K)).ty, kit_ty (by decide +kernel), _, rfl, kB rfl H (Same.refl H)⟩
    | tup e => exact ⟨_, rfl, _, _, _, _, false, rfl, .ty "str", (ArN.tup (K := K) e).ty, kit_ty (by decide +kernel), _, rfl, kB rfl H (Same.refl H)⟩
    | lst e => exact ⟨_, rfl, _, _, _, _, false, rfl, .ty "str", (ArN.lst (K := K) e).ty, kit_ty (by decide +kernel), _, rfl, kB rfl H (Same.refl H)⟩
    | str z =>
      obtain ⟨nm, rfl⟩ := sx_surj z
      have enm : snapOf c (.str (sx nm)) = getA c.saved nm := by
        show getA c.saved (sx nm).cps.toList = _
        simp [sx]
      rw [enm] at kB kO
      obtain ⟨kvs, hkv, hkp⟩ := id hc.sav
      obtain ⟨g1, g2⟩ := snap_get (nm := nm) hkp
      refine ⟨_, rfl, _, _, _, _, true, rfl, .ty "str", (ArN.str (K := K) (sx nm)).ty, kit_ty (by decide +kernel), _, rfl, ?_⟩
      refine ⟨_, rfl, _, rfl, p, _, _, _, _, rfl, hc.ob, T.p.o.r.c.cor.c, T.p.o.r.c.cor.n _ (by simp), lc_saved, L.sd, _, rfl, DGet.k (k := Sum.inr (sx nm)) hkv, _, rfl, ?_⟩
      cases hget : getA c.saved nm with
      | none =>
        rw [g1 hget]
        exact kB hget H (Same.refl H)
      | some sn =>
        obtain ⟨t, g3, g4⟩ := g2 sn hget
        have k := kO sn hget
        rw [g3]
        refine iteF ?_
        obtain ⟨_, t', na, la, ua, e1, ht, hna, hla, hua, ⟨ps, hps, hpr⟩, ⟨us, hus, hur⟩⟩ := id g4
        cases e1
        refine ⟨_, rfl, p, _, _, _, _, rfl, hc.ob, T.p.o.r.c.cor.c, T.p.o.r.c.cor.n _ (by simp), lc_saved, _, rfl, L.sd, .ref t, rfl, by rw [← g3]; exact DGet.k (k := Sum.inr (sx nm)) hkv, t, _, rfl, SqT.of ht, rfl, _, _, rfl, _, rfl, p, _, _, _, rfl, hc.ob, T.p.o.r.c.cor.c, T.p.o.r.c.cor.n _ (by simp), (by simp), _, _, rfl, _, _, rfl, rfl, ?_⟩
        rw [put_now]
        have fz1 : Fz K H (upd H p (.ins (He.ga K "Corridor") L.dx (corFs (.ref L.pa) (.ref na) (.ref L.pl) (.ref L.ul) (.ref L.sd)))) := Fz.put (Fz.refl _) hc.ob (fun q => q rfl)
        have o1 : ∀ a, a ≠ p → (upd H p (.ins (He.ga K "Corridor") L.dx (corFs (.ref L.pa) (.ref na) (.ref L.pl) (.ref L.ul) (.ref L.sd)))) a = H a := fun a ha => upd_ne ha
        have at_p := @upd_same H p (.ins (He.ga K "Corridor") L.dx (corFs (.ref L.pa) (.ref na) (.ref L.pl) (.ref L.ul) (.ref L.sd)))
        have lap : la ≠ p := ne_of hps hc.ob (by intro z; cases z)
        have uap : ua ≠ p := ne_of hus hc.ob (by intro z; cases z)
        have sm1 : Same H0 (upd H p (.ins (He.ga K "Corridor") L.dx (corFs (.ref L.pa) (.ref na) (.ref L.pl) (.ref L.ul) (.ref L.sd)))) := sameUpd hc.same (hc.new _ (by simp))
        generalize upd H p (.ins (He.ga K "Corridor") L.dx (corFs (.ref L.pa) (.ref na) (.ref L.pl) (.ref L.ul) (.ref L.sd))) = H1 at *
        have hps1 := (o1 _ lap).trans hps
        have hus1 := (o1 _ uap).trans hus
        refine ⟨_, rfl, la, _, rfl, .inl (SqL.of hps1), fun p1 np1 => ?_⟩
        have n0p1 : H0 p1 = none := sm1.free np1
        have npo : ∀ a ∈ L.own, a ≠ p1 := fun a ha => by
          obtain ⟨xs, hx⟩ := hc.ow a ha
          exact ne_of_none ((o1 _ (ne_of hx hc.ob (by intro z; cases z))).trans hx) np1
        have keep := fun a o (ha : a ≠ p) (e : H a = some o) => (o1 a ha).trans e
        have hnow1 := hna.fz A1 fz1
        have hpr1 := Paired.mapP hpr fun _ _ q => EntAt.fz A1 fz1 q
        have hur1 := Paired.mapP hur fun _ _ q => EntAt.fz A1 fz1 q
        have fz2 := fz1
        have s14 : Same H1 H1 := Same.refl H1
        have s2 := sameUpd (o := .lst (ps.map V.ref)) (Same.refl H1) np1
        have hp1 := @upd_same H1 p1 (.lst (ps.map V.ref))
        replace hus1 := s2 _ _ hus1
        replace at_p := s2 _ _ at_p
        replace sm1 := sm1.trans s2
        replace s14 := s14.trans s2
        generalize upd H1 p1 (.lst (ps.map V.ref)) = H2 at *
        refine ⟨_, rfl, ua, _, rfl, .inl (SqL.of hus1), fun u1 nu1 => ?_⟩
        have n0u1 : H0 u1 = none := sm1.free nu1
        have d12 : p1 ≠ u1 := ne_of_none hp1 nu1
        have nuo : ∀ a ∈ L.own, a ≠ u1 := fun a ha => by
          obtain ⟨xs, hx⟩ := hc.ow a ha
          exact ne_of_none (s14 _ _ (keep _ _ (ne_of hx hc.ob (by intro z; cases z)) hx)) nu1
        have s3 := sameUpd (o := .lst (us.map V.ref)) (Same.refl H2) nu1
        have hu1 := @upd_same H2 u1 (.lst (us.map V.ref))
        replace hp1 := s3 _ _ hp1
        replace at_p := s3 _ _ at_p
        replace sm1 := sm1.trans s3
        replace s14 := s14.trans s3
        generalize upd H2 u1 (.lst (us.map V.ref)) = H3 at *
        refine ⟨(by show 2 ≤ sizeLine; decide), fun tt ntt => ?_⟩
        have s4 := sameUpd (o := .tup [.ref p1, .ref u1]) (Same.refl H3) ntt
        have htt := @upd_same H3 tt (.tup [.ref p1, .ref u1])
        replace hp1 := s4 _ _ hp1
        replace hu1 := s4 _ _ hu1
        replace at_p := s4 _ _ at_p
        replace sm1 := sm1.trans s4
        replace s14 := s14.trans s4
        generalize upd H3 tt (.tup [.ref p1, .ref u1]) = H4 at *
        refine ⟨tt, _, rfl, SqT.of htt, rfl, _, _, rfl, _, rfl, p, _, _, _, rfl, at_p, T.p.o.r.c.cor.c, T.p.o.r.c.cor.n _ (by simp), (by simp), _, _, rfl, _, rfl, p, _, _, _, rfl, upd_same, T.p.o.r.c.cor.c, T.p.o.r.c.cor.n _ (by simp), (by rw [put_past]; simp), rfl, ?_⟩
        rw [put_past, put_undone]
        have n0p : H0 p = none := hc.new _ (by simp)
        have f5 : Fz K H4 (upd H4 p (.ins (He.ga K "Corridor") L.dx (corFs (.ref L.pa) (.ref na) (.ref p1) (.ref L.ul) (.ref L.sd)))) := Fz.put (Fz.refl _) at_p (fun q => q rfl)
        have f6 : Fz K (upd H4 p (.ins (He.ga K "Corridor") L.dx (corFs (.ref L.pa) (.ref na) (.ref p1) (.ref L.ul) (.ref L.sd)))) (upd (upd H4 p (.ins (He.ga K "Corridor") L.dx (corFs (.ref L.pa) (.ref na) (.ref p1) (.ref L.ul) (.ref L.sd)))) p (.ins (He.ga K "Corridor") L.dx (corFs (.ref L.pa) (.ref na) (.ref p1) (.ref u1) (.ref L.sd)))) := Fz.put (Fz.refl _) upd_same (fun q => q rfl)
        have f16 := (Fz.same (K := K) s14).trans (f5.trans f6)
        have fH := fz1.trans f16
        have p1p : p1 ≠ p := ne_of hp1 at_p (by intro z; cases z)
        have u1p : u1 ≠ p := ne_of hu1 at_p (by intro z; cases z)
        refine k { L with na := na, pl := p1, ul := u1 } _ (hc.change A1 fH (sameUpd (sameUpd sm1 n0p) n0p) upd_same rfl rfl rfl rfl (hnow1.fz A1 f16) ⟨ps, ?_, Paired.mapP hpr1 fun _ _ q => q.fz A1 f16⟩ ⟨us, ?_, Paired.mapP hur1 fun _ _ q => q.fz A1 f16⟩ ?_ d12 (fun z => npo _ z rfl) (fun z => nuo _ z rfl) n0p1 n0u1) rfl rfl
        · exact ((upd_ne p1p).trans (upd_ne p1p)).trans hp1
        · exact ((upd_ne u1p).trans (upd_ne u1p)).trans hu1
        · rintro a ha _ _ ⟨o, e⟩
          rw [upd_ne ha, upd_ne ha, e]
          exact s14 _ _ (keep _ _ ha e)
end
end Sw

end

section
set_option maxRecDepth 100000
set_option maxHeartbeats 4000000
/-! lambdas that are told -/
namespace Sw
open PySem PySem.Spec PyProof.Rows L2 SwA LamX NdefX
theorem mm0 {α : Type} {x : α} {l : List α} : x ∈ x :: l := List.mem_cons_self
theorem mm1 {α : Type} {x a : α} {l : List α} : x ∈ a :: x :: l := List.mem_cons_of_mem _ mm0
theorem mm2 {α : Type} {x a b : α} {l : List α} : x ∈ a :: b :: x :: l := List.mem_cons_of_mem _ mm1
theorem mm3 {α : Type} {x a b c : α} {l : List α} : x ∈ a :: b :: c :: x :: l := List.mem_cons_of_mem _ mm2
theorem mm4 {α : Type} {x a b c d : α} {l : List α} : x ∈ a :: b :: c :: d :: x :: l := List.mem_cons_of_mem _ mm3
theorem mm5 {α : Type} {x a b c d e : α} {l : List α} : x ∈ a :: b :: c :: d :: e :: x :: l := List.mem_cons_of_mem _ mm4
theorem mm6 {α : Type} {x a b c d e f : α} {l : List α} : x ∈ a :: b :: c :: d :: e :: f :: x :: l := List.mem_cons_of_mem _ mm5
theorem mm7 {α : Type} {x a b c d e f g : α} {l : List α} : x ∈ a :: b :: c :: d :: e :: f :: g :: x :: l := List.mem_cons_of_mem _ mm6
theorem mm8 {α : Type} {x a b c d e f g h : α} {l : List α} : x ∈ a :: b :: c :: d :: e :: f :: g :: h :: x :: l := List.mem_cons_of_mem _ mm7
theorem up1 {α : Type} {x a : α} {l : List α} (h : x ∈ l) : x ∈ a :: l := List.mem_cons_of_mem _ h
theorem up5 {α : Type} {x a b c d e : α} {l : List α} (h : x ∈ l) : x ∈ a :: b :: c :: d :: e :: l := up1 (up1 (up1 (up1 (up1 h))))
def lamFreeB (sc outer : Scope) : Bool := sc.names.all fun y => !decide (y.2 = .free) || (decide (outer.names.lookup y.1 = some .cell) || decide (outer.names.lookup y.1 = some .free))
theorem lamFree {sc outer : Scope} (h : lamFreeB sc outer = true) : ∀ y ∈ sc.names, y.2 = .free → outer.names.lookup y.1 = some .cell ∨ outer.names.lookup y.1 = some .free := fun y hy e => by
  have := List.all_eq_true.mp h y hy
  rw [decide_eq_true e, Bool.not_true, Bool.false_or, Bool.or_eq_true, decide_eq_true_eq, decide_eq_true_eq] at this
  exact this
section
variable {CX : CXT} {P : Program} {w : World} {K : PySem.W.Frag} {mg : Str → Option Value} {base : Heap} {N ps fr : List Str} {F : NF} {f t0 : Addr} {e : Expr} {k : Nat} {sp : Sp} {ws : List (Option V)} {H0 : Hp}
theorem vok0 (hf : H0 f = some (LamV f F e .none)) (S : NScope N [] fr F.scope) (C : CellsAt F.cl fr ws base fun _ => none) (hbind : ∀ (doc pm ctv : Value), bindArgs (PySem.W.kdv_fn F.name F.qual F.params (.expr e) F.scope F.cl .none doc pm (.ref F.c) ctv) ⟨[], []⟩ = pure [])
    (hbody : ∀ (A : Around) (outer : List Env) (s : Shared) (H : Hp) (Q : VK) (E : XK), Room k (A.deeper (envF F f s.heap.objs.size)) → sp [] H Q E → ∃ t, PE (ncx CX P w K mg base N F f A outer s H E) e t ∧ t (startF N [] ws) H Q) :
    VOk P w K mg base CX (k + 1) f (gLamV0 f F e) (fun vs H Q E => vs = [] ∧ sp [] H Q E) := vok_V0 S hbind C hbody
theorem vok1 {x : Str} (hf : H0 f = some (LamV f F e (.ref t0))) (S : NScope N [x] fr F.scope) (C : CellsAt F.cl fr ws base fun _ => none) (hbind : ∀ (doc pm ctv : Value), ∃ kk : Option (Array Value) → Sem (List (Str × Value)), bindArgs (PySem.W.kdv_fn F.name F.qual F.params (.expr e) F.scope F.cl (.ref t0) doc pm (.ref F.c) ctv) ⟨[], []⟩ = seqItems? (.ref t0) >>= kk ∧ ∀ u : Value, kk (some #[u]) = pure [(x, u)])
    (hbody : ∀ (A : Around) (outer : List Env) (s : Shared) (H : Hp) (Q : VK) (E : XK), Room k (A.deeper (envF F f s.heap.objs.size)) → sp [] H Q E → ∃ t, PE (ncx CX P w K mg base N F f A outer s H E) e t ∧ t (startF N [.int 0] ws) H Q) :
    VOk P w K mg base CX (k + 1) f (gLamV1 f t0 F e) (fun vs H Q E => vs = [] ∧ sp [] H Q E) := vok_V1 S hbind C hbody
end
theorem codeO_l {c : Addr} {q : Str} (zs : List V) : CodeO c q ≠ .lst zs := fun z => by unfold CodeO at z; cases z
theorem codeO_i {c : Addr} {q : Str} (C dx : Addr) (fs : List (Str × V)) : CodeO c q ≠ .ins C dx fs := fun z => by unfold CodeO at z; cases z
theorem codeO_t {c : Addr} {q : Str} (ps : Array Value) : CodeO c q ≠ .tbl ps := fun z => by unfold CodeO at z; cases z
end Sw

end

section
set_option maxRecDepth 100000
set_option maxHeartbeats 4000000
/-! the law's own: equal -/
namespace Sw
open PySem PySem.Spec PyProof.Rows L2 SwA
inductive Flat : V → String → Prop
  | non : Flat .non "NoneType"
  | bl (b : Bool) : Flat (.bl b) "bool"
  | int (i : Int) : Flat (.int i) "int"
  | str (z : Str) : Flat (.str z) "str"
def TupR (H : Hp) (a : Addr) (xs : List V) : Prop := H a = some (.tup xs) ∨ ∃ o, H a = some (.frz o (.tup xs))
/-- two values, equal and of one kind at every level, at most n levels deep -/
def EqD (H : Hp) : Nat → V → V → Prop
  | 0, x, y => x = y ∧ ∃ n, Flat x n
  | n + 1, x, y => (x = y ∧ ∃ n, Flat x n) ∨ ∃ a b xs ys, x = .ref a ∧ y = .ref b ∧ ((H a = some (.lst xs) ∧ H b = some (.lst ys)) ∨ (TupR H a xs ∧ TupR H b ys)) ∧ Paired (EqD H n) xs ys ∧ ys.length ≤ 100000
theorem TupR.same {H H' : Hp} (s : Same H H') {a : Addr} {xs : List V} (h : TupR H a xs) : TupR H' a xs := h.elim (fun e => .inl (s _ _ e)) fun ⟨o, e⟩ => .inr ⟨o, s _ _ e⟩
theorem TupR.sq {K : PySem.W.Frag} {H : Hp} {a : Addr} {xs : List V} (h : TupR H a xs) : SqT K H a xs := .inl h
theorem EqD.same {H H' : Hp} (s : Same H H') : ∀ {n : Nat} {x y : V}, EqD H n x y → EqD H' n x y
  | 0, _, _, h => h
  | n + 1, _, _, .inl h => .inl h
  | n + 1, _, _, .inr ⟨a, b, xs, ys, e1, e2, h, t, tl⟩ => .inr ⟨a, b, xs, ys, e1, e2, h.elim (fun q => .inl ⟨s _ _ q.1, s _ _ q.2⟩) (fun q => .inr ⟨q.1.same s, q.2.same s⟩), Paired.mapP t fun _ _ q => EqD.same s q, tl⟩
theorem EqD.up {H : Hp} : ∀ {n : Nat} {x y : V}, EqD H n x y → EqD H (n + 1) x y
  | 0, _, _, h => .inl h
  | n + 1, _, _, .inl h => .inl h
  | n + 1, _, _, .inr ⟨a, b, xs, ys, e1, e2, h, t, tl⟩ => .inr ⟨a, b, xs, ys, e1, e2, h, Paired.mapP t fun _ _ q => q.up, tl⟩
theorem Flat.ty {K : PySem.W.Frag} {H : Hp} {v : V} {n : String} (h : Flat v n) : TyX K H v (.type n) := by
  cases h with
  | int i => exact (ArN.int i).ty
  | bl b => exact (ArN.bl b).ty
  | non => exact ArN.non.ty
  | str z => exact (ArN.str z).ty
theorem TupR.ty {K : PySem.W.Frag} {H : Hp} {a : Addr} {xs : List V} (h : TupR H a xs) : TyX K H (.ref a) (.type "tuple") := h.elim (fun e => (ArN.tup e).ty) fun ⟨o, e⟩ => .fTuple e
theorem flats39 {H : Hp} {n : Nat} : ∀ {xs : List V}, (∀ x ∈ xs, ∃ t, Flat x t) → Paired (EqD H n) xs xs
  | [], _ => .nil
  | x :: xs, h => .cons (by
      have := h x List.mem_cons_self
      cases n with
      | zero => exact ⟨rfl, this⟩
      | succ n => exact .inl ⟨rfl, this⟩) (flats39 fun y hy => h y (List.mem_cons_of_mem _ hy))
structure EquT (K : PySem.W.Frag) (mg : Str → Option Value) : Prop where
  l : LawT K mg
  isinstance : mg "isinstance" = none
  bool : mg "bool" = none
  int : mg "int" = none
  str : mg "str" = none
  all : mg "all" = none
  equal : DeT K mg "_law_equal" s__law_equal
section
variable {P : Program} {w : World} {K : PySem.W.Frag} {mg : Str → Option Value} {base : Heap}
def spEq (n : Nat) : Sp := fun vs H Q _ => ∃ (x y : V), vs = [x, y] ∧ EqD H n x y ∧ ∀ H' : Hp, Same H H' → Q (.bl true) H'
def spNo : Sp := fun vs _ _ _ => vs.length = 2 ∧ False
theorem fn_no {k : Nat} {f : Addr} {fd : FuncData} {ps : List Str} (h : ps.length = 2) : FnOk P w K mg base CX0 k f fd ps spNo := ⟨fun vs H Q E q => by rw [q.1, h], fun A outer s H args us vs Q E _ _ _ _ q => q.2.elim⟩
abbrev eqN : List Str := ["_law_actual", "_law_expected", "_law_k"]
theorem sc_equal : FnScope eqN ["_law_actual", "_law_expected"] (defScope s__law_equal) := ⟨rfl, rfl, rfl, by decide +kernel, rfl, by decide +kernel, by decide +kernel⟩
theorem equal_step (T : EquT K mg) {n : Nat} {sp : Sp} {fd : FuncData} (F : FunD K "_law_equal" "_law_equal" (defArgs s__law_equal) (defBody s__law_equal) (defScope s__law_equal) [] [] (He.fAd K ("_law_equal", none)) fd)
    (GR : FnOk P w K mg base CX0 n (He.fAd K ("_law_equal", none)) fd ["_law_actual", "_law_expected"] sp) (R : Hp → V → V → Prop) (Rs : ∀ H H' x y, Same H H' → R H x y → R H' x y)
    (hsp : ∀ (x y : V) (H : Hp) (Q : VK) (E : XK), R H x y → (∀ H' : Hp, Same H H' → Q (.bl true) H') → sp [x, y] H Q E) :
    FnOk P w K mg base CX0 (n + 1) (He.fAd K ("_law_equal", none)) fd ["_law_actual", "_law_expected"] (fun vs H Q _ => ∃ (x y : V), vs = [x, y] ∧ ((x = y ∧ ∃ n, Flat x n) ∨ ∃ a b xs ys, x = .ref a ∧ y = .ref b ∧ ((H a = some (.lst xs) ∧ H b = some (.lst ys)) ∨ (TupR H a xs ∧ TupR H b ys)) ∧ Paired (R H) xs ys ∧ ys.length ≤ 100000) ∧ ∀ H' : Hp, Same H H' → Q (.bl true) H') := by
  have bR : Binds K fd ["_law_actual", "_law_expected"] [] := F.bindsN fun _ _ _ _ _ _ us hl => match us, hl with | [_, _], _ => rfl
  have kR := F.kp
  refine F.ok sc_equal (fun vs H Q E h => ?_) (fun cdv A outer s H vs Q E hr h => ?_)
  · obtain ⟨x, y, rfl, _⟩ := h
    rfl
  · obtain ⟨x, y, rfl, hxy, k⟩ := h
    refine ⟨_, PSs.nox (pss_cons (ps_if (pt_cmpR op_isN (pv 1) pe_non (nomark _))
        (pss_one (ps_ret (pe_cmpR op_isN (pv 0) pe_non (nomark _)))) pss_nil)
      (pss_cons (ps_if (pt_val (pe_callB call_isi (by rfl) T.isinstance (by decide +kernel) (pa_cons (pv 1) (pa_cons (pe_bltn (v := .ty "bool") (by rfl) T.bool (by decide +kernel) rfl) pa_nil))))
        (pss_one (ps_ret (pe_and (pe_callB call_isi (by rfl) T.isinstance (by decide +kernel) (pa_cons (pv 0) (pa_cons (pe_bltn (v := .ty "bool") (by rfl) T.bool (by decide +kernel) rfl) pa_nil))) (pe_one (pe_cmpR op_eq (pv 0) (pv 1) (nomark _)))))) pss_nil)
      (pss_cons (ps_if (pt_val (pe_callB call_isi (by rfl) T.isinstance (by decide +kernel) (pa_cons (pv 1) (pa_cons (pe_bltn (v := .ty "int") (by rfl) T.int (by decide +kernel) rfl) pa_nil))))
        (pss_one (ps_ret (pe_and (pe_callB call_isi (by rfl) T.isinstance (by decide +kernel) (pa_cons (pv 0) (pa_cons (pe_bltn (v := .ty "int") (by rfl) T.int (by decide +kernel) rfl) pa_nil))) (pe_and (pe_not (pe_callB call_isi (by rfl) T.isinstance (by decide +kernel) (pa_cons (pv 0) (pa_cons (pe_bltn (v := .ty "bool") (by rfl) T.bool (by decide +kernel) rfl) pa_nil)))) (pe_one (pe_cmpR op_eq (pv 0) (pv 1) (nomark _))))))) pss_nil)
      (pss_cons (ps_if (pt_val (pe_callB call_isi (by rfl) T.isinstance (by decide +kernel) (pa_cons (pv 1) (pa_cons (pe_bltn (v := .ty "str") (by rfl) T.str (by decide +kernel) rfl) pa_nil))))
        (pss_one (ps_ret (pe_and (pe_callB call_isi (by rfl) T.isinstance (by decide +kernel) (pa_cons (pv 0) (pa_cons (pe_bltn (v := .ty "str") (by rfl) T.str (by decide +kernel) rfl) pa_nil))) (pe_one (pe_cmpR op_eq (pv 0) (pv 1) (nomark _)))))) pss_nil)
      (pss_cons (ps_if (pt_cmpR op_ne (pe_callB call_isi (by rfl) T.isinstance (by decide +kernel) (pa_cons (pv 1) (pa_cons (pe_bltn (v := .ty "tuple") (by rfl) T.l.tuple (by decide +kernel) rfl) pa_nil))) (pe_callB call_isi (by rfl) T.isinstance (by decide +kernel) (pa_cons (pv 0) (pa_cons (pe_bltn (v := .ty "tuple") (by rfl) T.l.tuple (by decide +kernel) rfl) pa_nil))) (nomark _))
        (pss_one (ps_ret pe_bl)) pss_nil)
      (pss_cons (ps_if (pt_cmpR op_ne (pe_callB call_isi (by rfl) T.isinstance (by decide +kernel) (pa_cons (pv 1) (pa_cons (pe_bltn (v := .ty "list") (by rfl) T.l.list (by decide +kernel) rfl) pa_nil))) (pe_callB call_isi (by rfl) T.isinstance (by decide +kernel) (pa_cons (pv 0) (pa_cons (pe_bltn (v := .ty "list") (by rfl) T.l.list (by decide +kernel) rfl) pa_nil))) (nomark _))
        (pss_one (ps_ret pe_bl)) pss_nil)
      (pss_cons (ps_if (pt_cmpR op_ne (pe_callB call_len_seq (by rfl) T.l.len boot_len (pa_cons (pv 0) pa_nil)) (pe_callB call_len_seq (by rfl) T.l.len boot_len (pa_cons (pv 1) pa_nil)) (nomark _))
        (pss_one (ps_ret pe_bl)) pss_nil)
      (pss_one (ps_ret (pe_callB (cr_all rfl) (by rfl) T.all (by decide +kernel) (pa_cons (pe_lc (own := [("_law_k", 2)]) (g := (gName 2)) (tt := tYes) (te := tCall sp [] _ (tCons (tOp (rIx K) (tVar 0) (tVar 2)) (tCons (tOp (rIx K) (tVar 1) (tVar 2)) tNil))) rfl sc_equal.nd (pi_range1 (by rfl) T.l.range (pa_cons (pe_callB call_len_seq (by rfl) T.l.len boot_len (pa_cons (pv 1) pa_nil)) pa_nil)) (blkOk_by (own := [("_law_k", 2)]) (N := eqN) (sc := defScope s__law_equal) (by decide +kernel)) (fun _ _ _ _ _ => (pg_name (i := 2) sc_equal.nd rfl (.inl rfl))) (fun _ _ _ _ _ => pts_nil) (fun _ _ _ _ _ => (pe_call GR hr rfl T.equal.g kR bR .nil pass0 (pa_cons (pe_ix ix_seq (pv 0) (pv 2) (fun _ _ => rfl)) (pa_cons (pe_ix ix_seq (pv 1) (pv 2) (fun _ _ => rfl)) pa_nil))))) pa_nil))))))))))), ?_⟩
    rcases hxy with ⟨rfl, nn, hf⟩ | ⟨a, b, xs, ys, rfl, rfl, hab, hp, hyl⟩
    · cases hf with
      | non => exact ⟨_, rfl, rfl, _, rfl, _, rfl, rfl, k H (Same.refl H)⟩
      | bl b =>
        refine ⟨_, rfl, rfl, _, rfl, ?_⟩
        refine ⟨_, rfl, _, _, _, _, true, rfl, .ty _, (Flat.bl b).ty, kit_ty (by decide +kernel), _, rfl, ?_⟩
        refine ⟨_, rfl, _, _, _, _, true, rfl, .ty _, (Flat.bl b).ty, kit_ty (by decide +kernel), _, rfl, ?_⟩
        refine ⟨_, rfl, _, rfl, rfl, ?_⟩
        rw [decide_eq_true rfl]
        exact k H (Same.refl H)
      | int i =>
        refine ⟨_, rfl, rfl, _, rfl, ?_⟩
        refine ⟨_, rfl, _, _, _, _, false, rfl, .ty _, (Flat.int i).ty, kit_ty (by decide +kernel), _, rfl, ?_⟩
        refine ⟨_, rfl, _, _, _, _, true, rfl, .ty _, (Flat.int i).ty, kit_ty (by decide +kernel), _, rfl, ?_⟩
        refine ⟨_, rfl, _, _, _, _, true, rfl, .ty _, (Flat.int i).ty, kit_ty (by decide +kernel), _, rfl, ?_⟩
        refine ⟨_, rfl, _, _, _, _, false, rfl, .ty _, (Flat.int i).ty, kit_ty (by decide +kernel), _, rfl, _, rfl, ?_⟩
        refine ⟨_, rfl, _, rfl, rfl, ?_⟩
        rw [decide_eq_true rfl]
        exact k H (Same.refl H)
      | str z =>
        refine ⟨_, rfl, rfl, _, rfl, ?_⟩
        refine ⟨_, rfl, _, _, _, _, false, rfl, .ty _, (Flat.str z).ty, kit_ty (by decide +kernel), _, rfl, ?_⟩
        refine ⟨_, rfl, _, _, _, _, false, rfl, .ty _, (Flat.str z).ty, kit_ty (by decide +kernel), _, rfl, ?_⟩
        refine ⟨_, rfl, _, _, _, _, true, rfl, .ty _, (Flat.str z).ty, kit_ty (by decide +kernel), _, rfl, ?_⟩
        refine ⟨_, rfl, _, _, _, _, true, rfl, .ty _, (Flat.str z).ty, kit_ty (by decide +kernel), _, rfl, ?_⟩
        refine ⟨_, rfl, _, rfl, rfl, ?_⟩
        rw [decide_eq_true rfl]
        exact k H (Same.refl H)
    · have hlen := hp.length
      rcases hab with ⟨ha, hb⟩ | ⟨ha, hb⟩
      · refine ⟨_, rfl, rfl, _, rfl, ?_⟩
        refine ⟨_, rfl, _, _, _, _, false, rfl, .ty _, (ArN.lst hb).ty, kit_ty (by decide +kernel), _, rfl, ?_⟩
        refine ⟨_, rfl, _, _, _, _, false, rfl, .ty _, (ArN.lst hb).ty, kit_ty (by decide +kernel), _, rfl, ?_⟩
        refine ⟨_, rfl, _, _, _, _, false, rfl, .ty _, (ArN.lst hb).ty, kit_ty (by decide +kernel), _, rfl, ?_⟩
        refine ⟨_, rfl, _, _, _, _, false, rfl, .ty _, (ArN.lst hb).ty, kit_ty (by decide +kernel), _, rfl, _, _, _, _, false, rfl, .ty _, (ArN.lst ha).ty, kit_ty (by decide +kernel), rfl, _, rfl, ?_⟩
        refine ⟨_, rfl, _, _, _, _, true, rfl, .ty _, (ArN.lst hb).ty, kit_ty (by decide +kernel), _, rfl, _, _, _, _, true, rfl, .ty _, (ArN.lst ha).ty, kit_ty (by decide +kernel), rfl, _, rfl, ?_⟩
        refine ⟨_, rfl, a, _, rfl, .inl (SqL.of ha), _, rfl, b, _, rfl, .inl (SqL.of hb), rfl, _, rfl, ?_⟩
        rw [hlen]
        refine iteNS rfl ?_
        refine ⟨_, rfl, b, _, rfl, .inl (SqL.of hb), ?_⟩
        refine ⟨_, rfl, by omega, by omega, fun D nD => ?_⟩
        refine lc_range (lo := 0) (n := ((ys.length : Nat) : Int).toNat) (vs := [2]) (fun i H2 => H2 D = some (.lst ((List.replicate i true).map V.bl)) ∧ Same H H2) ⟨upd_same, sameUpd (Same.refl H) nD⟩ ?_ ?_
        · rintro i H2 hi ⟨hD, sm⟩
          rw [Int.toNat_natCast] at hi
          have ez : (0 : Int) + (i : Nat) = (i : Nat) := by omega
          rw [ez]
          have hx : xs[i]? = some xs[i] := List.getElem?_eq_getElem (by omega)
          obtain ⟨y, hy, hR⟩ := pairedL hp hx
          refine ⟨rfl, _, rfl, _, rfl, .inl ⟨a, _, _, _, rfl, rfl, (SqL.of (sm _ _ ha)), atI_nat hx, _, rfl, _, rfl, .inl ⟨b, _, _, _, rfl, rfl, (SqL.of (sm _ _ hb)), atI_nat hy, ?_⟩⟩⟩
          refine hsp _ _ _ _ _ (Rs _ _ _ _ sm hR) fun H3 s3 => ?_
          refine ⟨_, s3 _ _ hD, ?_, ?_, sameUpd (sm.trans s3) nD⟩
          · rw [List.length_map, List.length_replicate, sizeLine_eq]
            omega
          · rw [upd_same, List.replicate_succ', List.map_append]
            rfl
        · rintro H2 ⟨hD, sm⟩
          refine ⟨D, _, rfl, SqL.of hD, ?_⟩
          have : (List.replicate ((ys.length : Nat) : Int).toNat true).all id = true := by simp
          rw [this]
          exact k H2 sm
      · refine ⟨_, rfl, rfl, _, rfl, ?_⟩
        refine ⟨_, rfl, _, _, _, _, false, rfl, .ty _, hb.ty, kit_ty (by decide +kernel), _, rfl, ?_⟩
        refine ⟨_, rfl, _, _, _, _, false, rfl, .ty _, hb.ty, kit_ty (by decide +kernel), _, rfl, ?_⟩
        refine ⟨_, rfl, _, _, _, _, false, rfl, .ty _, hb.ty, kit_ty (by decide +kernel), _, rfl, ?_⟩
        refine ⟨_, rfl, _, _, _, _, true, rfl, .ty _, hb.ty, kit_ty (by decide +kernel), _, rfl, _, _, _, _, true, rfl, .ty _, ha.ty, kit_ty (by decide +kernel), rfl, _, rfl, ?_⟩
        refine ⟨_, rfl, _, _, _, _, false, rfl, .ty _, hb.ty, kit_ty (by decide +kernel), _, rfl, _, _, _, _, false, rfl, .ty _, ha.ty, kit_ty (by decide +kernel), rfl, _, rfl, ?_⟩
        refine ⟨_, rfl, a, _, rfl, .inr ha.sq, _, rfl, b, _, rfl, .inr hb.sq, rfl, _, rfl, ?_⟩
        rw [hlen]
        refine iteNS rfl ?_
        refine ⟨_, rfl, b, _, rfl, .inr hb.sq, ?_⟩
        refine ⟨_, rfl, by omega, by omega, fun D nD => ?_⟩
        refine lc_range (lo := 0) (n := ((ys.length : Nat) : Int).toNat) (vs := [2]) (fun i H2 => H2 D = some (.lst ((List.replicate i true).map V.bl)) ∧ Same H H2) ⟨upd_same, sameUpd (Same.refl H) nD⟩ ?_ ?_
        · rintro i H2 hi ⟨hD, sm⟩
          rw [Int.toNat_natCast] at hi
          have ez : (0 : Int) + (i : Nat) = (i : Nat) := by omega
          rw [ez]
          have hx : xs[i]? = some xs[i] := List.getElem?_eq_getElem (by omega)
          obtain ⟨y, hy, hR⟩ := pairedL hp hx
          refine ⟨rfl, _, rfl, _, rfl, .inr (.inl ⟨a, _, _, _, rfl, rfl, (ha.same sm).sq, atI_nat hx, _, rfl, _, rfl, .inr (.inl ⟨b, _, _, _, rfl, rfl, (hb.same sm).sq, atI_nat hy, ?_⟩)⟩)⟩
          refine hsp _ _ _ _ _ (Rs _ _ _ _ sm hR) fun H3 s3 => ?_
          refine ⟨_, s3 _ _ hD, ?_, ?_, sameUpd (sm.trans s3) nD⟩
          · rw [List.length_map, List.length_replicate, sizeLine_eq]
            omega
          · rw [upd_same, List.replicate_succ', List.map_append]
            rfl
        · rintro H2 ⟨hD, sm⟩
          refine ⟨D, _, rfl, SqL.of hD, ?_⟩
          have : (List.replicate ((ys.length : Nat) : Int).toNat true).all id = true := by simp
          rw [this]
          exact k H2 sm
theorem ok_equal0 (T : EquT K mg) : FnE P w K mg base CX0 1 ("_law_equal", none) ["_law_actual", "_law_expected"] (spEq 0) := by
  obtain ⟨fd, F⟩ := T.equal.d
  have h := equal_step (n := 0) T F (fn_no (P := P) (w := w) (K := K) (mg := mg) (base := base) rfl) (fun _ _ _ => False) (fun _ _ _ _ _ q => q) (fun _ _ _ _ _ q => q.elim)
  refine ⟨fd, h.imp fun vs H Q E ⟨x, y, e, q, k⟩ => ⟨x, y, e, .inl q, k⟩, F.bindsN fun _ _ _ _ _ _ us hl => match us, hl with | [_, _], _ => rfl, F.kp⟩
theorem ok_equalS (T : EquT K mg) {fd : FuncData} (F : FunD K "_law_equal" "_law_equal" (defArgs s__law_equal) (defBody s__law_equal) (defScope s__law_equal) [] [] (He.fAd K ("_law_equal", none)) fd) :
    ∀ n, FnOk P w K mg base CX0 (n + 1) (He.fAd K ("_law_equal", none)) fd ["_law_actual", "_law_expected"] (spEq n)
  | 0 => (equal_step (n := 0) T F (fn_no (P := P) (w := w) (K := K) (mg := mg) (base := base) rfl) (fun _ _ _ => False) (fun _ _ _ _ _ q => q) (fun _ _ _ _ _ q => q.elim)).imp fun vs H Q E ⟨x, y, e, q, k⟩ => ⟨x, y, e, .inl q, k⟩
  | n + 1 => (equal_step (n := n + 1) T F (ok_equalS T F n) (fun H => EqD H n) (fun _ _ _ _ s q => q.same s) (fun x y H Q E h k => ⟨x, y, rfl, h, k⟩)).imp fun vs H Q E q => q
theorem ok_equal (T : EquT K mg) (n : Nat) : FnE P w K mg base CX0 (n + 1) ("_law_equal", none) ["_law_actual", "_law_expected"] (spEq n) := by
  obtain ⟨fd, F⟩ := T.equal.d
  exact ⟨fd, ok_equalS T F n, F.bindsN fun _ _ _ _ _ _ us hl => match us, hl with | [_, _], _ => rfl, F.kp⟩
end
end Sw

end

section
set_option maxRecDepth 100000
set_option maxHeartbeats 4000000
set_option pp.deepTerms false
set_option pp.deepTerms.threshold 7
/-! k19: the law -/
namespace Sw
open PySem PySem.Spec PyProof.Rows L2 SwA LamX
structure L19T (K : PySem.W.Frag) (w : World) (mg : Str → Option Value) : Prop where
  l : LawT K mg
  s : SavT K w mg
  r : BafT K w mg
  aar : AarT K mg
  eq : EquT K mg
  eM : EKind K "InvalidName" 6
  eK : EKind K "UnknownName" 7
theorem at_slots {t : L2.St → Hp → Prop} {σ : L2.St} {H : Hp} (σ' : L2.St) (e : σ = σ') (h : t σ' H) : t σ H := e ▸ h
theorem rmul_to {i j k : Int} {H : Hp} {Q : VK} (e : i * j = k) (c : CMul i j) (h : Q (.int k) H) : rI CMul (fun i j => .int (i * j)) (.int i) (.int j) H Q := ⟨i, j, rfl, rfl, c, by subst e; exact h⟩
theorem shd_pl {s : Str} (h : ShD 1 (.str s)) : ShD 3 (.tuple [.str s, .int 0]) := (shd_tuple (n := 1) fun d hd => by
  simp only [List.mem_cons, List.not_mem_nil, or_false] at hd
  rcases hd with rfl | rfl
  · exact h
  · exact shd_int _).mono (by decide)
theorem int_in {i lo hi : Int} (h : lo ≤ i) (h2 : i ≤ hi) : isIntIn (.int i) lo hi = true := by
  unfold isIntIn
  simp [h, h2]
theorem lc_no_save {a b c d e : V} : List.lookup ("save" : Str) (corFs a b c d e) = none := by kernel_rfl
theorem lc_no_restore {a b c d e : V} : List.lookup ("restore" : Str) (corFs a b c d e) = none := by kernel_rfl
theorem snap19 {v : V} : snapOf (firstC p19) v = none := by
  cases v <;> rfl
theorem cor_at19v {K : PySem.W.Frag} {H : Hp} {pl : Plan} {text : Cs} {v : V} {R : VK} {E : XK} {x dx : Addr} (e : v = sV text) (hR : Reads text pl) (wf : WfP pl) (nx : H x = none) (ndx : H dx = none)
    (q : ∀ (L : CLoc) (H' : Hp), CorAt K H H' x L pl (firstC pl) → L.own = [] → R .non H') :
    spCorInit K (.ref x :: ([v] ++ [])) (upd (upd H dx (.own x)) x (.ins (He.ga K "Corridor") dx [])) R E := by
  subst e
  exact cor_at19 hR wf nx ndx q
theorem cat_to19 {i j : Str} {v : V} {H : Hp} {Q : VK} (e : V.str (i ++ j) = v) (hl : i.length + j.length ≤ sizeLine) (h : Q v H) : ∃ i' j', V.str i = .str i' ∧ V.str j = .str j' ∧ i'.length + j'.length ≤ sizeLine ∧ Q (.str (i' ++ j')) H := ⟨i, j, rfl, rfl, hl, by rw [e]; exact h⟩
theorem opA_good19 {K : PySem.W.Frag} {H : Hp} {a : Addr} {z : Str} {xs : List V} {ds : List PyData} (h : H a = some (.tup (.str z :: xs))) (hd : DpAll K H xs ds) (hs : SeqAt.shaped (.tuple (.str z :: ds)) = true) (hn : lenM z = xs.length + 1) : OpA K H (.ref a) true := by
  have := OpA.str h hd hs
  rwa [decide_eq_true hn] at this
theorem opA_put19 {K : PySem.W.Frag} {H : Hp} {a : Addr} {v v2 : V} {d d2 : PyData} (h : H a = some (.tup [.str "put", v, v2])) (hd : Dp K H v d) (hs : ShD 2 d) (hd2 : Dp K H v2 d2) (hs2 : ShD 2 d2) : OpA K H (.ref a) true :=
  opA_good19 h (.cons hd (.cons hd2 .nil)) ((shd_tuple (n := 2) fun x hx => by
    simp only [List.mem_cons, List.not_mem_nil, or_false] at hx
    rcases hx with rfl | rfl | rfl
    · exact (shd_str (by decide +kernel)).mono (by decide)
    · exact hs
    · exact hs2).shaped (by decide)) (show lenM "put" = 3 from by decide +kernel)
theorem S18.side19 {K : PySem.W.Frag} {H : Hp} {d p f : Addr} {T : List (Addr × Str)} {L : CLoc} {pl : Plan} {c : CSt} {xs : List (Addr × HO)} {vs ws : List V} (A : ApK K) (S : S18 K H d T p L pl c xs) (e : H f = some (.lst vs)) (hf : f ∉ badL d [] L p) (hne : ∀ q ∈ xs, ∀ zs, q.2 ≠ .lst zs) : S18 K (upd H f (.lst ws)) d T p L pl c xs :=
  S.side A e hf fun q hq z => hne q hq vs (Option.some.inj ((S.hx q hq).symm.trans (by rw [z]; exact e)))
def R19 (K : PySem.W.Frag) (d : Addr) (T : List (Addr × Str)) (p : Addr) (pl : Plan) (c : CSt) (TT : List (Addr × HO)) : Addr → Hp → Prop := fun D Hy => ∃ L, S18 K Hy d T p L pl c ((D, .lst []) :: TT)
theorem all_to19 {P : Program} {w : World} {K : PySem.W.Frag} {mg : Str → Option Value} {n : Nat} {base : Heap} {H : Hp} {Q : VK} {E : XK} {vs : List V} {d p : Addr} {T : List (Addr × Str)} {L : CLoc} {pl : Plan} {c : CSt} {TT : List (Addr × HO)} {l ex : Addr} {fs : List Addr} {z : Str} {x : PyData} (A1 : ApK K) (S : S18 K H d T p L pl c TT)
    (e : vs = [.ref l, .ref ex]) (hl : (l, HO.lst (fs.map V.ref)) ∈ TT) (hex : ∀ Hy : Hp, (∀ q ∈ TT, Hy q.1 = some q.2) → Dp K Hy (.ref ex) (.tuple [.str z, x])) (hsh : ShD 3 (.tuple [.str z, x])) (hfs : ∀ f ∈ fs, RaisesY P w K mg n base (R19 K d T p pl c TT) z x f)
    (k : ∀ (H' : Hp) (L' : CLoc), S18 K H' d T p L' pl c TT → Q (.bl true) H') : spAllY P w K mg n base vs H Q E := by
  subst e
  refine ⟨l, ex, R19 K d T p pl c TT, fs, z, x, rfl, ⟨_, S.hx _ hl⟩, fun D nD => ⟨L, S.new A1 nD (by intro ps q; cases q)⟩, fun D H1 H2 ⟨L, S⟩ s => ⟨L, S.same A1 s⟩, fun D H1 ⟨L, S⟩ => ⟨S.hx _ mm0, S.hx _ (List.mem_cons_of_mem _ hl), hex _ fun q hq => S.hx q (List.mem_cons_of_mem _ hq)⟩, hsh, hfs, fun D H' ⟨L', S'⟩ => k H' L' (S'.sub fun q hq => List.mem_cons_of_mem _ hq)⟩
theorem int_hi {i lo hi : Int} (h : hi < i) : isIntIn (.int i) lo hi = false := by
  unfold isIntIn
  simp
  omega
theorem int_lo {i lo hi : Int} (h : i < lo) : isIntIn (.int i) lo hi = false := by
  unfold isIntIn
  simp
  omega
section
variable {P : Program} {w : World} {K : PySem.W.Frag} {mg : Str → Option Value} {base : Heap}
abbrev laN : List Str := ["_law_script", "_law_d", "_law_plan", "_law_corridor", "_law_far", "_law_name", "_law_count", "_law_tile", "_law_calls", "_law_sign"]
theorem sc_law : FnScope laN ["_law_script"] (defScope s_law) := ⟨rfl, rfl, rfl, by decide +kernel, rfl, by decide +kernel, by decide +kernel⟩
def spLaw (K : PySem.W.Frag) (PT : Addr) : Sp := fun vs H Q _ => ∃ (a : Addr) (ns : List Int), vs = [.ref a] ∧ H PT = some (.tbl #[]) ∧ SqL K H a (ns.map V.int) ∧ ns.length ≤ 63 ∧ ∀ H', Q (.bl true) H'
theorem ok_law (T : L19T K w mg) {oc : Value} {od : Option Addr} {dV kV doc pm : Value} {an : Option Addr} {cA PT : Addr} {ct : Value} {osl : Array (Option Value)} (lk : K.lookup (He.fAd K ("law", none)) = some ⟨oc, od, .func (PySem.W.fnOf "law" "law" (defArgs s_law) (defBody s_law) (defScope s_law) dV kV doc pm an (.ref cA) ct), osl⟩) (hcd : PySem.W.codeIn K (.ref cA) "law" = true) (TB : LamX.TabB base mg cA PT) :
    FnOk P w K mg base CX0 18 (He.fAd K ("law", none)) (PySem.W.fnOf "law" "law" (defArgs s_law) (defBody s_law) (defScope s_law) dV kV doc pm an (.ref cA) ct) ["_law_script"] (spLaw K PT) := by
  obtain ⟨fdR, GR, bR, kR⟩ := ok_random (P := P) (w := w) (base := base) T.l
  obtain ⟨fdB, GB, bB, kB⟩ := ok_below (P := P) (w := w) (base := base) T.l
  obtain ⟨fdE, GE, bE, kE⟩ := ok_equal (P := P) (w := w) (base := base) T.eq 3
  obtain ⟨fdC, GC', bC, kC⟩ := ok_cor_init (P := P) (w := w) (base := base) T.r.b.e.o.r.c
  have GC := FnOk.calm GC'
  obtain ⟨fdST, GST', bST, kST⟩ := ok_step (P := P) (w := w) (base := base) T.r.b.e.o
  have GST := FnOk.calm GST'
  obtain ⟨fdPU, GPU', bPU, kPU⟩ := ok_put (P := P) (w := w) (base := base) T.r.b.e.o
  have GPU := FnOk.calm GPU'
  obtain ⟨fdU, GU, bU, kU⟩ := ok_undo (P := P) (w := w) (base := base) T.r.b.e.o.r
  obtain ⟨fdPA, GPA, bPA⟩ := ok_passed (P := P) (w := w) (base := base) T.s.p
  obtain ⟨fdSW, GSW, bSW⟩ := ok_sweeps (P := P) (w := w) (base := base) T.s.p
  obtain ⟨fdOP, GOP, bOP⟩ := ok_ops (P := P) (w := w) (base := base) T.s.p
  obtain ⟨fdSN, GSN, bSN⟩ := ok_sn (P := P) (w := w) (base := base) T.s.p
  obtain ⟨fdAA, _, _, kAA⟩ := ok_aarY (P := P) (w := w) (base := base) T.aar 14
  have AAR : ∀ base2 : Heap, ∃ fd, FnOk P w K mg base2 CX0 16 (He.fAd K ("_law_all_raise", none)) fd ["_law_calls", "_law_expected"] (spAllY P w K mg 14 base2) ∧ L2.Binds K fd ["_law_calls", "_law_expected"] [] := fun b2 => let ⟨fd, G, bi, _⟩ := ok_aarY (P := P) (w := w) (base := b2) T.aar 14; ⟨fd, G, bi⟩
  obtain ⟨fdEO, _, _, kEO⟩ := ok_eofX (P := P) (w := w) (base := base) T.aar.e 15
  have EOF : ∀ base2 : Heap, ∃ fd, FnOk P w K mg base2 CX0 16 (He.fAd K ("_law_error_of", none)) fd ["_law_call"] (spEofX P w K mg 15 base2) ∧ L2.Binds K fd ["_law_call"] [] := fun b2 => let ⟨fd, G, bi, _⟩ := ok_eofX (P := P) (w := w) (base := b2) T.aar.e 15; ⟨fd, G, bi⟩
  refine fn_of lk hcd sc_law (fun vs H Q E h => ?_) (fun A outer s H vs Q E hr h => ?_)
  · obtain ⟨a, ns, rfl, _⟩ := h
    rfl
  · obtain ⟨a, ns, rfl, hPT, ha, hn, k⟩ := h
    have hr1 : Room 1 _ := hr.mono (by decide)
    have hr2 : Room 2 _ := hr.mono (by decide)
    have hr4 : Room 4 _ := hr.mono (by decide)
    have hr6 : Room 6 _ := hr.mono (by decide)
    have hr10 : Room 10 _ := hr.mono (by decide)
    have hr16 : Room 16 _ := hr.mono (by decide)
    have A1 := T.r.b.e.o.r.c.ap
    obtain ⟨QT, hQT⟩ : ∃ QT : Str, QT = (cxOf CX0 P w K mg base laN "law" (defScope s_law) (He.fAd K ("law", none)) (.ref cA) A outer s H E).env.qual ++ "<lambda>" := ⟨_, rfl⟩
    refine ⟨_, PSs.nox (pss_cons (ps_set (i := 1) sc_law.nd rfl (.inl rfl) (pe_call GR hr1 rfl T.l.random.g kR bR .nil pass0 (pa_cons (pv 0) (pa_cons pe_int pa_nil))))
      (pss_cons (ps_set (i := 2) sc_law.nd rfl (.inl rfl) pe_str)
      (pss_cons (ps_set (i := 3) sc_law.nd rfl (.inr rfl) (pe_make T.r.b.e.o.r.c.cor.m GC hr10 rfl T.r.b.e.o.r.c.cor.g bC .nil pass0 (pa_cons (pe_op op_add_str (pv 2) pe_str) pa_nil)))
      (pss_cons (ps_set (i := 4) sc_law.nd rfl (.inl rfl) (pe_op op_mul (pe_call GB hr1 rfl T.l.below.g kB bB .nil pass0 (pa_cons (pv 1) (pa_cons pe_int pa_nil))) (pe_call GB hr1 rfl T.l.below.g kB bB .nil pass0 (pa_cons (pv 1) (pa_cons pe_int pa_nil)))))
      (pss_cons (ps_set (i := 5) sc_law.nd rfl (.inr rfl) (pe_ix ix_list (pe_lst (pa_cons pe_str (pa_cons pe_str (pa_cons pe_str (pa_cons pe_str (pa_cons pe_non (pa_cons pe_int (pa_cons (pe_tup (pa_cons pe_str pa_nil)) (pa_cons pe_str (pa_cons pe_bl pa_nil)))))))))) (pe_call GB hr1 rfl T.l.below.g kB bB .nil pass0 (pa_cons (pv 1) (pa_cons pe_int pa_nil))) (fun _ _ => rfl)))
      (pss_cons (ps_if (pt_cmpR (op_neD hr.units) (pe_callL (fun _ => rfl) EOF hr16 rfl T.aar.e.d.g kEO pass0 (pa_cons (pe_lamV0 (T := [(PT, QT)]) TB rfl (by rw [hQT]; exact List.mem_singleton.mpr rfl) (fun q hq _ => by rw [List.mem_singleton.mp hq]; exact hQT) rfl (lamFree (by rfl))) pa_nil)) (pe_tup (pa_cons pe_str (pa_cons pe_int pa_nil))) (nomark _))
        (pss_one (ps_ret pe_bl)) pss_nil)
      (pss_cons (ps_if (pt_not (pt_val (pe_callL (fun _ => rfl) AAR hr16 rfl T.aar.aar.g kAA pass0 (pa_cons (pe_lst (pa_cons (pe_lamV0 (T := [(PT, QT)]) TB rfl (by rw [hQT]; exact List.mem_singleton.mpr rfl) (fun q hq _ => by rw [List.mem_singleton.mp hq]; exact hQT) rfl (lamFree (by rfl))) (pa_cons (pe_lamV1 (T := [(PT, QT)]) TB rfl (by rw [hQT]; exact List.mem_singleton.mpr rfl) (fun q hq _ => by rw [List.mem_singleton.mp hq]; exact hQT) rfl rfl pe_int (lamFree (by rfl))) pa_nil))) (pa_cons (pe_tup (pa_cons pe_str (pa_cons pe_int pa_nil))) pa_nil)))))
        (pss_one (ps_ret pe_bl)) pss_nil)
      (pss_cons (ps_set (i := 6) sc_law.nd rfl (.inr rfl) (pe_ix ix_list (pe_lst (pa_cons (pe_op op_sub (pe_op op_sub pe_int pe_int) (pv 4)) (pa_cons (pe_op op_add pe_int (pv 4)) (pa_cons pe_non (pa_cons pe_bl (pa_cons pe_str pa_nil)))))) (pe_call GB hr1 rfl T.l.below.g kB bB .nil pass0 (pa_cons (pv 1) (pa_cons pe_int pa_nil))) (fun _ _ => rfl)))
      (pss_cons (ps_set (i := 7) sc_law.nd rfl (.inr rfl) (pe_ix ix_list (pe_lst (pa_cons (pe_op op_sub (pe_op op_sub pe_int pe_int) (pv 4)) (pa_cons (pe_op op_add pe_int (pv 4)) (pa_cons pe_non (pa_cons pe_bl (pa_cons pe_str pa_nil)))))) (pe_call GB hr1 rfl T.l.below.g kB bB .nil pass0 (pa_cons (pv 1) (pa_cons pe_int pa_nil))) (fun _ _ => rfl)))
      (pss_cons (ps_set (i := 8) sc_law.nd rfl (.inl rfl) (pe_lst (pa_cons (pe_lamV0 (T := [(PT, QT)]) TB rfl (by rw [hQT]; exact List.mem_singleton.mpr rfl) (fun q hq _ => by rw [List.mem_singleton.mp hq]; exact hQT) rfl (lamFree (by rfl))) (pa_cons (pe_lamV1 (T := [(PT, QT)]) TB rfl (by rw [hQT]; exact List.mem_singleton.mpr rfl) (fun q hq _ => by rw [List.mem_singleton.mp hq]; exact hQT) rfl rfl pe_int (lamFree (by rfl))) (pa_cons (pe_lamV1 (T := [(PT, QT)]) TB rfl (by rw [hQT]; exact List.mem_singleton.mpr rfl) (fun q hq _ => by rw [List.mem_singleton.mp hq]; exact hQT) rfl rfl pe_int (lamFree (by rfl))) pa_nil)))))
      (pss_cons (ps_expr (pe_bm PySem.F.plainAttrs_list PySem.F.slot_list_append PySem.F.type_list_append mt_append (pv 8) (pa_cons (pe_lamV1 (T := [(PT, QT)]) TB rfl (by rw [hQT]; exact List.mem_singleton.mpr rfl) (fun q hq _ => by rw [List.mem_singleton.mp hq]; exact hQT) rfl rfl pe_int (lamFree (by rfl))) pa_nil)))
      (pss_cons (ps_if (pt_not (pt_val (pe_callL (fun _ => rfl) AAR hr16 rfl T.aar.aar.g kAA pass0 (pa_cons (pv 8) (pa_cons (pe_tup (pa_cons pe_str (pa_cons pe_int pa_nil))) pa_nil)))))
        (pss_one (ps_ret pe_bl)) pss_nil)
      (pss_cons (ps_set (i := 9) sc_law.nd rfl (.inr rfl) (pe_ix ix_list (pe_lst (pa_cons pe_str (pa_cons pe_str (pa_cons pe_str (pa_cons pe_non (pa_cons pe_int (pa_cons (pe_tup (pa_cons pe_str pa_nil)) (pa_cons pe_int pa_nil)))))))) (pe_call GB hr1 rfl T.l.below.g kB bB .nil pass0 (pa_cons (pv 1) (pa_cons pe_int pa_nil))) (fun _ _ => rfl)))
      (pss_cons (ps_set (i := 8) sc_law.nd rfl (.inl rfl) (pe_lst (pa_cons (pe_lamV0 (T := [(PT, QT)]) TB rfl (by rw [hQT]; exact List.mem_singleton.mpr rfl) (fun q hq _ => by rw [List.mem_singleton.mp hq]; exact hQT) rfl (lamFree (by rfl))) (pa_cons (pe_lamV1 (T := [(PT, QT)]) TB rfl (by rw [hQT]; exact List.mem_singleton.mpr rfl) (fun q hq _ => by rw [List.mem_singleton.mp hq]; exact hQT) rfl rfl pe_int (lamFree (by rfl))) pa_nil))))
      (pss_cons (ps_if (pt_not (pt_val (pe_callL (fun _ => rfl) AAR hr16 rfl T.aar.aar.g kAA pass0 (pa_cons (pv 8) (pa_cons (pe_tup (pa_cons pe_str (pa_cons pe_int pa_nil))) pa_nil)))))
        (pss_one (ps_ret pe_bl)) pss_nil)
      (pss_cons (ps_if (PW.pt (pw_or (pt_cmpR (op_neNil (hu0 hr)) (pe_prop (pv 3) T.r.b.e.o.r.c.cor.c T.s.p.operations.p GOP hr2 bOP .nil pass0 rfl) (pe_lst pa_nil) (nomark _)) (pw_or (pt_cmpR op_ne (pe_prop (pv 3) T.r.b.e.o.r.c.cor.c T.s.p.passed.p GPA hr2 bPA .nil pass0 rfl) pe_int (nomark _)) (pw_or1 (pt_cmpR op_notBl (pe_meth0 (pv 3) T.r.b.e.o.r.c.cor.c T.r.b.e.o.r.undo.m GU hr1 bU .nil pass0) pe_bl (nomark _))))))
        (pss_one (ps_ret pe_bl)) pss_nil)
      (pss_cons (ps_if (PW.pt (pw_or (pt_cmpR op_ne (pe_callB call_len_seq (by rfl) T.l.len boot_len (pa_cons (pe_meth (pv 3) T.r.b.e.o.r.c.cor.c T.r.b.e.o.step.m GST hr6 bST .nil pass0 (pa_cons pe_int pa_nil)) pa_nil)) pe_int (nomark _)) (pw_or (pt_cmpR (op_neNil (hu0 hr)) (pe_meth (pv 3) T.r.b.e.o.r.c.cor.c T.r.b.e.o.step.m GST hr6 bST .nil pass0 (pa_cons pe_int pa_nil)) (pe_lst pa_nil) (nomark _)) (pw_or1 (pt_cmpR op_ne (pe_meth (pv 3) T.r.b.e.o.r.c.cor.c T.r.b.e.o.put.m GPU hr4 bPU .nil pass0 (pa_cons pe_int (pa_cons pe_str pa_nil))) pe_str (nomark _))))))
        (pss_one (ps_ret pe_bl)) pss_nil)
      (pss_one (ps_ret (pe_call GE hr4 rfl T.eq.equal.g kE bE .nil pass0 (pa_cons (pe_lst (pa_cons (pe_prop (pv 3) T.r.b.e.o.r.c.cor.c T.s.p.sweeps.p GSW hr2 bSW .nil pass0 rfl) (pa_cons (pe_prop (pv 3) T.r.b.e.o.r.c.cor.c T.s.p.passed.p GPA hr2 bPA .nil pass0 rfl) (pa_cons (pe_prop (pv 3) T.r.b.e.o.r.c.cor.c T.s.p.signs_now.p GSN hr2 bSN .nil pass0 rfl) pa_nil)))) (pa_cons (pe_lst (pa_cons (pe_lst (pa_cons pe_int (pa_cons pe_int pa_nil))) (pa_cons pe_int (pa_cons (pe_lst (pa_cons pe_str (pa_cons pe_str pa_nil))) pa_nil)))) pa_nil)))))))))))))))))))))), ?_⟩
    refine ⟨_, rfl, a, _, ns, rfl, ha, hn, fun d H1 nd s1 hd => ?_⟩
    refine ⟨_, rfl, ?_⟩
    have etx : V.str ("corridor 2; signs no red; moods go; robot 0 right; robot 1 left;" ++ " when go no leave no on go;") = sV t19 := by kernel_rfl
    refine ⟨_, _, rfl, rfl, by decide +kernel, ?_⟩
    intro p dx np ndp nep
    refine cor_at19v etx rd19 wf19 np ndp fun L H2 hc ho => ⟨rfl, ?_⟩
    have co19 : CorOk p19 0 (firstC p19) := CorOk.first wf19
    have S0 : S18 K H2 d [(PT, QT)] p L p19 (firstC p19) [] := ⟨⟨(let ⟨x, y, z, l, e⟩ := hd; ⟨x, y, z, l, hc.same _ _ e⟩), (fun a ha => nomatch ha), hc.refit, (fun z => by
      obtain ⟨_, _, _, _, e⟩ := hd
      have := hc.new d z
      rw [e] at this
      cases this), fun a ha => nomatch ha⟩, (fun q hq => by rw [List.mem_singleton.mp hq]; exact LamX.TabS.nil (hc.same _ _ (s1 _ _ hPT))), (fun q hq => nomatch hq), fun q hq => nomatch hq⟩
    clear hc ho np ndp nep hd s1 nd
    refine ⟨_, rfl, d, 2, rfl, S0.dw, by decide, by decide, fun r1 sr1 xr1 br1 hr1 lr1 => ?_⟩
    have S1 := S0.drawn A1 ((Drawn.refl S0.dw).draw (s := sr1) (c := xr1) lr1)
    generalize upd H2 d (drawL sr1 xr1 br1) = H3 at S1 ⊢
    clear S0
    refine ⟨_, rfl, d, 999, rfl, S1.dw, by decide, by decide, fun r2 sr2 xr2 br2 hr2 lr2 => ?_⟩
    have S2 := S1.drawn A1 ((Drawn.refl S1.dw).draw (s := sr2) (c := xr2) lr2)
    generalize upd H3 d (drawL sr2 xr2 br2) = H4 at S2 ⊢
    clear S1
    obtain ⟨far, hfar, hfl9⟩ : ∃ far : Nat, (r1 : Int) * (r2 : Int) = (far : Int) ∧ far ≤ 998 := by
      have h1 : r1 ≤ 1 := by omega
      have h2 : r2 ≤ 998 := by omega
      refine ⟨r1 * r2, by simp, ?_⟩
      have := Nat.mul_le_mul h1 h2
      omega
    refine rmul_to (k := (far : Nat)) hfar (.inl ⟨by omega, by omega⟩) ?_
    clear hfar
    refine ⟨(by show 1 ≤ sizeLine; decide), fun tu ntu => ?_⟩
    have S3 := S2.new A1 (o := .tup [.str "a"]) ntu (by intro ps q; cases q)
    generalize upd H4 tu (.tup [.str "a"]) = H5 at S3 ⊢
    clear S2 ntu
    refine ⟨(by show 9 ≤ sizeLine; decide), fun LN nLN => ?_⟩
    have S4 := S3.new A1 (o := .lst [.str "", .str "A", .str "a b", .str "abcdefghi", .non, .int 5, .ref tu, .str "a1", .bl true]) nLN (by intro ps q; cases q)
    generalize upd H5 LN (.lst [.str "", .str "A", .str "a b", .str "abcdefghi", .non, .int 5, .ref tu, .str "a1", .bl true]) = H6 at S4 ⊢
    clear S3 nLN
    refine ⟨_, rfl, d, 9, rfl, S4.dw, by decide, by decide, fun rn srn xrn brn hrn lrn => ?_⟩
    have S5 := S4.drawn A1 ((Drawn.refl S4.dw).draw (s := srn) (c := xrn) lrn)
    generalize upd H6 d (drawL srn xrn brn) = H7 at S5 ⊢
    clear S4
    obtain ⟨nv, gnv⟩ : ∃ v, ([.str "", .str "A", .str "a b", .str "abcdefghi", .non, .int 5, .ref tu, .str "a1", .bl true] : List V)[rn]? = some v := ⟨_, List.getElem?_eq_getElem hrn⟩
    refine ⟨LN, _, (rn : Int), nv, rfl, rfl, SqL.of (S5.hx _ (List.mem_of_getElem? (i := 0) rfl)), atI_nat gnv, ?_⟩
    obtain ⟨nN, hNa, hNb, hNc⟩ : ∃ n : String, (∀ Hx : Hp, Hx tu = some (.tup [.str "a"]) → ArN K Hx nv n) ∧ nameOk nv = false ∧ ∀ z, nv = .str z → z.length ≤ 1000 := by
      have := List.mem_of_getElem? gnv
      simp only [List.mem_cons, List.not_mem_nil, or_false] at this
      rcases this with rfl | rfl | rfl | rfl | rfl | rfl | rfl | rfl | rfl
      · exact ⟨_, fun _ _ => .str _, by decide +kernel, fun z e => by cases e; decide +kernel⟩
      · exact ⟨_, fun _ _ => .str _, by decide +kernel, fun z e => by cases e; decide +kernel⟩
      · exact ⟨_, fun _ _ => .str _, by decide +kernel, fun z e => by cases e; decide +kernel⟩
      · exact ⟨_, fun _ _ => .str _, by decide +kernel, fun z e => by cases e; decide +kernel⟩
      · exact ⟨_, fun _ _ => .non, rfl, fun z e => nomatch e⟩
      · exact ⟨_, fun _ _ => .int _, rfl, fun z e => nomatch e⟩
      · exact ⟨_, fun _ h => .tup h, rfl, fun z e => nomatch e⟩
      · exact ⟨_, fun _ _ => .str _, by decide +kernel, fun z e => by cases e; decide +kernel⟩
      · exact ⟨_, fun _ _ => .bl _, rfl, fun z e => nomatch e⟩
    clear gnv
    have ekM : ∀ Hz : Hp, ErrK K (.ref (He.ga K "InvalidName")) none Hz "name" (.int 0) := fun Hz => ⟨"InvalidName", 6, rfl, T.eM, rfl, .inl ⟨by decide, rfl, rfl⟩⟩
    have ekK : ∀ Hz : Hp, ErrK K (.ref (He.ga K "UnknownName")) none Hz "unknown" (.int 0) := fun Hz => ⟨"UnknownName", 7, rfl, T.eK, rfl, .inl ⟨by decide, rfl, rfl⟩⟩
    have ekN : ∀ Hz : Hp, ErrK K (.ref (He.ga K "InvalidNumber")) none Hz "number" (.int 0) := fun Hz => ⟨"InvalidNumber", 1, rfl, T.r.ekN, rfl, .inl ⟨by decide, rfl, rfl⟩⟩
    have ekS : ∀ Hz : Hp, ErrK K (.ref (He.ga K "UnknownSign")) none Hz "sign" (.int 0) := fun Hz => ⟨"UnknownSign", 2, rfl, T.r.ekU, rfl, .inl ⟨by decide, rfl, rfl⟩⟩
    refine ⟨S5.tb, fun f1 k1 H8 xN tb nf hf1 hc1 => ?_⟩
    have S6 := ((S5.ext A1 xN tb).addO hc1 (.inr ⟨_, rfl⟩) codeO_t).addO hf1 (.inr ⟨_, rfl⟩) (fun ps z => nomatch z)
    clear S5 xN tb nf
    intro base2 Lc2
    obtain ⟨fdSA, GSA, bSA, kSA⟩ := ok_save (P := P) (w := w) (base := base2) T.s
    refine ⟨f1, _, _, rfl, (vok0 (P := P) (w := w) (K := K) (mg := mg) (base := base2) (CX := L2.CX P w) (k := 14) (N := ["_law_corridor", "_law_name"]) (fr := ["_law_corridor", "_law_name"]) (ws := [some (.ref p), some (nv)]) (sp := fun _ H Q E => ∃ (dx : Addr) (fs : List (Str × V)), H p = some (.ins (He.ga K "Corridor") dx fs) ∧ List.lookup ("save" : Str) fs = none ∧ spSave K [.ref p, nv] H Q E) hf1 (NdefX.nscope_by (by rfl)) (Lc2.ce _ _ [3, 5] fun ok => NdefX.Caps.made ok (lamFree (by rfl)) (by decide +kernel) rfl) (fun _ _ _ => rfl) (fun A outer s H Q E hr ⟨dx, fs, h1, h2, h3⟩ => ⟨_, pe_meth (pv 0) T.r.b.e.o.r.c.cor.c T.s.save.m GSA (hr.mono (by decide)) bSA .nil (passes_call (takes_of rfl rfl rfl rfl) (fun _ _ _ _ h => h)) (pa_cons (pv 1) pa_nil), ⟨_, rfl, p, dx, fs, rfl, h1, h2, _, rfl, h3⟩⟩)), ⟨hf1, hc1⟩, ⟨rfl, _, _, S6.cs.cor.ob, lc_no_save, ?_⟩⟩
    refine ⟨cutH H8 (L.all p), p, L, p19, firstC p19, nv, nN, rfl, S6.cs.cor, hNa _ (S6.hx _ (List.mem_of_getElem? (i := 3) rfl)), hNc, by decide, fun hb H9 s8a => (ekM H9).told fun tA H10 s8b hA => ?_, fun nm e hk => absurd hNb (by rw [hk]; decide)⟩
    have S7 := (S6.same A1 s8a).same A1 s8b
    clear S6 fdSA GSA bSA kSA s8a s8b
    refine ⟨(by show 2 ≤ sizeLine; decide), fun exA nexA => ?_⟩
    replace hA := Dp.sameH (sameUpd (o := .tup [.str "name", .int 0]) (Same.refl _) nexA) hA
    have S8 := S7.new A1 (o := .tup [.str "name", .int 0]) nexA (by intro ps q; cases q)
    generalize upd H10 exA (.tup [.str "name", .int 0]) = H11 at S8 hA ⊢
    clear S7 nexA
    have hshA : ShD 3 (.tuple [.str "name", .int 0]) := shd_pl (shd_str (by decide +kernel))
    refine ⟨_, _, hA, .tup (SqT.of (S8.hx _ mm0)) (.cons (.str _) (.cons (.int _) .nil)), hshA.shaped (by decide), hshA.shaped (by decide), false, congrArg (fun b => V.bl (!b)) hshA.eqv, iteF ?_⟩
    clear hA hshA
    refine at_slots [some (.ref a), some (.ref d), some (.str "corridor 2; signs no red; moods go; robot 0 right; robot 1 left;"), some (.ref p), some (.int (far : Nat)), some nv, none, none, none, none] rfl ?_
    have S9 := S8.sub (ys := [(tu, .tup [.str "a"])]) fun q hq => by
      simp only [List.mem_cons, List.not_mem_nil, or_false] at hq
      rcases hq with rfl
      · exact List.mem_of_getElem? (i := 4) rfl
    clear S8
    refine ⟨S9.tb, fun f2 k2 H12 xN tb nf hf2 hc2 => ?_⟩
    have S10 := ((S9.ext A1 xN tb).addO hc2 (.inr ⟨_, rfl⟩) codeO_t).addO hf2 (.inr ⟨_, rfl⟩) (fun ps z => nomatch z)
    clear S9 xN tb nf
    refine ⟨S10.tb, fun f3 k3 t3 H13 xN tb nf ht3 hf3 hc3 => ?_⟩
    have S11 := (((S10.ext A1 xN tb).addO hc3 (.inr ⟨_, rfl⟩) codeO_t).addO ht3 (.inl trivial) (fun ps z => nomatch z)).addO hf3 (.inr ⟨_, rfl⟩) (fun ps z => nomatch z)
    clear S10 xN tb nf
    refine ⟨(by show 2 ≤ sizeLine; decide), fun LU nLU => ?_⟩
    have S12 := S11.new A1 (o := .lst [.ref f2, .ref f3]) nLU (by intro ps q; cases q)
    generalize upd H13 LU (.lst [.ref f2, .ref f3]) = H14 at S12 ⊢
    clear S11 nLU
    refine ⟨(by show 2 ≤ sizeLine; decide), fun ex_unknown nex_unknown => ?_⟩
    have S13 := S12.new A1 (o := .tup [.str "unknown", .int 0]) nex_unknown (by intro ps q; cases q)
    generalize upd H14 ex_unknown (.tup [.str "unknown", .int 0]) = H15 at S13 ⊢
    clear S12 nex_unknown
    intro base2 Lc2
    obtain ⟨fdRE, GRE, bRE, kRE⟩ := ok_restore (P := P) (w := w) (base := base2) T.s
    obtain ⟨fdSX, GSX, bSX, kSX⟩ := ok_step (P := P) (w := w) (base := base2) T.r.b.e.o
    obtain ⟨fdPX, GPX, bPX, kPX⟩ := ok_put (P := P) (w := w) (base := base2) T.r.b.e.o
    obtain ⟨fdTX, GTX, bTX, kTX⟩ := ok_turn (P := P) (w := w) (base := base2) T.r.b.e.o
    obtain ⟨fdBX, GBX, bBX, kBX⟩ := ok_batchF (P := P) (w := w) (base := base2) T.r
    refine all_to19 A1 S13 (l := LU) (ex := ex_unknown) (fs := [f2, f3]) (z := "unknown") (x := .int 0) rfl (List.mem_of_getElem? (i := 1) rfl) (fun Hy h => .tup (SqT.of (h _ (List.mem_of_getElem? (i := 0) rfl))) (.cons (.str _) (.cons (.int _) .nil))) (shd_pl (shd_str (by decide +kernel))) (fun f hf => ?_) fun H16 L14 S14 => ?_
    · simp only [List.mem_cons, List.not_mem_nil, or_false] at hf
      rcases hf with rfl | rfl
      · refine ⟨_, _, (vok0 (P := P) (w := w) (K := K) (mg := mg) (base := base2) (CX := L2.CX P w) (k := 13) (N := ["_law_corridor", "_law_name"]) (fr := ["_law_corridor", "_law_name"]) (ws := [some (.ref p), some (nv)]) (sp := fun _ H Q E => ∃ (dx : Addr) (fs : List (Str × V)), H p = some (.ins (He.ga K "Corridor") dx fs) ∧ List.lookup ("restore" : Str) fs = none ∧ spRestore K [.ref p, nv] H Q E) hf2 (NdefX.nscope_by (by rfl)) (Lc2.ce _ _ [3, 5] fun ok => NdefX.Caps.made ok (lamFree (by rfl)) (by decide +kernel) rfl) (fun _ _ _ => rfl) (fun A outer s H Q E hr ⟨dx, fs, h1, h2, h3⟩ => ⟨_, pe_meth (pv 0) T.r.b.e.o.r.c.cor.c T.s.restore.m GRE (hr.mono (by decide)) bRE .nil (passes_call (takes_of rfl rfl rfl rfl) (fun _ _ _ _ h => h)) (pa_cons (pv 1) pa_nil), ⟨_, rfl, p, dx, fs, rfl, h1, h2, _, rfl, h3⟩⟩)), fun D H1 ⟨L, Sy⟩ => ⟨⟨Sy.hx _ (List.mem_of_getElem? (i := 6) rfl), Sy.hx _ (List.mem_of_getElem? (i := 7) rfl)⟩, fun Q E hE => ⟨rfl, ?_⟩⟩⟩
        refine ⟨_, _, Sy.cs.cor.ob, lc_no_restore, ?_⟩
        exact ⟨cutH H1 (L.all p), p, L, p19, firstC p19, nv, _, rfl, Sy.cs.cor, hNa _ (Sy.hx _ (List.mem_of_getElem? (i := 8) rfl)), fun hn H2 s2 => hE _ none H2 (ekK H2) ⟨L, Sy.same A1 s2⟩, fun sn hs => by rw [snap19] at hs; cases hs⟩
      · refine ⟨_, _, (vok1 (P := P) (w := w) (K := K) (mg := mg) (base := base2) (CX := L2.CX P w) (k := 13) (N := ["_law_a", "_law_corridor"]) (fr := ["_law_corridor"]) (ws := [some (.ref p)]) (x := "_law_a") (sp := fun _ H Q E => ∃ (dx : Addr) (fs : List (Str × V)), H p = some (.ins (He.ga K "Corridor") dx fs) ∧ List.lookup ("restore" : Str) fs = none ∧ spRestore K [.ref p, .str "zz"] H Q E) hf3 (NdefX.nscope_by (by rfl)) (Lc2.ce _ _ [3] fun ok => NdefX.Caps.made ok (lamFree (by rfl)) (by decide +kernel) rfl) (fun _ _ _ => ⟨_, rfl, fun _ => rfl⟩) (fun A outer s H Q E hr ⟨dx, fs, h1, h2, h3⟩ => ⟨_, pe_meth (pv 1) T.r.b.e.o.r.c.cor.c T.s.restore.m GRE (hr.mono (by decide)) bRE .nil (passes_call (takes_of rfl rfl rfl rfl) (fun _ _ _ _ h => h)) (pa_cons pe_str pa_nil), ⟨_, rfl, p, dx, fs, rfl, h1, h2, h3⟩⟩)), fun D H1 ⟨L, Sy⟩ => ⟨⟨Sy.hx _ (List.mem_of_getElem? (i := 3) rfl), Sy.hx _ (List.mem_of_getElem? (i := 4) rfl), Sy.hx _ (List.mem_of_getElem? (i := 5) rfl)⟩, fun Q E hE => ⟨rfl, ?_⟩⟩⟩
        refine ⟨_, _, Sy.cs.cor.ob, lc_no_restore, ?_⟩
        exact ⟨cutH H1 (L.all p), p, L, p19, firstC p19, .str "zz", _, rfl, Sy.cs.cor, .str _, fun hn H2 s2 => hE _ none H2 (ekK H2) ⟨L, Sy.same A1 s2⟩, fun sn hs => by rw [snap19] at hs; cases hs⟩
    clear S13 fdRE GRE bRE kRE fdSX GSX bSX kSX fdPX GPX bPX kPX fdTX GTX bTX kTX fdBX GBX bBX kBX
    refine ⟨_, rfl, iteF ?_⟩
    have S15 := S14.sub (ys := [(tu, .tup [.str "a"])]) fun q hq => by
      simp only [List.mem_cons, List.not_mem_nil, or_false] at hq
      rcases hq with rfl
      · exact List.mem_of_getElem? (i := 7) rfl
    clear S14
    refine ⟨_, _, rfl, rfl, _, rfl, _, _, rfl, rfl, _, rfl, _, _, rfl, rfl, (by show 5 ≤ sizeLine; decide), fun LC nLC => ?_⟩
    have S16 := S15.new A1 (o := .lst [.int (0 - 1 - (far : Nat)), .int (501 + (far : Nat)), .non, .bl true, .str "1"]) nLC (by intro ps q; cases q)
    generalize upd H16 LC (.lst [.int (0 - 1 - (far : Nat)), .int (501 + (far : Nat)), .non, .bl true, .str "1"]) = H17 at S16 ⊢
    clear S15 nLC
    refine ⟨_, rfl, d, 5, rfl, S16.dw, by decide, by decide, fun rc src xrc brc hrc lrc => ?_⟩
    have S17 := S16.drawn A1 ((Drawn.refl S16.dw).draw (s := src) (c := xrc) lrc)
    generalize upd H17 d (drawL src xrc brc) = H18 at S17 ⊢
    clear S16
    obtain ⟨cv, gcv⟩ : ∃ v, ([.int (0 - 1 - (far : Nat)), .int (501 + (far : Nat)), .non, .bl true, .str "1"] : List V)[rc]? = some v := ⟨_, List.getElem?_eq_getElem hrc⟩
    refine ⟨LC, _, (rc : Int), cv, rfl, rfl, SqL.of (S17.hx _ (List.mem_of_getElem? (i := 0) rfl)), atI_nat gcv, ?_⟩
    obtain ⟨nC, hCa, hCb⟩ : ∃ n : String, (∀ Hx : Hp, ArN K Hx cv n) ∧ isIntIn cv 0 500 = false := by
      have := List.mem_of_getElem? gcv
      simp only [List.mem_cons, List.not_mem_nil, or_false] at this
      rcases this with rfl | rfl | rfl | rfl | rfl
      · exact ⟨_, fun _ => .int _, int_lo (by omega)⟩
      · exact ⟨_, fun _ => .int _, int_hi (by omega)⟩
      · exact ⟨_, fun _ => .non, rfl⟩
      · exact ⟨_, fun _ => .bl _, rfl⟩
      · exact ⟨_, fun _ => .str _, rfl⟩
    clear gcv
    refine ⟨_, _, rfl, rfl, _, rfl, _, _, rfl, rfl, _, rfl, _, _, rfl, rfl, (by show 5 ≤ sizeLine; decide), fun LI nLI => ?_⟩
    have S18 := S17.new A1 (o := .lst [.int (0 - 1 - (far : Nat)), .int (2 + (far : Nat)), .non, .bl true, .str "1"]) nLI (by intro ps q; cases q)
    generalize upd H18 LI (.lst [.int (0 - 1 - (far : Nat)), .int (2 + (far : Nat)), .non, .bl true, .str "1"]) = H19 at S18 ⊢
    clear S17 nLI
    refine ⟨_, rfl, d, 5, rfl, S18.dw, by decide, by decide, fun ri sri xri bri hri lri => ?_⟩
    have S19 := S18.drawn A1 ((Drawn.refl S18.dw).draw (s := sri) (c := xri) lri)
    generalize upd H19 d (drawL sri xri bri) = H20 at S19 ⊢
    clear S18
    obtain ⟨iv, giv⟩ : ∃ v, ([.int (0 - 1 - (far : Nat)), .int (2 + (far : Nat)), .non, .bl true, .str "1"] : List V)[ri]? = some v := ⟨_, List.getElem?_eq_getElem hri⟩
    refine ⟨LI, _, (ri : Int), iv, rfl, rfl, SqL.of (S19.hx _ (List.mem_of_getElem? (i := 0) rfl)), atI_nat giv, ?_⟩
    obtain ⟨nI, dI, hIa, hIb, hId, hIs⟩ : ∃ (n : String) (dt : PyData), (∀ Hx : Hp, ArN K Hx iv n) ∧ isIntIn iv 0 1 = false ∧ (∀ Hx : Hp, Dp K Hx iv dt) ∧ ShD 2 dt := by
      have := List.mem_of_getElem? giv
      simp only [List.mem_cons, List.not_mem_nil, or_false] at this
      rcases this with rfl | rfl | rfl | rfl | rfl
      · exact ⟨_, _, fun _ => .int _, int_lo (by omega), fun _ => .int _, (shd_int _).mono (by decide)⟩
      · exact ⟨_, _, fun _ => .int _, int_hi (by omega), fun _ => .int _, (shd_int _).mono (by decide)⟩
      · exact ⟨_, _, fun _ => .non, rfl, fun _ => .non, shd_none.mono (by decide)⟩
      · exact ⟨_, _, fun _ => .bl _, rfl, fun _ => .bl _, (shd_bool _).mono (by decide)⟩
      · exact ⟨_, _, fun _ => .str _, rfl, fun _ => .str _, (shd_str (by decide +kernel)).mono (by decide)⟩
    clear giv
    have S20 := S19.sub (ys := [(tu, .tup [.str "a"])]) fun q hq => by
      simp only [List.mem_cons, List.not_mem_nil, or_false] at hq
      rcases hq with rfl
      · exact List.mem_of_getElem? (i := 2) rfl
    clear S19
    refine ⟨S20.tb, fun f4 k4 H21 xN tb nf hf4 hc4 => ?_⟩
    have S21 := ((S20.ext A1 xN tb).addO hc4 (.inr ⟨_, rfl⟩) codeO_t).addO hf4 (.inr ⟨_, rfl⟩) (fun ps z => nomatch z)
    clear S20 xN tb nf
    refine ⟨S21.tb, fun f5 k5 t5 H22 xN tb nf ht5 hf5 hc5 => ?_⟩
    have S22 := (((S21.ext A1 xN tb).addO hc5 (.inr ⟨_, rfl⟩) codeO_t).addO ht5 (.inl trivial) (fun ps z => nomatch z)).addO hf5 (.inr ⟨_, rfl⟩) (fun ps z => nomatch z)
    clear S21 xN tb nf
    refine ⟨S22.tb, fun f6 k6 t6 H23 xN tb nf ht6 hf6 hc6 => ?_⟩
    have S23 := (((S22.ext A1 xN tb).addO hc6 (.inr ⟨_, rfl⟩) codeO_t).addO ht6 (.inl trivial) (fun ps z => nomatch z)).addO hf6 (.inr ⟨_, rfl⟩) (fun ps z => nomatch z)
    clear S22 xN tb nf
    refine ⟨(by show 3 ≤ sizeLine; decide), fun LL nLL => ?_⟩
    have llB := S23.cs.new nLL
    have S24 := S23.same A1 (sameUpd (o := .lst [.ref f4, .ref f5, .ref f6]) (Same.refl _) nLL)
    have hLL := @upd_same H23 LL (.lst [.ref f4, .ref f5, .ref f6])
    generalize upd H23 LL (.lst [.ref f4, .ref f5, .ref f6]) = H24 at S24 hLL ⊢
    clear S23 nLL
    refine ⟨_, rfl, .inl ⟨rfl, _, SqL.of hLL⟩, ?_⟩
    refine ⟨S24.tb, fun f7 k7 t7 H25 xN tb nf ht7 hf7 hc7 => ?_⟩
    replace hLL := xN _ _ hLL (fun _ z => by cases z)
    have S25 := (((S24.ext A1 xN tb).addO hc7 (.inr ⟨_, rfl⟩) codeO_t).addO ht7 (.inl trivial) (fun ps z => nomatch z)).addO hf7 (.inr ⟨_, rfl⟩) (fun ps z => nomatch z)
    clear S24 xN tb nf
    refine ⟨LL, _, _, rfl, rfl, hLL, (by rw [sizeLine_eq]; show 3 < 16777216; decide), ?_⟩
    have S26 := (S25.side19 A1 (ws := ([.ref f4, .ref f5, .ref f6] ++ [.ref f7])) hLL llB (fun q hq => by
      simp only [List.mem_cons, List.not_mem_nil, or_false] at hq
      rcases hq with rfl | rfl | rfl | rfl | rfl | rfl | rfl | rfl | rfl | rfl | rfl | rfl
      · exact fun zs z => nomatch z
      · exact fun zs z => nomatch z
      · exact codeO_l
      · exact fun zs z => nomatch z
      · exact fun zs z => nomatch z
      · exact codeO_l
      · exact fun zs z => nomatch z
      · exact fun zs z => nomatch z
      · exact codeO_l
      · exact fun zs z => nomatch z
      · exact codeO_l
      · exact fun zs z => nomatch z
      )).add (o := .lst ([.ref f4, .ref f5, .ref f6] ++ [.ref f7])) upd_same llB (by intro ps q; cases q)
    generalize upd H25 LL (.lst ([.ref f4, .ref f5, .ref f6] ++ [.ref f7])) = H26 at S26 ⊢
    clear S25 hLL llB
    refine ⟨_, rfl, ?_⟩
    refine ⟨(by show 2 ≤ sizeLine; decide), fun ex_number nex_number => ?_⟩
    have S27 := S26.new A1 (o := .tup [.str "number", .int 0]) nex_number (by intro ps q; cases q)
    generalize upd H26 ex_number (.tup [.str "number", .int 0]) = H27 at S27 ⊢
    clear S26 nex_number
    intro base2 Lc2
    obtain ⟨fdRE, GRE, bRE, kRE⟩ := ok_restore (P := P) (w := w) (base := base2) T.s
    obtain ⟨fdSX, GSX, bSX, kSX⟩ := ok_step (P := P) (w := w) (base := base2) T.r.b.e.o
    obtain ⟨fdPX, GPX, bPX, kPX⟩ := ok_put (P := P) (w := w) (base := base2) T.r.b.e.o
    obtain ⟨fdTX, GTX, bTX, kTX⟩ := ok_turn (P := P) (w := w) (base := base2) T.r.b.e.o
    obtain ⟨fdBX, GBX, bBX, kBX⟩ := ok_batchF (P := P) (w := w) (base := base2) T.r
    refine all_to19 A1 S27 (l := LL) (ex := ex_number) (fs := [f4, f5, f6, f7]) (z := "number") (x := .int 0) rfl (List.mem_of_getElem? (i := 1) rfl) (fun Hy h => .tup (SqT.of (h _ (List.mem_of_getElem? (i := 0) rfl))) (.cons (.str _) (.cons (.int _) .nil))) (shd_pl (shd_str (by decide +kernel))) (fun f hf => ?_) fun H28 L28 S28 => ?_
    · simp only [List.mem_cons, List.not_mem_nil, or_false] at hf
      rcases hf with rfl | rfl | rfl | rfl
      · refine ⟨_, _, (vok0 (P := P) (w := w) (K := K) (mg := mg) (base := base2) (CX := L2.CX P w) (k := 13) (N := ["_law_corridor", "_law_count"]) (fr := ["_law_corridor", "_law_count"]) (ws := [some (.ref p), some (cv)]) (sp := fun _ H Q E => ∃ (dx : Addr) (fs : List (Str × V)), H p = some (.ins (He.ga K "Corridor") dx fs) ∧ List.lookup ("step" : Str) fs = none ∧ spStep K [.ref p, cv] H Q E) hf4 (NdefX.nscope_by (by rfl)) (Lc2.ce _ _ [3, 6] fun ok => NdefX.Caps.made ok (lamFree (by rfl)) (by decide +kernel) rfl) (fun _ _ _ => rfl) (fun A outer s H Q E hr ⟨dx, fs, h1, h2, h3⟩ => ⟨_, pe_meth (pv 0) T.r.b.e.o.r.c.cor.c T.r.b.e.o.step.m GSX (hr.mono (by decide)) bSX .nil (passes_call (takes_of rfl rfl rfl rfl) (fun _ _ _ _ h => h)) (pa_cons (pv 1) pa_nil), ⟨_, rfl, p, dx, fs, rfl, h1, h2, _, rfl, h3⟩⟩)), fun D H1 ⟨L, Sy⟩ => ⟨⟨Sy.hx _ (List.mem_of_getElem? (i := 12) rfl), Sy.hx _ (List.mem_of_getElem? (i := 13) rfl)⟩, fun Q E hE => ⟨rfl, ?_⟩⟩⟩
        refine ⟨_, _, Sy.cs.cor.ob, lc_no_step, ?_⟩
        exact ⟨cutH H1 (L.all p), p, L, p19, firstC p19, cv, _, rfl, co19.opIn wf19 (by decide) Sy.cs.cor, hCa _, fun hb H2 s2 => hE _ none H2 (ekN H2) ⟨L, Sy.same A1 s2⟩, fun k2 hk2 hle => absurd hCb (by rw [hk2, int_in (by omega) (by omega)]; decide)⟩
      · refine ⟨_, _, (vok1 (P := P) (w := w) (K := K) (mg := mg) (base := base2) (CX := L2.CX P w) (k := 13) (N := ["_law_a", "_law_corridor", "_law_tile"]) (fr := ["_law_corridor", "_law_tile"]) (ws := [some (.ref p), some (iv)]) (x := "_law_a") (sp := fun _ H Q E => ∃ (dx : Addr) (fs : List (Str × V)), H p = some (.ins (He.ga K "Corridor") dx fs) ∧ List.lookup ("put" : Str) fs = none ∧ spPut K [.ref p, iv, .non] H Q E) hf5 (NdefX.nscope_by (by rfl)) (Lc2.ce _ _ [3, 7] fun ok => NdefX.Caps.made ok (lamFree (by rfl)) (by decide +kernel) rfl) (fun _ _ _ => ⟨_, rfl, fun _ => rfl⟩) (fun A outer s H Q E hr ⟨dx, fs, h1, h2, h3⟩ => ⟨_, pe_meth (pv 1) T.r.b.e.o.r.c.cor.c T.r.b.e.o.put.m GPX (hr.mono (by decide)) bPX .nil (passes_call (takes_of rfl rfl rfl rfl) (fun _ _ _ _ h => h)) (pa_cons (pv 2) (pa_cons pe_non pa_nil)), ⟨_, rfl, p, dx, fs, rfl, h1, h2, _, rfl, h3⟩⟩)), fun D H1 ⟨L, Sy⟩ => ⟨⟨Sy.hx _ (List.mem_of_getElem? (i := 9) rfl), Sy.hx _ (List.mem_of_getElem? (i := 10) rfl), Sy.hx _ (List.mem_of_getElem? (i := 11) rfl)⟩, fun Q E hE => ⟨rfl, ?_⟩⟩⟩
        refine ⟨_, _, Sy.cs.cor.ob, lc_no_put, ?_⟩
        exact ⟨cutH H1 (L.all p), p, L, p19, firstC p19, iv, .non, _, _, rfl, co19.opIn wf19 (by decide) Sy.cs.cor, hIa _, .non, fun hb H2 s2 => hE _ none H2 (ekN H2) ⟨L, Sy.same A1 s2⟩, (fun hb => absurd hIb (by have hb : isIntIn iv 0 1 = true := hb; rw [hb]; decide)), fun k2 g2 hk2 hle => absurd hIb (by have hle : k2 < 2 := hle; rw [hk2, int_in (by omega) (by omega)]; decide)⟩
      · refine ⟨_, _, (vok1 (P := P) (w := w) (K := K) (mg := mg) (base := base2) (CX := L2.CX P w) (k := 13) (N := ["_law_b", "_law_corridor", "_law_tile"]) (fr := ["_law_corridor", "_law_tile"]) (ws := [some (.ref p), some (iv)]) (x := "_law_b") (sp := fun _ H Q E => ∃ (dx : Addr) (fs : List (Str × V)), H p = some (.ins (He.ga K "Corridor") dx fs) ∧ List.lookup ("turn" : Str) fs = none ∧ spTurn K [.ref p, iv] H Q E) hf6 (NdefX.nscope_by (by rfl)) (Lc2.ce _ _ [3, 7] fun ok => NdefX.Caps.made ok (lamFree (by rfl)) (by decide +kernel) rfl) (fun _ _ _ => ⟨_, rfl, fun _ => rfl⟩) (fun A outer s H Q E hr ⟨dx, fs, h1, h2, h3⟩ => ⟨_, pe_meth (pv 1) T.r.b.e.o.r.c.cor.c T.r.b.e.o.turn.m GTX (hr.mono (by decide)) bTX .nil (passes_call (takes_of rfl rfl rfl rfl) (fun _ _ _ _ h => h)) (pa_cons (pv 2) pa_nil), ⟨_, rfl, p, dx, fs, rfl, h1, h2, _, rfl, h3⟩⟩)), fun D H1 ⟨L, Sy⟩ => ⟨⟨Sy.hx _ (List.mem_of_getElem? (i := 6) rfl), Sy.hx _ (List.mem_of_getElem? (i := 7) rfl), Sy.hx _ (List.mem_of_getElem? (i := 8) rfl)⟩, fun Q E hE => ⟨rfl, ?_⟩⟩⟩
        refine ⟨_, _, Sy.cs.cor.ob, lc_no_turn, ?_⟩
        exact ⟨cutH H1 (L.all p), p, L, p19, firstC p19, iv, _, rfl, co19.opIn wf19 (by decide) Sy.cs.cor, hIa _, fun hb H2 s2 => hE _ none H2 (ekN H2) ⟨L, Sy.same A1 s2⟩, fun k2 hk2 hle => absurd hIb (by have hle : k2 < 2 := hle; rw [hk2, int_in (by omega) (by omega)]; decide)⟩
      · refine ⟨_, _, (vok1 (P := P) (w := w) (K := K) (mg := mg) (base := base2) (CX := L2.CX P w) (k := 13) (N := ["_law_c", "_law_corridor", "_law_tile"]) (fr := ["_law_corridor", "_law_tile"]) (ws := [some (.ref p), some (iv)]) (x := "_law_c") (sp := fun _ H Q E => ∃ (dx : Addr) (fs : List (Str × V)), H p = some (.ins (He.ga K "Corridor") dx fs) ∧ List.lookup ("batch" : Str) fs = none ∧ (tCons (tLst (tCons (tTup (tCons (tC (.str "step")) (tCons (tC (.int 2)) tNil))) (tCons (tTup (tCons (tC (.str "turn")) (tCons (tC (.int 1)) tNil))) (tCons (tTup (tCons (tC (.str "put")) (tCons (tVar 2) (tCons (tC (.str "red")) tNil)))) tNil)))) tNil) (NdefX.startF ["_law_c", "_law_corridor", "_law_tile"] [.int 0] [some (.ref p), some (iv)]) H (fun xs H2 => spBatchF K (V.ref p :: (xs ++ [])) H2 Q E)) hf7 (NdefX.nscope_by (by rfl)) (Lc2.ce _ _ [3, 7] fun ok => NdefX.Caps.made ok (lamFree (by rfl)) (by decide +kernel) rfl) (fun _ _ _ => ⟨_, rfl, fun _ => rfl⟩) (fun A outer s H Q E hr ⟨dx, fs, h1, h2, h3⟩ => ⟨_, pe_meth (pv 1) T.r.b.e.o.r.c.cor.c T.r.b.batch.m GBX (hr.mono (by decide)) bBX .nil (passes_call (takes_of rfl rfl rfl rfl) (fun _ _ _ _ h => h)) (pa_cons (pe_lst (pa_cons (pe_tup (pa_cons pe_str (pa_cons pe_int pa_nil))) (pa_cons (pe_tup (pa_cons pe_str (pa_cons pe_int pa_nil))) (pa_cons (pe_tup (pa_cons pe_str (pa_cons (pv 2) (pa_cons pe_str pa_nil)))) pa_nil)))) pa_nil), ⟨_, rfl, p, dx, fs, rfl, h1, h2, h3⟩⟩)), fun D H1 ⟨L, Sy⟩ => ⟨⟨Sy.hx _ (List.mem_of_getElem? (i := 3) rfl), Sy.hx _ (List.mem_of_getElem? (i := 4) rfl), Sy.hx _ (List.mem_of_getElem? (i := 5) rfl)⟩, fun Q E hE => ⟨rfl, ?_⟩⟩⟩
        refine ⟨_, _, Sy.cs.cor.ob, lc_no_batch, ?_⟩
        refine ⟨(by show 2 ≤ sizeLine; decide), fun b0 nb0 => ?_⟩
        have Sb0 := Sy.new A1 (o := .tup [.str "step", .int 2]) nb0 (by intro ps q; cases q)
        generalize upd H1 b0 (.tup [.str "step", .int 2]) = Hb0 at Sb0 ⊢
        refine ⟨(by show 2 ≤ sizeLine; decide), fun b1 nb1 => ?_⟩
        have Sb1 := Sb0.new A1 (o := .tup [.str "turn", .int 1]) nb1 (by intro ps q; cases q)
        generalize upd Hb0 b1 (.tup [.str "turn", .int 1]) = Hb1 at Sb1 ⊢
        refine ⟨_, rfl, (by show 3 ≤ sizeLine; decide), fun b2 nb2 => ?_⟩
        have Sb2 := Sb1.new A1 (o := .tup [.str "put", iv, .str "red"]) nb2 (by intro ps q; cases q)
        generalize upd Hb1 b2 (.tup [.str "put", iv, .str "red"]) = Hb2 at Sb2 ⊢
        refine ⟨(by show 3 ≤ sizeLine; decide), fun bl nbl => ?_⟩
        have Sc := Sb2.new A1 (o := .lst [.ref b0, .ref b1, .ref b2]) nbl (by intro ps q; cases q)
        generalize upd Hb2 bl (.lst [.ref b0, .ref b1, .ref b2]) = Hc at Sc ⊢
        obtain ⟨cm, ds, hex⟩ := ex19a
        refine ⟨cutH Hc (L.all p), p, bl, L, p19, firstC p19, cm, 0, 2, [b0, b1, b2], [.step (.int 2), .turn (.int 1), .put iv (.str "red")], ds, _, .number, rfl, Sc.cs.cor, wf19, co19, (show 0 + 3 ≤ 50000 from by decide), Sc.inCut mm0, .cons ⟨⟨Sc.inCut (List.mem_of_getElem? (i := 3) rfl), _, .int 2⟩, opA_good19 (Sc.inCut (List.mem_of_getElem? (i := 3) rfl)) (.cons (.int _) .nil) (by decide +kernel) (by decide +kernel)⟩ (.cons ⟨⟨Sc.inCut (List.mem_of_getElem? (i := 2) rfl), _, .int 1⟩, opA_good19 (Sc.inCut (List.mem_of_getElem? (i := 2) rfl)) (.cons (.int _) .nil) (by decide +kernel) (by decide +kernel)⟩ (.cons ⟨⟨Sc.inCut (List.mem_of_getElem? (i := 1) rfl), ⟨_, hIa _⟩, _, .str _⟩, opA_put19 (Sc.inCut (List.mem_of_getElem? (i := 1) rfl)) (hId _) hIs (.str _) ((shd_str (by decide +kernel)).mono (by decide))⟩ .nil)), hex, rfl, ex19n hIb, fun L2 H2 hc2 eo es => ?_⟩
        exact hE _ none H2 (ekN H2) ⟨L2, (Sc.exec hc2).sub fun q hq => List.mem_cons_of_mem _ (List.mem_cons_of_mem _ (List.mem_cons_of_mem _ (List.mem_cons_of_mem _ (hq))))⟩
    clear S27 fdRE GRE bRE kRE fdSX GSX bSX kSX fdPX GPX bPX kPX fdTX GTX bTX kTX fdBX GBX bBX kBX
    refine ⟨_, rfl, iteF ?_⟩
    refine at_slots [some (.ref a), some (.ref d), some (.str "corridor 2; signs no red; moods go; robot 0 right; robot 1 left;"), some (.ref p), some (.int (far : Nat)), some nv, some cv, some iv, some (.ref LL), none] rfl ?_
    have S29 := S28.sub (ys := []) fun q hq => by
      cases hq
    clear S28
    refine ⟨(by show 1 ≤ sizeLine; decide), fun tg ntg => ?_⟩
    have S30 := S29.new A1 (o := .tup [.str "red"]) ntg (by intro ps q; cases q)
    generalize upd H28 tg (.tup [.str "red"]) = H29 at S30 ⊢
    clear S29 ntg
    refine ⟨(by show 7 ≤ sizeLine; decide), fun LG nLG => ?_⟩
    have S31 := S30.new A1 (o := .lst [.str "", .str "go", .str "Red", .non, .int 5, .ref tg, .int 0]) nLG (by intro ps q; cases q)
    generalize upd H29 LG (.lst [.str "", .str "go", .str "Red", .non, .int 5, .ref tg, .int 0]) = H30 at S31 ⊢
    clear S30 nLG
    refine ⟨_, rfl, d, 7, rfl, S31.dw, by decide, by decide, fun rg srg xrg brg hrg lrg => ?_⟩
    have S32 := S31.drawn A1 ((Drawn.refl S31.dw).draw (s := srg) (c := xrg) lrg)
    generalize upd H30 d (drawL srg xrg brg) = H31 at S32 ⊢
    clear S31
    obtain ⟨gv, ggv⟩ : ∃ v, ([.str "", .str "go", .str "Red", .non, .int 5, .ref tg, .int 0] : List V)[rg]? = some v := ⟨_, List.getElem?_eq_getElem hrg⟩
    refine ⟨LG, _, (rg : Int), gv, rfl, rfl, SqL.of (S32.hx _ (List.mem_of_getElem? (i := 0) rfl)), atI_nat ggv, ?_⟩
    obtain ⟨nG, dG, hGa, hGb, hGd, hGs⟩ : ∃ (n : String) (dt : PyData), (∀ Hx : Hp, Hx tg = some (.tup [.str "red"]) → ArN K Hx gv n) ∧ (∀ cs ∈ p19.signs, gv ≠ sV cs) ∧ (∀ Hx : Hp, Hx tg = some (.tup [.str "red"]) → Dp K Hx gv dt) ∧ ShD 2 dt := by
      have := List.mem_of_getElem? ggv
      simp only [List.mem_cons, List.not_mem_nil, or_false] at this
      rcases this with rfl | rfl | rfl | rfl | rfl | rfl | rfl
      · exact ⟨_, _, fun _ _ => .str _, by decide +kernel, fun _ _ => .str _, (shd_str (by decide +kernel)).mono (by decide)⟩
      · exact ⟨_, _, fun _ _ => .str _, by decide +kernel, fun _ _ => .str _, (shd_str (by decide +kernel)).mono (by decide)⟩
      · exact ⟨_, _, fun _ _ => .str _, by decide +kernel, fun _ _ => .str _, (shd_str (by decide +kernel)).mono (by decide)⟩
      · exact ⟨_, _, fun _ _ => .non, (fun cs _ e => by cases e), fun _ _ => .non, shd_none.mono (by decide)⟩
      · exact ⟨_, _, fun _ _ => .int _, (fun cs _ e => by cases e), fun _ _ => .int _, (shd_int _).mono (by decide)⟩
      · exact ⟨_, _, fun _ h => .tup h, (fun cs _ e => by cases e), fun _ h => .tup (SqT.of h) (.cons (.str _) .nil), shd_tuple fun d hd => by rw [List.mem_singleton.mp hd]; exact shd_str (by decide +kernel)⟩
      · exact ⟨_, _, fun _ _ => .int _, (fun cs _ e => by cases e), fun _ _ => .int _, (shd_int _).mono (by decide)⟩
    clear ggv
    refine ⟨S32.tb, fun f8 k8 H32 xN tb nf hf8 hc8 => ?_⟩
    have S33 := ((S32.ext A1 xN tb).addO hc8 (.inr ⟨_, rfl⟩) codeO_t).addO hf8 (.inr ⟨_, rfl⟩) (fun ps z => nomatch z)
    clear S32 xN tb nf
    refine ⟨S33.tb, fun f9 k9 t9 H33 xN tb nf ht9 hf9 hc9 => ?_⟩
    have S34 := (((S33.ext A1 xN tb).addO hc9 (.inr ⟨_, rfl⟩) codeO_t).addO ht9 (.inl trivial) (fun ps z => nomatch z)).addO hf9 (.inr ⟨_, rfl⟩) (fun ps z => nomatch z)
    clear S33 xN tb nf
    refine ⟨(by show 2 ≤ sizeLine; decide), fun LS nLS => ?_⟩
    have S35 := S34.new A1 (o := .lst [.ref f8, .ref f9]) nLS (by intro ps q; cases q)
    generalize upd H33 LS (.lst [.ref f8, .ref f9]) = H34 at S35 ⊢
    clear S34 nLS
    refine ⟨_, rfl, ?_⟩
    refine ⟨(by show 2 ≤ sizeLine; decide), fun ex_sign nex_sign => ?_⟩
    have S36 := S35.new A1 (o := .tup [.str "sign", .int 0]) nex_sign (by intro ps q; cases q)
    generalize upd H34 ex_sign (.tup [.str "sign", .int 0]) = H35 at S36 ⊢
    clear S35 nex_sign
    intro base2 Lc2
    obtain ⟨fdRE, GRE, bRE, kRE⟩ := ok_restore (P := P) (w := w) (base := base2) T.s
    obtain ⟨fdSX, GSX, bSX, kSX⟩ := ok_step (P := P) (w := w) (base := base2) T.r.b.e.o
    obtain ⟨fdPX, GPX, bPX, kPX⟩ := ok_put (P := P) (w := w) (base := base2) T.r.b.e.o
    obtain ⟨fdTX, GTX, bTX, kTX⟩ := ok_turn (P := P) (w := w) (base := base2) T.r.b.e.o
    obtain ⟨fdBX, GBX, bBX, kBX⟩ := ok_batchF (P := P) (w := w) (base := base2) T.r
    refine all_to19 A1 S36 (l := LS) (ex := ex_sign) (fs := [f8, f9]) (z := "sign") (x := .int 0) rfl (List.mem_of_getElem? (i := 1) rfl) (fun Hy h => .tup (SqT.of (h _ (List.mem_of_getElem? (i := 0) rfl))) (.cons (.str _) (.cons (.int _) .nil))) (shd_pl (shd_str (by decide +kernel))) (fun f hf => ?_) fun H36 L37 S37 => ?_
    · simp only [List.mem_cons, List.not_mem_nil, or_false] at hf
      rcases hf with rfl | rfl
      · refine ⟨_, _, (vok0 (P := P) (w := w) (K := K) (mg := mg) (base := base2) (CX := L2.CX P w) (k := 13) (N := ["_law_corridor", "_law_sign"]) (fr := ["_law_corridor", "_law_sign"]) (ws := [some (.ref p), some (gv)]) (sp := fun _ H Q E => ∃ (dx : Addr) (fs : List (Str × V)), H p = some (.ins (He.ga K "Corridor") dx fs) ∧ List.lookup ("put" : Str) fs = none ∧ spPut K [.ref p, .int 1, gv] H Q E) hf8 (NdefX.nscope_by (by rfl)) (Lc2.ce _ _ [3, 9] fun ok => NdefX.Caps.made ok (lamFree (by rfl)) (by decide +kernel) rfl) (fun _ _ _ => rfl) (fun A outer s H Q E hr ⟨dx, fs, h1, h2, h3⟩ => ⟨_, pe_meth (pv 0) T.r.b.e.o.r.c.cor.c T.r.b.e.o.put.m GPX (hr.mono (by decide)) bPX .nil (passes_call (takes_of rfl rfl rfl rfl) (fun _ _ _ _ h => h)) (pa_cons pe_int (pa_cons (pv 1) pa_nil)), ⟨_, rfl, p, dx, fs, rfl, h1, h2, _, rfl, h3⟩⟩)), fun D H1 ⟨L, Sy⟩ => ⟨⟨Sy.hx _ (List.mem_of_getElem? (i := 6) rfl), Sy.hx _ (List.mem_of_getElem? (i := 7) rfl)⟩, fun Q E hE => ⟨rfl, ?_⟩⟩⟩
        refine ⟨_, _, Sy.cs.cor.ob, lc_no_put, ?_⟩
        exact ⟨cutH H1 (L.all p), p, L, p19, firstC p19, .int 1, gv, _, _, rfl, co19.opIn wf19 (by decide) Sy.cs.cor, .int 1, hGa _ (Sy.hx _ (List.mem_of_getElem? (i := 9) rfl)), (fun hb => absurd hb (by decide)), fun hb hs H2 s2 => hE _ none H2 (ekS H2) ⟨L, Sy.same A1 s2⟩, fun k2 g2 hk2 hle cs hcs e => absurd e (hGb cs (List.mem_of_getElem? hcs))⟩
      · refine ⟨_, _, (vok1 (P := P) (w := w) (K := K) (mg := mg) (base := base2) (CX := L2.CX P w) (k := 13) (N := ["_law_a", "_law_corridor", "_law_sign"]) (fr := ["_law_corridor", "_law_sign"]) (ws := [some (.ref p), some (gv)]) (x := "_law_a") (sp := fun _ H Q E => ∃ (dx : Addr) (fs : List (Str × V)), H p = some (.ins (He.ga K "Corridor") dx fs) ∧ List.lookup ("batch" : Str) fs = none ∧ (tCons (tLst (tCons (tTup (tCons (tC (.str "put")) (tCons (tC (.int 0)) (tCons (tC (.str "red")) tNil)))) (tCons (tTup (tCons (tC (.str "put")) (tCons (tC (.int 0)) (tCons (tVar 2) tNil)))) tNil))) tNil) (NdefX.startF ["_law_a", "_law_corridor", "_law_sign"] [.int 0] [some (.ref p), some (gv)]) H (fun xs H2 => spBatchF K (V.ref p :: (xs ++ [])) H2 Q E)) hf9 (NdefX.nscope_by (by rfl)) (Lc2.ce _ _ [3, 9] fun ok => NdefX.Caps.made ok (lamFree (by rfl)) (by decide +kernel) rfl) (fun _ _ _ => ⟨_, rfl, fun _ => rfl⟩) (fun A outer s H Q E hr ⟨dx, fs, h1, h2, h3⟩ => ⟨_, pe_meth (pv 1) T.r.b.e.o.r.c.cor.c T.r.b.batch.m GBX (hr.mono (by decide)) bBX .nil (passes_call (takes_of rfl rfl rfl rfl) (fun _ _ _ _ h => h)) (pa_cons (pe_lst (pa_cons (pe_tup (pa_cons pe_str (pa_cons pe_int (pa_cons pe_str pa_nil)))) (pa_cons (pe_tup (pa_cons pe_str (pa_cons pe_int (pa_cons (pv 2) pa_nil)))) pa_nil))) pa_nil), ⟨_, rfl, p, dx, fs, rfl, h1, h2, h3⟩⟩)), fun D H1 ⟨L, Sy⟩ => ⟨⟨Sy.hx _ (List.mem_of_getElem? (i := 3) rfl), Sy.hx _ (List.mem_of_getElem? (i := 4) rfl), Sy.hx _ (List.mem_of_getElem? (i := 5) rfl)⟩, fun Q E hE => ⟨rfl, ?_⟩⟩⟩
        refine ⟨_, _, Sy.cs.cor.ob, lc_no_batch, ?_⟩
        refine ⟨(by show 3 ≤ sizeLine; decide), fun b0 nb0 => ?_⟩
        have Sb0 := Sy.new A1 (o := .tup [.str "put", .int 0, .str "red"]) nb0 (by intro ps q; cases q)
        generalize upd H1 b0 (.tup [.str "put", .int 0, .str "red"]) = Hb0 at Sb0 ⊢
        refine ⟨_, rfl, (by show 3 ≤ sizeLine; decide), fun b1 nb1 => ?_⟩
        have Sb1 := Sb0.new A1 (o := .tup [.str "put", .int 0, gv]) nb1 (by intro ps q; cases q)
        generalize upd Hb0 b1 (.tup [.str "put", .int 0, gv]) = Hb1 at Sb1 ⊢
        refine ⟨(by show 2 ≤ sizeLine; decide), fun bl nbl => ?_⟩
        have Sc := Sb1.new A1 (o := .lst [.ref b0, .ref b1]) nbl (by intro ps q; cases q)
        generalize upd Hb1 bl (.lst [.ref b0, .ref b1]) = Hc at Sc ⊢
        obtain ⟨cm, ds, hex⟩ := ex19b
        refine ⟨cutH Hc (L.all p), p, bl, L, p19, firstC p19, cm, 0, 1, [b0, b1], [.put (.int 0) (.str "red"), .put (.int 0) gv], ds, _, .sign, rfl, Sc.cs.cor, wf19, co19, (show 0 + 2 ≤ 50000 from by decide), Sc.inCut mm0, .cons ⟨⟨Sc.inCut (List.mem_of_getElem? (i := 2) rfl), ⟨_, .int 0⟩, _, .str _⟩, opA_good19 (Sc.inCut (List.mem_of_getElem? (i := 2) rfl)) (.cons (.int _) (.cons (.str _) .nil)) (by decide +kernel) (by decide +kernel)⟩ (.cons ⟨⟨Sc.inCut (List.mem_of_getElem? (i := 1) rfl), ⟨_, .int 0⟩, _, hGa _ (Sc.inCut (List.mem_of_getElem? (i := 12) rfl))⟩, opA_put19 (Sc.inCut (List.mem_of_getElem? (i := 1) rfl)) (.int _) ((shd_int _).mono (by decide)) (hGd _ (Sc.inCut (List.mem_of_getElem? (i := 12) rfl))) hGs⟩ .nil), hex, rfl, ex19s hGb, fun L2 H2 hc2 eo es => ?_⟩
        exact hE _ none H2 (ekS H2) ⟨L2, (Sc.exec hc2).sub fun q hq => List.mem_cons_of_mem _ (List.mem_cons_of_mem _ (List.mem_cons_of_mem _ (hq)))⟩
    clear S36 fdRE GRE bRE kRE fdSX GSX bSX kSX fdPX GPX bPX kPX fdTX GTX bTX kTX fdBX GBX bBX kBX
    refine ⟨_, rfl, iteF ?_⟩
    refine at_slots [some (.ref a), some (.ref d), some (.str "corridor 2; signs no red; moods go; robot 0 right; robot 1 left;"), some (.ref p), some (.int (far : Nat)), some nv, some cv, some iv, some (.ref LS), some gv] rfl ?_
    have S38 := S37.sub (ys := []) fun q hq => by
      cases hq
    clear S37
    have cs := S38.cs
    clear S38
    refine ⟨_, rfl, p, _, _, rfl, cs.cor.ob, _, p, L37, p19, _, rfl, cs.cor, by decide, fun l Hl nl sl hl => ⟨(by show 0 ≤ sizeLine; decide), fun el nel => ?_⟩⟩
    have s1 := sl.trans (sameUpd (o := .lst []) (Same.refl Hl) nel)
    have hl1 := sameUpd (o := .lst []) (Same.refl Hl) nel _ _ hl
    have hel := @upd_same Hl el (.lst [])
    generalize upd Hl el (.lst []) = J1 at s1 hl1 hel ⊢
    refine ⟨l, el, _, rfl, rfl, SqL.of hl1, SqL.of hel, _, rfl, iteF ?_⟩
    obtain ⟨cs1, _⟩ := cs.same A1 s1
    clear cs s1 hl1 hel nl nel hl sl
    refine ⟨_, rfl, p, _, _, rfl, cs1.cor.ob, _, p, L37, p19, _, rfl, cs1.cor, ?_⟩
    refine ⟨rfl, false, congrArg V.bl (by decide +kernel), iteF ?_⟩
    refine ⟨_, rfl, p, _, _, rfl, cs1.cor.ob, lc_no_undo, _, p, _, p19, _, rfl, cs1.cor, by decide, fun L2 J2 hc2 eo2 es2 => ?_⟩
    obtain ⟨cs2, _⟩ := cs1.exec hc2
    clear cs1 hc2
    refine ⟨_, _, rfl, rfl, false, rfl, iteF ?_⟩
    have co2 : CorOk p19 1 (undoC (firstC p19)) := co19.exec (op := .undo) wf19 rfl
    -- five hundred ticks
    refine ⟨_, rfl, p, _, _, rfl, cs2.cor.ob, lc_no_step, cutH J2 (L2.all p), p, L2, p19, _, .int 500, _, rfl, co2.opIn wf19 (by decide) cs2.cor, .int 500, (fun hb => absurd hb (by decide)), fun k5 hk5 _ L3 J3 f5 fs5 hc3 eo3 es3 _ _ _ _ hf5 hps5 => ?_⟩
    have e5 : k5 = 500 := by injection hk5 with hk5; omega
    subst e5
    have hl5 := hps5.length
    rw [steps_len] at hl5
    obtain ⟨cs3, _⟩ := cs2.exec hc3
    have cs3 : Cs1 K J3 d [] p L3 p19 c19 := cs3
    have co3 : CorOk p19 2 c19 := co2.exec wf19 ex19c
    clear cs2 hc3
    refine ⟨f5, _, rfl, .inl (SqL.of hf5), rfl, false, ?_, iteF ?_⟩
    · rw [List.length_map, hl5]
      rfl
    clear hf5 hps5 hl5
    -- no tick
    refine ⟨_, rfl, p, _, _, rfl, cs3.cor.ob, lc_no_step, cutH J3 (L3.all p), p, L3, p19, _, .int 0, _, rfl, co3.opIn wf19 (by decide) cs3.cor, .int 0, (fun hb => absurd hb (by decide)), fun k6 hk6 _ L4 J4 f6 fs6 hc4 eo4 es4 _ _ _ _ hf6 hps6 => ⟨(by show 0 ≤ sizeLine; decide), fun el6 nel6 => ?_⟩⟩
    have e6 : k6 = 0 := by injection hk6 with hk6; omega
    subst e6
    have hl6 := hps6.length
    rw [steps_len] at hl6
    have hf60 : fs6 = [] := List.eq_nil_of_length_eq_zero hl6
    subst hf60
    obtain ⟨cs4, _⟩ := cs3.exec hc4
    have cs4 : Cs1 K J4 d [] p L4 p19 c20 := cs4
    have co4 : CorOk p19 3 c20 := co3.exec wf19 ex19d
    clear cs3 hc4
    have s6 := sameUpd (o := .lst []) (Same.refl J4) nel6
    replace hf6 := s6 _ _ hf6
    have hel6 := @upd_same J4 el6 (.lst [])
    obtain ⟨cs5, _⟩ := cs4.same A1 s6
    generalize upd J4 el6 (.lst []) = J5 at hf6 hel6 cs5 ⊢
    refine ⟨f6, el6, _, rfl, rfl, SqL.of hf6, SqL.of hel6, _, rfl, iteF ?_⟩
    clear cs4 s6 hf6 hel6 nel6 hps6 hl6
    -- put
    refine ⟨_, rfl, p, _, _, rfl, cs5.cor.ob, lc_no_put, cutH J5 (L4.all p), p, L4, p19, _, .int 1, .str "red", _, _, rfl, co4.opIn wf19 (by decide) cs5.cor, .int 1, .str _, (fun hb => absurd hb (by decide)), (fun _ hs => absurd rfl (hs (txt "red") (by decide +kernel))), fun k7 g7 hk7 _ cs7 hg7 e7 _ L5 J6 hc6 eo6 es6 => ?_⟩
    have e8 : k7 = 1 := by injection hk7 with hk7; omega
    subst e8
    have e9 := red_ix hg7 e7
    subst e9
    obtain ⟨cs6, _⟩ := cs5.exec hc6
    have cs6 : Cs1 K J6 d [] p L5 p19 c21 := cs6
    clear cs5 hc6
    refine ⟨rfl, false, congrArg V.bl ?_, iteF ?_⟩
    · rw [c20_floor]
      decide +kernel
    refine ⟨_, rfl, p, _, _, rfl, cs6.cor.ob, _, p, _, p19, _, rfl, cs6.cor, fun l7 J7 n7 s7 h7 => ?_⟩
    rw [c21_sums] at h7
    obtain ⟨cs7b, _⟩ := cs6.same A1 s7
    clear cs6
    refine ⟨_, rfl, p, _, _, rfl, cs7b.cor.ob, _, p, _, p19, _, rfl, cs7b.cor, ?_⟩
    rw [c21_tick]
    refine ⟨_, rfl, p, _, _, rfl, cs7b.cor.ob, _, p, _, p19, _, rfl, cs7b.cor, (by rw [c21_floor]; decide +kernel), (by rw [c21_floor]; decide), fun l8 J8 n8 s8 h8 => ⟨(by show 3 ≤ sizeLine; decide), fun l9 n9 => ?_⟩⟩
    rw [c21_floor] at h8
    replace h7 := s8 _ _ h7
    have h9 := @upd_same J8 l9 (.lst [.ref l7, .int (500 : Nat), .ref l8])
    have s9 := sameUpd (o := .lst [.ref l7, .int (500 : Nat), .ref l8]) (Same.refl J8) n9
    replace h7 := s9 _ _ h7
    replace h8 := s9 _ _ h8
    generalize upd J8 l9 (.lst [.ref l7, .int (500 : Nat), .ref l8]) = J9 at h7 h8 h9 ⊢
    refine ⟨(by show 2 ≤ sizeLine; decide), fun m1 nm1 => ?_⟩
    have u1 := sameUpd (o := .lst [.int 500, .int 500]) (Same.refl J9) nm1
    have g1 := @upd_same J9 m1 (.lst [.int 500, .int 500])
    generalize upd J9 m1 (.lst [.int 500, .int 500]) = J10 at u1 g1 ⊢
    refine ⟨(by show 2 ≤ sizeLine; decide), fun m2 nm2 => ?_⟩
    have u2 := sameUpd (o := .lst [.str "no", .str "red"]) (Same.refl J10) nm2
    have g2 := @upd_same J10 m2 (.lst [.str "no", .str "red"])
    generalize upd J10 m2 (.lst [.str "no", .str "red"]) = J11 at u2 g2 ⊢
    refine ⟨(by show 3 ≤ sizeLine; decide), fun m3 nm3 => ?_⟩
    have u3 := sameUpd (o := .lst [.ref m1, .int 500, .ref m2]) (Same.refl J11) nm3
    have g3 := @upd_same J11 m3 (.lst [.ref m1, .int 500, .ref m2])
    generalize upd J11 m3 (.lst [.ref m1, .int 500, .ref m2]) = J12 at u3 g3 ⊢
    have uA := u1.trans (u2.trans u3)
    replace g1 := u3 _ _ (u2 _ _ g1)
    replace g2 := u3 _ _ g2
    replace h7 := uA _ _ h7
    replace h8 := uA _ _ h8
    replace h9 := uA _ _ h9
    refine ⟨.ref l9, .ref m3, rfl, .inr ⟨l9, m3, _, _, rfl, rfl, .inl ⟨h9, g3⟩, .cons (.inr ⟨l7, m1, _, _, rfl, rfl, .inl ⟨h7, g1⟩, .cons (.inl ⟨rfl, _, .int _⟩) (.cons (.inl ⟨rfl, _, .int _⟩) .nil), by decide⟩) (.cons (.inl ⟨rfl, _, .int _⟩) (.cons (.inr ⟨l8, m2, _, _, rfl, rfl, .inl ⟨h8, g2⟩, .cons (.inl ⟨?_, _, .str _⟩) (.cons (.inl ⟨?_, _, .str _⟩) .nil), by decide⟩) .nil)), (show 3 ≤ 100000 from by decide)⟩, fun Hz _ => k Hz⟩
    · decide +kernel
    · decide +kernel
end
end Sw

end

section
set_option maxRecDepth 100000
set_option maxHeartbeats 0
/-! the head: facts by names -/
namespace Sw
open PySem PySem.Spec PyProof.Rows L2 SwA
theorem fclsB_ok {K : PySem.W.Frag} (h : fclsB K = true) : PySem.W.findCls K (.ref (He.ga K "SweepError")) (.type "type") "__init__" = some (.val (.builtin "ValueError.__init__")) := by
  unfold fclsB at h
  split at h
  · rename_i n e
    rw [e, beq_iff_eq.mp h]
  · cases h
theorem mvB_ok {K : PySem.W.Frag} (h : mvB K = true) : ∃ o, K.lookup (He.ga K "MOVES") = some o ∧ o.cls = .type "tuple" ∧ o.dict = none := by
  unfold mvB at h
  split at h
  · rename_i e
    exact ⟨_, e, rfl, rfl⟩
  · cases h
theorem kTup_ok {K : PySem.W.Frag} {x : Str} {ws : List Cs} (h : He.tupB K x (ws.map fun w => He.Dv.str (sx w)) = true) : ∀ H : Hp, SqT K H (He.ga K x) (ws.map fun w => V.str (sx w)) := fun H => by
  have := He.tupB_ok h H
  rw [List.map_map] at this
  exact this
theorem propB_ok {K : PySem.W.Frag} {C f : Str} (h : propB K C f = true) : PropOf K (He.ga K C) f (He.ma K (He.ga K C) f) (He5.wf K (He.ga K C) "property" f) := by
  obtain ⟨h1, h⟩ := He.ba h
  obtain ⟨h2, h⟩ := He.ba h
  obtain ⟨h3, h4⟩ := He.ba h
  refine ⟨He.eqO_ok h1, He.eqO_ok h2, of_decide_eq_true h3, ?_⟩
  unfold recB at h4
  unfold He5.wf
  split at h4
  · rename_i g r e
    exact ⟨r, by rw [e]⟩
  · cases h4
theorem facts {K : PySem.W.Frag} {h : Heap} {mg : Str → Option Value} {w : World} (X : K.In h) (G : h.Ns mainGlobals mg) (c : SaysY w h K) : L19T K w mg ∧ DeT K mg "law" s_law := by
  have q := c.more
  unfold exB at q
  obtain ⟨x0, q⟩ := He.ba q
  obtain ⟨x1, q⟩ := He.ba q
  obtain ⟨x2, q⟩ := He.ba q
  obtain ⟨x3, q⟩ := He.ba q
  obtain ⟨x4, q⟩ := He.ba q
  obtain ⟨x5, q⟩ := He.ba q
  obtain ⟨x6, q⟩ := He.ba q
  obtain ⟨x7, q⟩ := He.ba q
  obtain ⟨x8, q⟩ := He.ba q
  obtain ⟨x9, q⟩ := He.ba q
  obtain ⟨x10, q⟩ := He.ba q
  obtain ⟨x11, q⟩ := He.ba q
  obtain ⟨x12, q⟩ := He.ba q
  obtain ⟨x13, q⟩ := He.ba q
  obtain ⟨x14, q⟩ := He.ba q
  obtain ⟨x15, q⟩ := He.ba q
  obtain ⟨x16, q⟩ := He.ba q
  obtain ⟨x17, q⟩ := He.ba q
  obtain ⟨x18, q⟩ := He.ba q
  obtain ⟨x19, q⟩ := He.ba q
  obtain ⟨x20, q⟩ := He.ba q
  obtain ⟨x21, q⟩ := He.ba q
  obtain ⟨x22, q⟩ := He.ba q
  obtain ⟨x23, q⟩ := He.ba q
  obtain ⟨x24, q⟩ := He.ba q
  obtain ⟨x25, q⟩ := He.ba q
  have x26 := q
  have hLaw : LawT K mg := ⟨(He.free_ok X G (c.t.d.fact 0 rfl)), (He.free_ok X G (c.t.d.fact 1 rfl)), (He.free_ok X G (c.t.d.fact 2 rfl)), (He.free_ok X G (c.t.d.fact 3 rfl)), (He.free_ok X G (c.t.d.fact 4 rfl)), ⟨(c.t.d.def_ 46 rfl), (He.glo_ok X G (c.t.d.fact 5 rfl))⟩, ⟨(c.t.d.def_ 47 rfl), (He.glo_ok X G (c.t.d.fact 6 rfl))⟩⟩
  have hErr : ErrT K mg := ⟨⟨(He.glo_ok X G (c.t.d.fact 7 rfl)), ⟨x0, He.eqO_ok x1⟩, fclsB_ok x2⟩, (excCB_ok X G x3), (c.t.d.def_ 0 rfl)⟩
  have hLex : LexT K mg := ⟨hErr, (He.free_ok X G (c.t.d.fact 0 rfl)), (He.free_ok X G (c.t.d.fact 8 rfl)), (mkCB_ok X G x4), (c.t.d.def_ 4 rfl), (c.t.d.def_ 5 rfl), (He.glo_ok X G (c.t.d.fact 9 rfl)), (c.t.d.def_ 6 rfl), (He.glo_ok X G (c.t.d.fact 10 rfl)), (c.t.d.def_ 7 rfl), (He.glo_ok X G (c.t.d.fact 11 rfl)), (He.str_ok X G (c.t.d.fact 12 rfl)), (He.str_ok X G (c.t.d.fact 13 rfl)), (He.str_ok X G (c.t.d.fact 14 rfl)), (He.str_ok X G (c.t.d.fact 15 rfl)), (He.str_ok X G (c.t.d.fact 16 rfl)), (He.str_ok X G (c.t.d.fact 17 rfl)), (He.str_ok X G (c.t.d.fact 18 rfl)), (He.str_ok X G (c.t.d.fact 19 rfl)), (He.str_ok X G (c.t.d.fact 20 rfl)), (He.int_ok X G (c.t.d.fact 21 rfl)), (He.int_ok X G (c.t.d.fact 22 rfl)), (He.glo_ok X G (c.t.d.fact 23 rfl)), (kTup_ok x5)⟩
  have hPar : ParT K mg := ⟨hLex, (mkCB_ok X G x6), (of_decide_eq_true x7), (He.free_ok X G (c.t.d.fact 24 rfl)), (He.free_ok X G (c.t.d.fact 3 rfl)), (He.free_ok X G (c.t.d.fact 4 rfl)), (c.t.d.def_ 11 rfl), ⟨(c.t.d.def_ 12 rfl), He.meth_ok (c.t.d.fact 25 rfl)⟩, ⟨(c.t.d.def_ 13 rfl), He.meth_ok (c.t.d.fact 26 rfl)⟩, ⟨(c.t.d.def_ 14 rfl), He.meth_ok (c.t.d.fact 27 rfl)⟩, ⟨(c.t.d.def_ 15 rfl), He.meth_ok (c.t.d.fact 28 rfl)⟩, ⟨(c.t.d.def_ 16 rfl), He.meth_ok (c.t.d.fact 29 rfl)⟩, ⟨(c.t.d.def_ 17 rfl), He.meth_ok (c.t.d.fact 30 rfl)⟩, ⟨(c.t.d.def_ 18 rfl), He.meth_ok (c.t.d.fact 31 rfl)⟩, ⟨(c.t.d.def_ 19 rfl), He.meth_ok (c.t.d.fact 32 rfl)⟩, ⟨(c.t.d.def_ 20 rfl), He.meth_ok (c.t.d.fact 33 rfl)⟩, ⟨(c.t.d.def_ 21 rfl), He.meth_ok (c.t.d.fact 34 rfl)⟩, ⟨(c.t.d.def_ 22 rfl), He.meth_ok (c.t.d.fact 35 rfl)⟩, ⟨(c.t.d.def_ 23 rfl), He.meth_ok (c.t.d.fact 36 rfl)⟩, ⟨(c.t.d.def_ 24 rfl), He.meth_ok (c.t.d.fact 37 rfl)⟩, (He.int_ok X G (c.t.d.fact 38 rfl)), (He.int_ok X G (c.t.d.fact 39 rfl)), (He.int_ok X G (c.t.d.fact 40 rfl)), (He.int_ok X G (c.t.d.fact 41 rfl)), (He.glo_ok X G (c.t.d.fact 42 rfl)), (kTup_ok x8), (He.glo_ok X G (c.t.d.fact 43 rfl)), (kTup_ok x9)⟩
  have hLoad : LoadT K mg := ⟨hPar, (mkCB_ok X G x10), (c.t.d.def_ 8 rfl), (c.t.d.def_ 25 rfl), (He.glo_ok X G (c.t.d.fact 44 rfl))⟩
  have hMach : MachT K mg := ⟨hLoad, (He.free_ok X G (c.t.d.fact 45 rfl)), (He.free_ok X G (c.t.d.fact 46 rfl)), (He.str_ok X G (c.t.d.fact 47 rfl)), ⟨(c.t.d.def_ 26 rfl), (He.glo_ok X G (c.t.d.fact 48 rfl))⟩, ⟨(c.t.d.def_ 27 rfl), (He.glo_ok X G (c.t.d.fact 49 rfl))⟩, (mkCB_ok X G x11), (c.t.d.def_ 28 rfl), ⟨(c.t.d.def_ 29 rfl), (He.glo_ok X G (c.t.d.fact 50 rfl))⟩, ⟨(c.t.d.def_ 30 rfl), (He.glo_ok X G (c.t.d.fact 51 rfl))⟩, ⟨(c.t.d.def_ 31 rfl), (He.glo_ok X G (c.t.d.fact 52 rfl))⟩, (mkCB_ok X G x12), (c.t.d.def_ 32 rfl), ⟨(c.t.d.def_ 33 rfl), (He.glo_ok X G (c.t.d.fact 53 rfl))⟩⟩
  have hCor : CorT K w mg := ⟨hMach, ⟨(of_decide_eq_true x13), (of_decide_eq_true x14), (of_decide_eq_true x15)⟩, (He.free_ok X G (c.t.d.fact 54 rfl)), (He.free_ok X G (c.t.d.fact 2 rfl)), (mkCB_ok X G x16), (c.t.d.def_ 35 rfl)⟩
  have hRec : RecT K w mg := ⟨hCor, ⟨(c.t.d.def_ 36 rfl), He.meth_ok (c.t.d.fact 55 rfl)⟩, ⟨(c.t.d.def_ 40 rfl), He.meth_ok (c.t.d.fact 56 rfl)⟩, ⟨(c.t.d.def_ 41 rfl), He.meth_ok (c.t.d.fact 57 rfl)⟩⟩
  have hOps : OpsT K w mg := ⟨hRec, (He.free_ok X G (c.t.d.fact 8 rfl)), (He.str_ok X G (c.t.d.fact 58 rfl)), (He.str_ok X G (c.t.d.fact 59 rfl)), (He.str_ok X G (c.t.d.fact 60 rfl)), (He.int_ok X G (c.t.d.fact 61 rfl)), ⟨(He.glo_ok X G (c.t.d.fact 63 rfl)), (He.exc_ok (c.t.d.fact 62 rfl)).1, (He.exc_ok (c.t.d.fact 62 rfl)).2.1, (He.exc_ok (c.t.d.fact 62 rfl)).2.2.1, (He.exc_ok (c.t.d.fact 62 rfl)).2.2.2⟩, ⟨(He.glo_ok X G (c.t.d.fact 65 rfl)), (He.exc_ok (c.t.d.fact 64 rfl)).1, (He.exc_ok (c.t.d.fact 64 rfl)).2.1, (He.exc_ok (c.t.d.fact 64 rfl)).2.2.1, (He.exc_ok (c.t.d.fact 64 rfl)).2.2.2⟩, ⟨(c.t.d.def_ 37 rfl), He.meth_ok (c.t.d.fact 66 rfl)⟩, ⟨(c.t.d.def_ 38 rfl), He.meth_ok (c.t.d.fact 67 rfl)⟩, ⟨(c.t.d.def_ 39 rfl), He.meth_ok (c.t.d.fact 68 rfl)⟩⟩
  have hCorP : CorP K w mg := ⟨hOps, ⟨(c.a.def_ 2 rfl), propB_ok x17⟩, ⟨(c.a.def_ 4 rfl), propB_ok x18⟩, ⟨(c.a.def_ 5 rfl), propB_ok x19⟩, ⟨(c.a.def_ 6 rfl), propB_ok x20⟩⟩
  have hSav : SavT K w mg := ⟨hCorP, (He.free_ok X G (c.t.d.fact 69 rfl)), (He.int_ok X G (c.t.d.fact 70 rfl)), ⟨(He.glo_ok X G (c.t.d.fact 72 rfl)), (He.exc_ok (c.t.d.fact 71 rfl)).1, (He.exc_ok (c.t.d.fact 71 rfl)).2.1, (He.exc_ok (c.t.d.fact 71 rfl)).2.2.1, (He.exc_ok (c.t.d.fact 71 rfl)).2.2.2⟩, ⟨(He.glo_ok X G (c.t.d.fact 74 rfl)), (He.exc_ok (c.t.d.fact 73 rfl)).1, (He.exc_ok (c.t.d.fact 73 rfl)).2.1, (He.exc_ok (c.t.d.fact 73 rfl)).2.2.1, (He.exc_ok (c.t.d.fact 73 rfl)).2.2.2⟩, ⟨(c.t.d.def_ 42 rfl), He.meth_ok (c.t.d.fact 75 rfl)⟩, ⟨(c.t.d.def_ 43 rfl), He.meth_ok (c.t.d.fact 76 rfl)⟩⟩
  have hIso : IsoT K w mg := ⟨hCor, (He.glo_ok X G (c.t.d.fact 77 rfl)), (c.t.tab 0 rfl), lenB_ok x21, ⟨(c.t.d.def_ 34 rfl), (He.glo_ok X G (c.t.d.fact 78 rfl))⟩⟩
  have hExe : ExeT K w mg := ⟨hOps, ⟨(c.t.d.def_ 44 rfl), He.meth_ok (c.t.d.fact 79 rfl)⟩⟩
  have hBat : BatT K w mg := ⟨hIso, hExe, ⟨(c.t.d.def_ 45 rfl), He.meth_ok (c.t.d.fact 80 rfl)⟩⟩
  have hBaf : BafT K w mg := ⟨hBat, (He.glo_ok X G (c.t.d.fact 7 rfl)), (ekB_ok x22), (ekB_ok x23)⟩
  have hEof : EofT K mg := ⟨(He.free_ok X G (c.t.d.fact 45 rfl)), (He.free_ok X G (c.t.d.fact 81 rfl)), (He.glo_ok X G (c.t.d.fact 7 rfl)), (fun n hn => He.glo_ok X G (List.all_eq_true.mp x24 n hn)), ⟨(c.t.d.def_ 48 rfl), (He.glo_ok X G (c.t.d.fact 82 rfl))⟩⟩
  have hAar : AarT K mg := ⟨hEof, ⟨(c.t.d.def_ 49 rfl), (He.glo_ok X G (c.t.d.fact 83 rfl))⟩⟩
  have hEqu : EquT K mg := ⟨hLaw, (He.free_ok X G (c.t.d.fact 45 rfl)), (He.free_ok X G (c.t.d.fact 46 rfl)), (He.free_ok X G (c.t.d.fact 24 rfl)), (He.free_ok X G (c.t.d.fact 54 rfl)), (He.free_ok X G (c.t.d.fact 69 rfl)), ⟨(c.t.d.def_ 50 rfl), (He.glo_ok X G (c.t.d.fact 84 rfl))⟩⟩
  exact ⟨⟨hLaw, hSav, hBaf, hAar, hEqu, (ekB_ok x25), (ekB_ok x26)⟩,
    ⟨(c.t.d.def_ 51 rfl), (He.glo_ok X G (c.t.d.fact 85 rfl))⟩⟩
theorem facts2 {w : World} {K : PySem.W.Frag} {h : Heap} {mg : Str → Option Value} {f : Addr} (X : K.In h) (G : h.Ns mainGlobals mg) (hfa : mg ("law" : Str) = some (.ref f)) (c : SaysY w h K) :
    LamX.LawAtS PySem.Challenge.rw_sweeprota_k19_corridor_errors w K CX0 18 63 "_law_script" mg f h := by
  obtain ⟨T, L⟩ := facts X G c
  obtain ⟨fd, F⟩ := L.d
  have e := hfa.symm.trans L.g
  cases e
  have b := FunD.bindsA (ps := ["_law_script"]) F fun _ _ _ _ _ _ us hl => match us, hl with | [_], _ => rfl
  obtain ⟨oc, od, dV, kV, doc, pm, an, cdv, ct, osl, rfl, lk, hcd, _, _⟩ := F.ex
  obtain ⟨cA, rfl⟩ := He.codeIn_ref hcd
  have hc : He.codeOf K ("law", none) = cA := He.codeOf_eq lk rfl
  have hd := c.hd
  have out := c.out
  have emp := c.empty
  unfold He.cT at hd out emp
  rw [hc] at hd out emp
  refine ⟨_, [(cA, He.tabOf K cA)], spLaw K (He.tabOf K cA), fun q hq => ?_, fun q hq => ?_, fun q hq => ?_, fun s v => b s [v] rfl, fun H a ns hl _ hH hS => ⟨a, ns, rfl, hH _ (List.mem_singleton.mpr rfl), hS, hl, fun _ => rfl⟩, fun base _ _ hTB => ok_law T lk hcd (hTB _ (List.mem_singleton.mpr rfl))⟩
  · rw [List.mem_singleton.mp hq]
    exact emp
  · rw [List.mem_singleton.mp hq]
    exact out
  · rw [List.mem_singleton.mp hq]
    exact PySem.W.codeHd_of_K X hd
end Sw
open PySem PySem.W PySem.Calls PyProof.Rows
theorem PySem.Challenge.cw_sweeprota_k19_corridor_errors_holds : PySem.Challenge.rw_sweeprota_k19_corridor_errors.Holds := by
  w_on; o_law
  refine HandSHeadRun.head_any (r := OpenLaw.row PySem.Challenge.rw_sweeprota_k19_corridor_errors) (q := view (OpenLaw.row PySem.Challenge.rw_sweeprota_k19_corridor_errors).prog [69]) (H := Sw.hk) (ob := Sw.ob) (M := 60000) (loose := Sw.names) (d := HandSHeadRun.topDef (OpenLaw.row PySem.Challenge.rw_sweeprota_k19_corridor_errors).prog 69) (kwd := []) Sw.ob_eq
    (by kernel_rfl) (fun s => by kernel_rfl) Sw.run (by kernel_rfl) (by kernel_rfl) (by kernel_rfl) (by rfl) (by first | assumption | decide +kernel) (by decide +kernel) ⟨rfl, rfl, rfl, rfl, rfl, by decide +kernel⟩ ?hw ?hc
  case hw => w_witness2
  case hc =>
    refine LamX.walk_ofTsE (l := PySem.Challenge.rw_sweeprota_k19_corridor_errors) (n := 63) (k := 18) (x := "_law_script") (CX := fun _ => L2.CX0) rfl (by decide) (by kernel_rfl) ⟨rfl, by decide, by decide⟩ ?F (fun _ _ _ _ _ z => z)
    intro w mg fa h Y G hmg0
    obtain ⟨K, KX, c⟩ := Y
    have hmg : mg ("law" : PySem.Str) = some (.ref fa) := by
      have e : (HandSHeadRun.topDef (OpenLaw.row PySem.Challenge.rw_sweeprota_k19_corridor_errors).prog 69).name = ("law" : PySem.Str) := by kernel_rfl
      rw [← e]
      exact hmg0
    exact ⟨K, KX, Sw.facts2 KX G hmg c⟩

end
