import PyProof.Rows.All
import Wide.All
import OpenK.AllK
import Wide.FinOn
import PySem.Challenge.RW_sweeprota_k42_whole_rules_that_never_hol
import HandS.Words
import PyProof.EqAt
import PyProof.EqKinds
import PyProof.TupleCall
import PyProof.RulesMatch
import PyProof.RulesMatchSeq
import HandS.ForMost
import HandS.ForExc
import HandS.ExcInit
import HandS.ExcField
import HandS.ExcIs
import HandS.IsInst
import HandS.More
import HandS.Steps
import HandS.Walk
import HandS.Zip
import HandS.Defaults
import HandS.ClsMeth
import HandS.Property
import HandS.TupMul
import HandS.TupAny
import HandS.FStr
import HandS.Conv
import HandS.Flow
import HandS.Lambda
import HandS.CallLocal
import HandS.Head0
import HandS.Head1
import HandS.Head2
import HandS.HeadEnd
import HandS.HeadHook1
import HandS.HeadHook2
import HandS.HeadHook3
import HandS.HeadHook4
import HandS.HeadWalk
import HandS.Text
import HandS.HeadNt
import Lean
import HandS.Dict
import KE.KDictKeyed
import KE.KeyNested
import KE.GoesMore
import HandS.SetFor
import PyProof.NeKinds
import HandS.CallRecv
import HandS.List
import HandS.GenBody
import HandS.GenYield
import HandS.GenCall
import HandS.GenList
import PyProof.GenComp
import PyProof.ForAny
import KE.GoesZip
import HandS.SortRule
import KE.KDictSum
import KE.KDictPairs
import HandS.Iter
import HandS.Strs
set_option Elab.async false
set_option linter.all false
section
/-! the row's defs by place -/
namespace Sw
open PySem L2
def top (i : Nat) : Stmt := PySem.Challenge.pw_sweeprota_k42_whole_rules_that_never_hol.main.body.getD i (.Pass ⟨0, 0, 0, 0⟩)
abbrev s__wall : Stmt := top 0
abbrev s_SyntaxFault_init : Stmt := inClass (top 3) 0
abbrev s_CheckFault_init : Stmt := inClass (top 4) 0
abbrev s_Token_init : Stmt := inClass (top 23) 0
abbrev s_run_end : Stmt := top 24
abbrev s_read_token : Stmt := top 25
abbrev s_tokenize : Stmt := top 26
abbrev s_Plan_init : Stmt := inClass (top 32) 0
abbrev s_Plan_with_floor : Stmt := inClass (top 32) 1
abbrev s_Plan_with_robots : Stmt := inClass (top 32) 2
abbrev s_Parser_init : Stmt := inClass (top 33) 0
abbrev s_Parser_peek : Stmt := inClass (top 33) 1
abbrev s_Parser_fail : Stmt := inClass (top 33) 2
abbrev s_Parser_found : Stmt := inClass (top 33) 3
abbrev s_Parser_take : Stmt := inClass (top 33) 4
abbrev s_Parser_take_word : Stmt := inClass (top 33) 5
abbrev s_Parser_take_keyword : Stmt := inClass (top 33) 6
abbrev s_Parser_parse_names : Stmt := inClass (top 33) 7
abbrev s_Parser_number_of : Stmt := inClass (top 33) 8
abbrev s_Parser_tile_of : Stmt := inClass (top 33) 9
abbrev s_Parser_parse_robot : Stmt := inClass (top 33) 10
abbrev s_Parser_parse_put : Stmt := inClass (top 33) 11
abbrev s_Parser_parse_rule : Stmt := inClass (top 33) 12
abbrev s_Parser_parse_plan : Stmt := inClass (top 33) 13
abbrev s_load : Stmt := top 34
abbrev s_is_int_in : Stmt := top 40
abbrev s_check_tick : Stmt := top 41
abbrev s_replaced : Stmt := top 42
abbrev s_State_init : Stmt := inClass (top 43) 0
abbrev s_State_key : Stmt := inClass (top 43) 1
abbrev s_first_state : Stmt := top 44
abbrev s_moved : Stmt := top 45
abbrev s_act : Stmt := top 46
abbrev s_Tick_init : Stmt := inClass (top 47) 0
abbrev s_next_tick : Stmt := top 48
abbrev s_Story_init : Stmt := inClass (top 49) 0
abbrev s_Story_size : Stmt := inClass (top 49) 1
abbrev s_Story_happens : Stmt := inClass (top 49) 2
abbrev s_Story_count : Stmt := inClass (top 49) 3
abbrev s_signs_on : Stmt := top 50
abbrev s_robots_in : Stmt := top 51
abbrev s_trace : Stmt := top 52
abbrev s_find_cycle : Stmt := top 53
abbrev s_first_difference : Stmt := top 55
abbrev s_rest_tick : Stmt := top 57
abbrev s_longest_wait : Stmt := top 58
abbrev s__law_random : Stmt := top 60
abbrev s__law_below : Stmt := top 61
abbrev s__law_shuffled : Stmt := top 62
abbrev s__law_plan : Stmt := top 63
abbrev s__law_short : Stmt := top 64
abbrev s__law_lines : Stmt := top 65
abbrev s__law_text : Stmt := top 66
abbrev s_law : Stmt := top 67
abbrev nMaxLetters : Str := "MAX_LETTERS"
abbrev nMaxLetC : Str := "MAX_LETTERS"
abbrev nWays : Str := "WAYS"
abbrev nRobots : Str := "_law_robots"
end Sw

end

section
set_option maxRecDepth 100000
set_option maxHeartbeats 4000000
namespace SwA
open PySem PySem.Spec PyProof.Rows L2

/-! ### D.__init__(self, ..) where D is an own class over ValueError that has no __init__ of its own -/
theorem pe_ownveinit {X : Cx} {e : Expr} {es : List Expr} {ta : TA} {p1 p2 pos : Pos} {x : Str} {D : Addr} {pl : Sem Bool} (hg : Gl X x) (hm : X.mg x = some (.ref D)) (r : ClX.CRead X.K D (.type "type"))
    (vV : PySem.W.findCls X.K (.ref D) (.type "type") "__init__" = some (.val (.builtin "ValueError.__init__"))) (ha : PA X (e :: es) ta)
    (hc : eval (.Call (.Attribute (.Name x p1) "__init__" p2) (e :: es) [] pos) X.env = (do
      let ov ← eval (.Name x p1) X.env
      standAt p2.atName
      let (f, first) ← holding [ov] (getMethod ov "__init__" pl)
      callWith pos f first (backTo pos (starEach (e :: es) X.env)) (backToKw pos (keywordEach [] X.env))) := by rfl)
    (he : starEach (e :: es) X.env = (false, eval e X.env) :: starEach es X.env := by rfl) (hpl : (backTo pos (starEach es X.env)).any (·.1) = false := by rfl)
    (hdb : (x == ("__debug__" : Str)) = false := by decide) :
    PE X (.Call (.Attribute (.Name x p1) "__init__" p2) (e :: es) [] pos) (tVeI X.K ta) := by
  refine ⟨fun pins s σ H Q I h => ?_⟩
  refine PySem.W.methodCall_KW (ld_glob I hg hm ?_ hdb) hc
  refine PySem.W.method_cls I.kIn r.ga (PySem.W.cls_value I.kIn r.rd vV (by decide +kernel) ?_)
  show wpAny _ _ (callWith pos (Value.builtin "ValueError.__init__") [] (backTo pos (starEach (e :: es) X.env)) []) _ _ _
  refine PyProof.Rows.callWith_method1 (thn (ha.run pos pins _ σ H _ (I.tok _) h) fun us s1 ⟨vs, H1, I1, r1, a, C, ws, ev, hl, T, ea, q⟩ => ?_) he hpl
  subst ev
  cases r1 with
  | @cons _ u0 _ ur ra rw' =>
    obtain rfl : u0 = Value.ref a := ra
    have hlen : ur.length ≤ sizeLine := by
      rw [← Paired.length rw', sizeLine_eq]
      omega
    exact oinit_ok T I1 ea hlen fun s' J => ⟨.non, H1, J, rfl, q⟩

/-! ### match upon a value: cases that are written texts, and the case of anything -/
/-- the cases cs asked of the value v: what is wanted -/
structure PMs (X : Cx) (cs : List MatchCase) (t : V → TS) : Prop where
  run : ∀ (pins : List (Addr × Obj)) (s : Shared) (σ : L2.St) (H : Hp) (D : Ends) (v : V) (u : Value) (first : Bool), Inv X pins σ H s → RelV v u → t v D σ H → wpAny (model X.prog X.w) X.A (matchCases cs X.env u first) (SP X pins D) X.xe s
theorem pms_nil {X : Cx} : PMs X [] (fun _ D σ H => D.nx σ H) := ⟨fun pins s σ H D v u first I r h => wpAny_matchCases_nil ⟨σ, H, I, h⟩⟩
theorem pms_any {X : Cx} {body : List Stmt} {rest : List MatchCase} {tb : TS} {pos : Pos} (hb : PSs X body tb) : PMs X (⟨.MatchAs none none pos, none, body⟩ :: rest) (fun _ => tb) :=
  ⟨fun pins s σ H D v u first I r h => wpAny_matchCases_cons (wpAny_matchPattern_Capture (wpAny_assignInOrder_none (hb.run pins s σ H D I h)))⟩
def tCaseS (z : Str) (tb : TS) (tr : V → TS) : V → TS := fun v D σ H => ∃ y, v = .str y ∧ ((y = z → tb D σ H) ∧ (y ≠ z → tr v D σ H))
theorem pms_str {X : Cx} {z : Str} {k : Nat} {body : List Stmt} {rest : List MatchCase} {tb : TS} {tr : V → TS} {p1 p2 : Pos} (hb : PSs X body tb) (hr : PMs X rest tr) :
    PMs X (⟨.MatchValue (.Constant (.str z) k p1) p2, none, body⟩ :: rest) (tCaseS z tb tr) := by
  refine ⟨fun pins s σ H D v u first I r h => ?_⟩
  obtain ⟨y, ev, h1, h2⟩ := h
  subst ev
  refine wpAny_matchCases_cons (wpAny_matchPattern_Value ?_)
  refine thn ((pe_str (X := X) (x := z) (j := k) (pos := p1)).run pins s σ H (fun x H' => x = .str z ∧ H' = H) I ⟨rfl, rfl⟩) fun zv s1 ⟨x, H1, I1, rz, ex, eh⟩ => ?_
  subst ex
  subst eh
  refine thn (op_eq pins s1 σ H1 (.str y) (.str z) u zv (fun x H' => x = .bl (decide (V.str y = V.str z)) ∧ H' = H1) I1 r rz ⟨rfl, rfl, rfl⟩) fun c s2 ⟨x, H2, I2, rc, ex, eh⟩ => ?_
  subst ex
  subst eh
  obtain rfl : c = Value.bool (decide (V.str y = V.str z)) := rc
  refine wpAny_truthy_bool ?_
  by_cases e : y = z
  · have d : decide (V.str y = V.str z) = true := decide_eq_true (by rw [e])
    rw [d]
    exact wpAny_assignInOrder_none (hb.run pins s2 σ H2 D I2 (h1 e))
  · have d : decide (V.str y = V.str z) = false := decide_eq_false (fun q => e (V.str.inj q))
    rw [d]
    exact hr.run pins s2 σ H2 D (.str y) u false I2 r (h2 e)
def tMatch (te : TE) (t : V → TS) : TS := fun D σ H => te σ H fun v H1 => t v D σ H1
theorem ps_match {X : Cx} {e : Expr} {te : TE} {cs : List MatchCase} {t : V → TS} {pos : Pos} (he : PE X e te) (hc : PMs X cs t) : PS X (.Match e cs pos) (tMatch te t) := by
  refine ⟨fun pins s σ H D I h => ?_⟩
  refine wpAny_Match (thn (he.run pins s σ H _ I h) fun u s1 ⟨v, H1, I1, r, q⟩ => ?_)
  exact hc.run pins s1 σ H1 D v u true I1 r q
/-! ### an own exception's class, as a Bool upon the written part -/
def oexB (K : PySem.W.Frag) (C : Addr) : Bool := (match K.lookup C with
  | some ⟨.type "type", _, .cls cd, sl⟩ => (match cd.mro, sl.toList with
    | .ref C' :: bm, [_, _, _, _, some (.builtin n), _] => C' == C && (n == "ValueError.__new__" && (!cd.hasDel && (cd.hasDict && PySem.HandSPX.refsVE bm)))
    | _, _ => false)
  | _ => false) && (He.eqO (PySem.W.findIn K (.ref C) "__setattr__") (some (some (.builtin "object.__setattr__"))) && (decide (PySem.W.subIn K (.ref C) (.type "BaseException") = some true) && (decide (PySem.W.typeIn K (.ref C) = some (.type "type")) && PySem.W.keepIn K (.ref C))))
theorem oexB_ok {K : PySem.W.Frag} {C : Addr} (h : oexB K C = true) : OexC K C := by
  obtain ⟨q, h2⟩ := He.ba h
  obtain ⟨h3, h4⟩ := He.ba h2
  obtain ⟨h5, h6⟩ := He.ba h4
  obtain ⟨h7, h8⟩ := He.ba h6
  refine ⟨?_, He.eqO_ok h3, of_decide_eq_true h5, of_decide_eq_true h7, h8⟩
  split at q
  · rename_i dd cd sl ho
    split at q
    · rename_i C' bm k0 k1 k2 k3 n k5 hm hs
      simp only [Bool.and_eq_true, beq_iff_eq, Bool.not_eq_true'] at q
      obtain ⟨rfl, rfl, hdel, hdi, ht⟩ := q
      obtain ⟨nm, bs, mro, ns, qn, hd, sn, sub, ab, col, del⟩ := cd
      dsimp only at hm hdel hdi
      subst hm hdel hdi
      have hsl : sl = #[k0, k1, k2, k3, some (.builtin "ValueError.__new__"), k5] := by
        obtain ⟨l⟩ := sl
        simp only at hs
        rw [hs]
      subst hsl
      exact ⟨nm, qn, ns, bs, bm, sn, sub, ab, col, dd, k0, k1, k2, k3, k5, ho, ht⟩
    · cases q
  · cases q

/-! ### a class whose __init__ stores its arguments, one a field -/
def spInit (C : Addr) (names : List Str) : Sp := fun vs H Q _ => ∃ (p dx : Addr) (args : List V), vs = .ref p :: args ∧ args.length = names.length ∧ H p = some (.ins C dx []) ∧
  ∀ H' : Hp, H' p = some (.ins C dx (names.zip args)) → (∀ b, b ≠ p → H' b = H b) → Q .non H'
/-- C(..) of such a class, behind its arguments: a new object, all that was tracked stands -/
theorem mk_at {C : Addr} {names : List Str} {E : XK} {H1 : Hp} {Q : VK} {vs : List V} (hl : vs.length = names.length)
    (q : ∀ (x : Addr) (H2 : Hp), H1 x = none → Same H1 H2 → (∃ dx, H2 x = some (.ins C dx (names.zip vs))) → Q (.ref x) H2) :
    ∀ x dx, H1 x = none → H1 dx = none → dx ≠ x → spInit C names (.ref x :: (vs ++ [])) (upd (upd H1 dx (.own x)) x (.ins C dx [])) (fun v H2 => v = .non ∧ Q (.ref x) H2) E := by
  intro x dx nx ndx ne
  refine ⟨x, dx, vs ++ [], rfl, by rw [List.append_nil]; exact hl, upd_same, fun H' e1 e2 => ⟨rfl, ?_⟩⟩
  rw [List.append_nil] at e1
  refine q x H' nx (fun b o e => ?_) ⟨dx, e1⟩
  rw [e2 b (ne_of_none e nx), upd_ne (ne_of_none e nx), upd_ne (ne_of_none e ndx)]
  exact e

/-- the same, for any wish -/
theorem init_at {C x dx : Addr} {names : List Str} {E : XK} {H1 : Hp} {R : VK} {vs : List V} (hl : vs.length = names.length) (nx : H1 x = none) (ndx : H1 dx = none)
    (q : ∀ H2 : Hp, Same H1 H2 → (∃ dx, H2 x = some (.ins C dx (names.zip vs))) → R .non H2) : spInit C names (.ref x :: (vs ++ [])) (upd (upd H1 dx (.own x)) x (.ins C dx [])) R E := by
  refine ⟨x, dx, vs ++ [], rfl, by rw [List.append_nil]; exact hl, upd_same, fun H' e1 e2 => ?_⟩
  rw [List.append_nil] at e1
  refine q H' (fun b o e => ?_) ⟨dx, e1⟩
  rw [e2 b (ne_of_none e nx), upd_ne (ne_of_none e nx), upd_ne (ne_of_none e ndx)]
  exact e

/-! ### an own exception's __init__ that stores its arguments, one a field -/
def spFault (C : Addr) (names : List Str) : Sp := fun vs H Q _ => ∃ (a : Addr) (args : List V), vs = .ref a :: args ∧ args.length = names.length ∧ H a = some (exo a C none) ∧
  ∀ (d : Addr) (H' : Hp), H d = none → d ≠ a → H' a = some (exo a C (some d)) → H' d = some (exd d (names.zip args).reverse) → (∀ b, b ≠ a → b ≠ d → H' b = H b) → Q .non H'
/-- raise C(..), behind its arguments -/
theorem fault_at {C : Addr} {names : List Str} {H1 : Hp} {Q : XK} {vs : List V} (hl : vs.length = names.length) (hz : vs.length ≤ 1000)
    (q : ∀ (d : Addr) (H2 : Hp), H1 d = none → Same H1 H2 → H2 d = some (.xd (names.zip vs).reverse) → Q (.ref C) (some d) H2) :
    vs.length ≤ 1000 ∧ ∀ a, H1 a = none → spFault C names (.ref a :: (vs ++ [])) (upd H1 a (exo a C none))
      (fun v H2 => v = .non ∧ ∃ (d : Addr) (fs : List (Str × V)), H2 a = some (exo a C (some d)) ∧ H2 d = some (exd d fs) ∧ H1 d = none ∧ Q (.ref C) (some d) (upd (del H2 a) d (.xd fs))) (fun _ _ _ => False) := by
  refine ⟨hz, fun a na => ⟨a, vs ++ [], rfl, by rw [List.append_nil]; exact hl, upd_same, fun d H' nd da e1 e2 e3 => ⟨rfl, d, _, e1, e2, ?_, ?_⟩⟩⟩
  · rw [upd_ne da] at nd
    exact nd
  · rw [upd_ne da] at nd
    rw [List.append_nil]
    refine q d _ nd (fun b o e => ?_) upd_same
    have ba : b ≠ a := ne_of_none e na
    have bd : b ≠ d := ne_of_none e nd
    rw [upd_ne bd, del_ne ba, e3 b ba bd, upd_ne ba]
    exact e
end SwA

end

section
set_option maxRecDepth 100000
set_option maxHeartbeats 4000000
/-! the mirror of the lexer and the parser: plain functions over lists of codes -/
namespace Sw
open PySem
/-- a text by its codes -/
abbrev Cs := List Nat
def sx (l : Cs) : Str := ⟨l.toArray⟩
theorem sx_inj {a b : Cs} (h : sx a = sx b) : a = b := by
  have e : (sx a).cps = (sx b).cps := by rw [h]
  have e2 : a.toArray = b.toArray := e
  simpa using congrArg Array.toList e2
def wCorridor : Cs := [99, 111, 114, 114, 105, 100, 111, 114]
def wSigns : Cs := [115, 105, 103, 110, 115]
def wMoods : Cs := [109, 111, 111, 100, 115]
def wRobot : Cs := [114, 111, 98, 111, 116]
def wPut : Cs := [112, 117, 116]
def wWhen : Cs := [119, 104, 101, 110]
def wLeave : Cs := [108, 101, 97, 118, 101]
def wLeft : Cs := [108, 101, 102, 116]
def wRight : Cs := [114, 105, 103, 104, 116]
def wOn : Cs := [111, 110]
def wBack : Cs := [98, 97, 99, 107]
def wStay : Cs := [115, 116, 97, 121]
def wSemi : Cs := [59]
def kws : List Cs := [wCorridor, wSigns, wMoods, wRobot, wPut, wWhen, wLeave, wLeft, wRight, wOn, wBack, wStay]
def ways : List Cs := [wLeft, wRight]
def moves : List Cs := [wOn, wBack, wStay]
inductive Kd where
  | name | number | keyword | sign | fin
  deriving DecidableEq
def Kd.str : Kd → Str
  | .name => "name"
  | .number => "number"
  | .keyword => "keyword"
  | .sign => "sign"
  | .fin => "end"
structure Tk where
  kind : Kd
  text : Cs
  line : Nat
  col : Nat
  deriving DecidableEq
def isL (c : Nat) : Bool := Nat.ble 97 c && Nat.ble c 122
def isD (c : Nat) : Bool := Nat.ble 48 c && Nat.ble c 57
def isS (c : Nat) : Bool := c == 32 || c == 10
/-- the token at the head of what is left of a row; none: a fault there -/
def readTok (line col : Nat) (rest : Cs) : Option Tk := match rest with
  | [] => none
  | c :: _ =>
    if c = 59 then some ⟨.sign, [59], line, col⟩
    else if isD c = true then
      (if 2 < (rest.takeWhile isD).length ∨ (1 < (rest.takeWhile isD).length ∧ c = 48) then none else some ⟨.number, rest.takeWhile isD, line, col⟩)
    else if rest.takeWhile isL ∈ kws then some ⟨.keyword, rest.takeWhile isL, line, col⟩
    else if 1 ≤ (rest.takeWhile isL).length ∧ (rest.takeWhile isL).length ≤ 8 then some ⟨.name, rest.takeWhile isL, line, col⟩
    else none
/-- a row from a column on: what is left of it, f at least its length -/
def lexRow (line : Nat) : Nat → Nat → Cs → Except (Nat × Nat) (List Tk)
  | _, _, [] => .ok []
  | 0, _, _ :: _ => .ok []
  | f + 1, col, c :: r =>
    if isS c = true then lexRow line f (col + 1) r
    else match readTok line col (c :: r) with
      | none => .error (line, col)
      | some t => match lexRow line f (col + t.text.length) ((c :: r).drop t.text.length) with
        | .error e => .error e
        | .ok ts => .ok (t :: ts)
def lexRows : Nat → List Cs → Except (Nat × Nat) (List Tk)
  | _, [] => .ok []
  | line, row :: rest => match lexRow line row.length 0 row with
    | .error e => .error e
    | .ok ts => match lexRows (line + 1) rest with
      | .error e => .error e
      | .ok us => .ok (ts ++ us)
def rowsOf (text : Cs) : List Cs := TL.spl [10] 0 [] text
def tokenize (text : Cs) : Except (Nat × Nat) (List Tk) := match lexRows 0 (rowsOf text) with
  | .error e => .error e
  | .ok ts => .ok (ts ++ [⟨.fin, [], (rowsOf text).length, 0⟩])
/-! ### the parser -/
structure Rule where
  left : Nat
  move : Cs
  later : Nat
  deriving DecidableEq
structure PSt where
  at_ : Nat
  faults : List (Nat × Nat × Cs)
  signs : List Cs
  moods : List Cs
  robots : List (Nat × Bool)
  rules : List ((Nat × Nat) × Rule)
  pairs : List (Cs × Cs)
  spots : List (Nat × Nat)
  deriving DecidableEq
def putA {κ α : Type} [DecidableEq κ] (l : List (κ × α)) (k : κ) (v : α) : List (κ × α) :=
  if (l.any fun kv => decide (kv.1 = k)) = true then l.map (fun kv => if kv.1 = k then (kv.1, v) else kv) else l ++ [(k, v)]
def getA {κ α : Type} [DecidableEq κ] (l : List (κ × α)) (k : κ) : Option α := (l.find? fun kv => decide (kv.1 = k)).map (·.2)
abbrev PR (α : Type) := Except (Nat × Nat) (α × PSt)
def endTk : Tk := ⟨.fin, [], 0, 0⟩
section
variable (T : List Tk)
def peek (st : PSt) : Tk := T.getD st.at_ endTk
def PSt.next (st : PSt) : PSt := { st with at_ := st.at_ + 1 }
def PSt.found (st : PSt) (reason : Cs) (t : Tk) : PSt := { st with faults := st.faults ++ [(t.line, t.col, reason)] }
def failAt (st : PSt) : Nat × Nat := ((peek T st).line, (peek T st).col)
def take (k : Kd) (st : PSt) : PR Tk := if (peek T st).kind = k then .ok (peek T st, st.next) else .error (failAt T st)
def takeWord (w : Cs) (st : PSt) : PR Tk := if (peek T st).text = w then .ok (peek T st, st.next) else .error (failAt T st)
def takeKw (ws : List Cs) (st : PSt) : PR Tk := if (peek T st).kind = .keyword ∧ (peek T st).text ∈ ws then .ok (peek T st, st.next) else .error (failAt T st)
/-- the names of a kind: false signs, true moods -/
def PSt.names (b : Bool) (st : PSt) : List Cs := if b then st.moods else st.signs
def PSt.push (b : Bool) (w : Cs) (st : PSt) : PSt := if b then { st with moods := st.moods ++ [w] } else { st with signs := st.signs ++ [w] }
def rDuplicate : Cs := [100, 117, 112, 108, 105, 99, 97, 116, 101]
def rUnknown : Cs := [117, 110, 107, 110, 111, 119, 110]
def rTile : Cs := [116, 105, 108, 101]
def rRobots : Cs := [114, 111, 98, 111, 116, 115]
def rAgain : Cs := [97, 103, 97, 105, 110]
def rTwice : Cs := [116, 119, 105, 99, 101]
def wordOf (b : Bool) : Cs := if b then wMoods else wSigns
def mostOf (b : Bool) : Nat := if b then 6 else 4
def addName (b : Bool) (st : PSt) (t : Tk) : PSt :=
  if t.text ∈ st.names b then st.found rDuplicate t
  else if (st.names b).length = mostOf b then st.found (wordOf b) t
  else st.push b t.text
/-- further names, f turns at most -/
def moreNames : Nat → PSt → List Tk → List Tk × PSt
  | 0, st, acc => (acc, st)
  | f + 1, st, acc => if (peek T st).kind = .name then moreNames f st.next (acc ++ [peek T st]) else (acc, st)
def parseNames (b : Bool) (st : PSt) : PR Unit := match takeWord T (wordOf b) st with
  | .error e => .error e
  | .ok (_, s1) => match take T .name s1 with
    | .error e => .error e
    | .ok (t, s2) => match takeWord T wSemi (moreNames T T.length s2 [t]).2 with
      | .error e => .error e
      | .ok (_, s3) => .ok ((), (moreNames T T.length s2 [t]).1.foldl (addName b) s3)
def numberOf (names : List Cs) (t : Tk) (st : PSt) : Nat × PSt := if t.text ∈ names then (names.idxOf t.text, st) else (0, st.found rUnknown t)
def numVal (w : Cs) : Nat := w.foldl (fun a c => a * 10 + (c - 48)) 0
def tileOf (tiles : Nat) (st : PSt) : PR Nat := match take T .number st with
  | .error e => .error e
  | .ok (t, s1) => .ok (numVal t.text, if tiles ≤ numVal t.text then s1.found rTile t else s1)
def parseRobot (tiles : Nat) (st : PSt) : PR Unit := match takeWord T wRobot st with
  | .error e => .error e
  | .ok (kw, s1) => match tileOf T tiles (if s1.robots.length = 3 then s1.found rRobots kw else s1) with
    | .error e => .error e
    | .ok (tile, s2) => match takeKw T ways s2 with
      | .error e => .error e
      | .ok (way, s3) => match takeWord T wSemi s3 with
        | .error e => .error e
        | .ok (_, s4) => .ok ((), { s4 with robots := s4.robots ++ [(tile, decide (way.text = wRight))] })
def parsePut (tiles : Nat) (st : PSt) : PR Unit := match takeWord T wPut st with
  | .error e => .error e
  | .ok (_, s1) => match take T .name s1 with
    | .error e => .error e
    | .ok (nm, s2) => match tileOf T tiles (numberOf s2.signs nm s2).2 with
      | .error e => .error e
      | .ok (tile, s3) => match takeWord T wSemi s3 with
        | .error e => .error e
        | .ok (_, s4) =>
          let s5 := if (s4.spots.any fun kv => decide (kv.1 = tile)) = true then s4.found rAgain (peek T (numberOf s2.signs nm s2).2) else s4
          .ok ((), { s5 with spots := putA s5.spots tile (numberOf s2.signs nm s2).1 })
def parseRule (st : PSt) : PR Unit := match takeWord T wWhen st with
  | .error e => .error e
  | .ok (kw, s1) => match take T .name s1 with
    | .error e => .error e
    | .ok (first, s2) => match take T .name (numberOf s2.moods first s2).2 with
      | .error e => .error e
      | .ok (second, s3) => match takeWord T wLeave (numberOf s3.signs second s3).2 with
        | .error e => .error e
        | .ok (_, s4) => match take T .name s4 with
          | .error e => .error e
          | .ok (lf, s5) => match takeKw T moves (numberOf s5.signs lf s5).2 with
            | .error e => .error e
            | .ok (mv, s6) => match take T .name s6 with
              | .error e => .error e
              | .ok (la, s7) => match takeWord T wSemi (numberOf s7.moods la s7).2 with
                | .error e => .error e
                | .ok (_, s8) =>
                  let s9 := if (first.text, second.text) ∈ s8.pairs then s8.found rTwice kw else s8
                  let s10 : PSt := { s9 with pairs := if (first.text, second.text) ∈ s9.pairs then s9.pairs else s9.pairs ++ [(first.text, second.text)] }
                  .ok ((), { s10 with rules := putA s10.rules ((numberOf s2.moods first s2).1, (numberOf s3.signs second s3).1) ⟨(numberOf s5.signs lf s5).1, mv.text, (numberOf s7.moods la s7).1⟩ })
def parseStmt (tiles : Nat) (st : PSt) : PR Unit :=
  if (peek T st).text = wRobot then parseRobot T tiles st
  else if (peek T st).text = wPut then parsePut T tiles st
  else if (peek T st).text = wWhen then parseRule T st
  else .error (failAt T st)
/-- the statements, f turns at most -/
def parseStmts (tiles : Nat) : Nat → PSt → PR Unit
  | 0, st => .ok ((), st)
  | f + 1, st => if (peek T st).kind = .fin then .ok ((), st) else match parseStmt T tiles st with
    | .error e => .error e
    | .ok (_, s1) => parseStmts tiles f s1
def st0 : PSt := ⟨0, [], [], [], [], [], [], []⟩
/-- the whole: tiles, the state at the end -/
def parsePlan : PR Nat := match takeWord T wCorridor st0 with
  | .error e => .error e
  | .ok (_, s1) => match take T .number s1 with
    | .error e => .error e
    | .ok (t, s2) => match takeWord T wSemi s2 with
      | .error e => .error e
      | .ok (_, s3) => match parseNames T false (if 1 ≤ numVal t.text ∧ numVal t.text ≤ 16 then s3 else s3.found wCorridor t) with
        | .error e => .error e
        | .ok (_, s4) => match parseNames T true s4 with
          | .error e => .error e
          | .ok (_, s5) => match parseRobot T (numVal t.text) s5 with
            | .error e => .error e
            | .ok (_, s6) => match parseStmts T (numVal t.text) T.length s6 with
              | .error e => .error e
              | .ok (_, s7) => .ok (numVal t.text, s7)
end
structure Plan where
  signs : List Cs
  moods : List Cs
  floor : List Nat
  robots : List (Nat × Bool)
  rules : List ((Nat × Nat) × Rule)
  deriving DecidableEq
def planOf (tiles : Nat) (st : PSt) : Plan := ⟨st.signs, st.moods, (List.range tiles).map fun i => (getA st.spots i).getD 0, st.robots, st.rules⟩
/-- what load does: a SyntaxFault at a place; else the tiles and the parser's last state -/
def loads (text : Cs) : Except (Nat × Nat) (Nat × PSt) := match tokenize text with
  | .error e => .error e
  | .ok T => parsePlan T
def txt (s : String) : Cs := s.toList.map Char.toNat
def k18 : Cs := txt "corridor 2; signs no; moods go; robot 0 right; when go no leave no on go;"
example : (match loads k18 with | .ok (n, st) => decide (planOf n st = ⟨[txt "no"], [txt "go"], [0, 0], [(0, true)], [((0, 0), ⟨0, wOn, 0⟩)]⟩) && st.faults.isEmpty | .error _ => false) = true := by decide +kernel
example : (match loads (txt "corridor") with | .ok _ => false | .error e => decide (e = (1, 0))) = true := by decide +kernel
end Sw

end

section
set_option maxRecDepth 100000
set_option maxHeartbeats 4000000
/-! what the head asks of the program's objects, ahead of the walks -/
namespace Sw
open PySem PySem.Spec PyProof.Rows L2 SwA
def excCB (K : PySem.W.Frag) (x : Str) (fields : List Str) : Bool :=
  (He.Fa.glo x).ok K && (oexB K (He.ga K x) && (He.eqO (PySem.W.findIn K (.ref (He.ga K x)) "__init__") (some (some (.ref (He.ma K (He.ga K x) "__init__")))) &&
    (decide (PySem.W.typeIn K (.ref (He.ma K (He.ga K x) "__init__")) = some (.type "function")) && fields.all fun f => He.eqO (PySem.W.findIn K (.ref (He.ga K x)) f) (some none))))
def mkCB (K : PySem.W.Frag) (x : Str) (fields : List Str) : Bool := (He.Fa.glo x).ok K && ((He.Fa.mkr x).ok K && ((He.Fa.cls x).ok K && fields.all fun f => (He.Fa.noat x f).ok K))
abbrev tokF : List Str := ["kind", "text", "line", "column"]
abbrev parN : List Str := ["tokens", "at", "faults", "signs", "moods", "robots", "rules", "pairs", "spots"]
abbrev planF : List Str := ["signs", "moods", "floor", "robots", "rules"]
def lenKV (e : DictEntry) : Option (Str × Int) := match e.key, e.val with
  | .str x _, .int i _ => some (x, i)
  | _, _ => none
def lensL : List (Option (Str × Int)) := [some ("step", 2), some ("put", 3), some ("turn", 2), some ("undo", 1), some ("redo", 1)]
def lenB (K : PySem.W.Frag) (a : Addr) : Bool := match K.lookup a with
  | some ⟨_, _, .dict es _, _⟩ => decide (es.toList.map lenKV = lensL)
  | _ => false
def clsN : List Str := ["InvalidTick", "InvalidNumber", "UnknownSign", "TooLong", "OtherCorridor", "Contradiction", "InvalidName", "UnknownName", "SyntaxFault", "CheckFault", "InvalidCode", "InvalidOperation"]
def xcB (K : PySem.W.Frag) (D : Addr) : Bool := He.eqO (PySem.W.findIn K (.ref D) "__getattribute__") (some (some (.builtin "BaseException.__getattribute__"))) && (He.eqO (PySem.W.findIn K (.ref D) "__getattr__") (some none) && (decide (PySem.W.subIn K (.ref D) (.type "BaseException") = some true) && (PySem.W.hasDictIn K D &&
  (He.eqO (PySem.W.findIn K (.ref D) "__class__") (some (some (.builtin "object.__class__"))) && (He.eqO (PySem.W.specialIn K (.builtin "object.__class__") "__get__") (some (some (.builtin "getset_descriptor.__get__"))) && (decide (PySem.W.takesIn K (.builtin "object.__class__") = some true) && decide (PySem.W.mroIn K D (.type "object") = some true)))))))
def ekB (K : PySem.W.Frag) (D : Str) (j : Nat) : Bool := xcB K (He.ga K D) && (decide (PySem.W.exmOne K (.ref (He.ga K D)) (.ref (He.ga K "SweepError")) = some true) && (decide (PySem.W.kitOne K (.ref (He.ga K D)) (.type "ValueError") = some true) && clsN.zipIdx.all fun q => decide (PySem.W.kitOne K (.ref (He.ga K D)) (.ref (He.ga K q.1)) = some (decide (q.2 = j)))))
end Sw

end

section
set_option maxRecDepth 100000
set_option maxHeartbeats 0
/-! the head: the run and what is asked of it -/
namespace Sw
open PySem PySem.Spec PyProof.Rows L2 SwA
def dd0 : He.DefD := ⟨("SyntaxFault", some "__init__"), "__init__", "SyntaxFault.__init__", defArgs s_SyntaxFault_init, defBody s_SyntaxFault_init, defScope s_SyntaxFault_init, [], []⟩
def dd1 : He.DefD := ⟨("CheckFault", some "__init__"), "__init__", "CheckFault.__init__", defArgs s_CheckFault_init, defBody s_CheckFault_init, defScope s_CheckFault_init, [], []⟩
def dd2 : He.DefD := ⟨("Token", some "__init__"), "__init__", "Token.__init__", defArgs s_Token_init, defBody s_Token_init, defScope s_Token_init, [], []⟩
def dd3 : He.DefD := ⟨("run_end", none), "run_end", "run_end", defArgs s_run_end, defBody s_run_end, defScope s_run_end, [], []⟩
def dd4 : He.DefD := ⟨("read_token", none), "read_token", "read_token", defArgs s_read_token, defBody s_read_token, defScope s_read_token, [], []⟩
def dd5 : He.DefD := ⟨("tokenize", none), "tokenize", "tokenize", defArgs s_tokenize, defBody s_tokenize, defScope s_tokenize, [], []⟩
def dd6 : He.DefD := ⟨("Plan", some "__init__"), "__init__", "Plan.__init__", defArgs s_Plan_init, defBody s_Plan_init, defScope s_Plan_init, [], []⟩
def dd7 : He.DefD := ⟨("Plan", some "with_floor"), "with_floor", "Plan.with_floor", defArgs s_Plan_with_floor, defBody s_Plan_with_floor, defScope s_Plan_with_floor, [], []⟩
def dd8 : He.DefD := ⟨("Plan", some "with_robots"), "with_robots", "Plan.with_robots", defArgs s_Plan_with_robots, defBody s_Plan_with_robots, defScope s_Plan_with_robots, [], []⟩
def dd9 : He.DefD := ⟨("Parser", some "__init__"), "__init__", "Parser.__init__", defArgs s_Parser_init, defBody s_Parser_init, defScope s_Parser_init, [], []⟩
def dd10 : He.DefD := ⟨("Parser", some "peek"), "peek", "Parser.peek", defArgs s_Parser_peek, defBody s_Parser_peek, defScope s_Parser_peek, [], []⟩
def dd11 : He.DefD := ⟨("Parser", some "fail"), "fail", "Parser.fail", defArgs s_Parser_fail, defBody s_Parser_fail, defScope s_Parser_fail, [], []⟩
def dd12 : He.DefD := ⟨("Parser", some "found"), "found", "Parser.found", defArgs s_Parser_found, defBody s_Parser_found, defScope s_Parser_found, [], []⟩
def dd13 : He.DefD := ⟨("Parser", some "take"), "take", "Parser.take", defArgs s_Parser_take, defBody s_Parser_take, defScope s_Parser_take, [], []⟩
def dd14 : He.DefD := ⟨("Parser", some "take_word"), "take_word", "Parser.take_word", defArgs s_Parser_take_word, defBody s_Parser_take_word, defScope s_Parser_take_word, [], []⟩
def dd15 : He.DefD := ⟨("Parser", some "take_keyword"), "take_keyword", "Parser.take_keyword", defArgs s_Parser_take_keyword, defBody s_Parser_take_keyword, defScope s_Parser_take_keyword, [], []⟩
def dd16 : He.DefD := ⟨("Parser", some "parse_names"), "parse_names", "Parser.parse_names", defArgs s_Parser_parse_names, defBody s_Parser_parse_names, defScope s_Parser_parse_names, [], []⟩
def dd17 : He.DefD := ⟨("Parser", some "number_of"), "number_of", "Parser.number_of", defArgs s_Parser_number_of, defBody s_Parser_number_of, defScope s_Parser_number_of, [], []⟩
def dd18 : He.DefD := ⟨("Parser", some "tile_of"), "tile_of", "Parser.tile_of", defArgs s_Parser_tile_of, defBody s_Parser_tile_of, defScope s_Parser_tile_of, [], []⟩
def dd19 : He.DefD := ⟨("Parser", some "parse_robot"), "parse_robot", "Parser.parse_robot", defArgs s_Parser_parse_robot, defBody s_Parser_parse_robot, defScope s_Parser_parse_robot, [], []⟩
def dd20 : He.DefD := ⟨("Parser", some "parse_put"), "parse_put", "Parser.parse_put", defArgs s_Parser_parse_put, defBody s_Parser_parse_put, defScope s_Parser_parse_put, [], []⟩
def dd21 : He.DefD := ⟨("Parser", some "parse_rule"), "parse_rule", "Parser.parse_rule", defArgs s_Parser_parse_rule, defBody s_Parser_parse_rule, defScope s_Parser_parse_rule, [], []⟩
def dd22 : He.DefD := ⟨("Parser", some "parse_plan"), "parse_plan", "Parser.parse_plan", defArgs s_Parser_parse_plan, defBody s_Parser_parse_plan, defScope s_Parser_parse_plan, [], []⟩
def dd23 : He.DefD := ⟨("load", none), "load", "load", defArgs s_load, defBody s_load, defScope s_load, [], []⟩
def dd24 : He.DefD := ⟨("is_int_in", none), "is_int_in", "is_int_in", defArgs s_is_int_in, defBody s_is_int_in, defScope s_is_int_in, [], []⟩
def dd25 : He.DefD := ⟨("check_tick", none), "check_tick", "check_tick", defArgs s_check_tick, defBody s_check_tick, defScope s_check_tick, [], []⟩
def dd26 : He.DefD := ⟨("replaced", none), "replaced", "replaced", defArgs s_replaced, defBody s_replaced, defScope s_replaced, [], []⟩
def dd27 : He.DefD := ⟨("State", some "__init__"), "__init__", "State.__init__", defArgs s_State_init, defBody s_State_init, defScope s_State_init, [], []⟩
def dd28 : He.DefD := ⟨("first_state", none), "first_state", "first_state", defArgs s_first_state, defBody s_first_state, defScope s_first_state, [], []⟩
def dd29 : He.DefD := ⟨("moved", none), "moved", "moved", defArgs s_moved, defBody s_moved, defScope s_moved, [], []⟩
def dd30 : He.DefD := ⟨("act", none), "act", "act", defArgs s_act, defBody s_act, defScope s_act, [], []⟩
def dd31 : He.DefD := ⟨("Tick", some "__init__"), "__init__", "Tick.__init__", defArgs s_Tick_init, defBody s_Tick_init, defScope s_Tick_init, [], []⟩
def dd32 : He.DefD := ⟨("next_tick", none), "next_tick", "next_tick", defArgs s_next_tick, defBody s_next_tick, defScope s_next_tick, [], []⟩
def dd33 : He.DefD := ⟨("Story", some "__init__"), "__init__", "Story.__init__", defArgs s_Story_init, defBody s_Story_init, defScope s_Story_init, [], []⟩
def dd34 : He.DefD := ⟨("Story", some "happens"), "happens", "Story.happens", defArgs s_Story_happens, defBody s_Story_happens, defScope s_Story_happens, [], []⟩
def dd35 : He.DefD := ⟨("Story", some "count"), "count", "Story.count", defArgs s_Story_count, defBody s_Story_count, defScope s_Story_count, [], []⟩
def dd36 : He.DefD := ⟨("signs_on", none), "signs_on", "signs_on", defArgs s_signs_on, defBody s_signs_on, defScope s_signs_on, [], []⟩
def dd37 : He.DefD := ⟨("robots_in", none), "robots_in", "robots_in", defArgs s_robots_in, defBody s_robots_in, defScope s_robots_in, [], []⟩
def dd38 : He.DefD := ⟨("trace", none), "trace", "trace", defArgs s_trace, defBody s_trace, defScope s_trace, [], []⟩
def dd39 : He.DefD := ⟨("find_cycle", none), "find_cycle", "find_cycle", defArgs s_find_cycle, defBody s_find_cycle, defScope s_find_cycle, [], []⟩
def dd40 : He.DefD := ⟨("first_difference", none), "first_difference", "first_difference", defArgs s_first_difference, defBody s_first_difference, defScope s_first_difference, [], []⟩
def dd41 : He.DefD := ⟨("rest_tick", none), "rest_tick", "rest_tick", defArgs s_rest_tick, defBody s_rest_tick, defScope s_rest_tick, [], []⟩
def dd42 : He.DefD := ⟨("longest_wait", none), "longest_wait", "longest_wait", defArgs s_longest_wait, defBody s_longest_wait, defScope s_longest_wait, [], []⟩
def dd43 : He.DefD := ⟨("_law_random", none), "_law_random", "_law_random", defArgs s__law_random, defBody s__law_random, defScope s__law_random, [], []⟩
def dd44 : He.DefD := ⟨("_law_below", none), "_law_below", "_law_below", defArgs s__law_below, defBody s__law_below, defScope s__law_below, [], []⟩
def dd45 : He.DefD := ⟨("_law_shuffled", none), "_law_shuffled", "_law_shuffled", defArgs s__law_shuffled, defBody s__law_shuffled, defScope s__law_shuffled, [], []⟩
def dd46 : He.DefD := ⟨("_law_plan", none), "_law_plan", "_law_plan", defArgs s__law_plan, defBody s__law_plan, defScope s__law_plan, [], []⟩
def dd47 : He.DefD := ⟨("_law_short", none), "_law_short", "_law_short", defArgs s__law_short, defBody s__law_short, defScope s__law_short, [], []⟩
def dd48 : He.DefD := ⟨("_law_lines", none), "_law_lines", "_law_lines", defArgs s__law_lines, defBody s__law_lines, defScope s__law_lines, [], []⟩
def dd49 : He.DefD := ⟨("_law_text", none), "_law_text", "_law_text", defArgs s__law_text, defBody s__law_text, defScope s__law_text, [], []⟩
def dd50 : He.DefD := ⟨("law", none), "law", "law", defArgs s_law, defBody s_law, defScope s_law, [], []⟩
def wd0 : He5.DefA := ⟨fun K => He5.wf K (He.ga K "State") "property" "key", "key", "State.key", defArgs s_State_key, defBody s_State_key, defScope s_State_key, [], []⟩
def wd1 : He5.DefA := ⟨fun K => He5.wf K (He.ga K "Story") "property" "size", "size", "Story.size", defArgs s_Story_size, defBody s_Story_size, defScope s_Story_size, [], []⟩
def waL : List He5.DefA := [wd0, wd1]
def fn0 : List He.DefD := [dd0, dd1, dd2, dd3, dd4, dd5, dd6, dd7, dd8, dd9, dd10, dd11, dd12, dd13, dd14, dd15, dd16, dd17, dd18, dd19, dd20, dd21, dd22, dd23, dd24, dd25, dd26, dd27, dd28, dd29]
def fn1 : List He.DefD := [dd30, dd31, dd32, dd33, dd34, dd35, dd36, dd37, dd38, dd39, dd40, dd41, dd42, dd43, dd44, dd45, dd46, dd47, dd48, dd49, dd50]
def fnL : List He.DefD := fn0 ++ fn1
def fa0 : List He.Fa := [.free "len", .free "abs", .free "list", .free "tuple", .free "range", .glo "_law_random", .glo "_law_below", .glo "_law_shuffled", .glo "_law_plan", .free "min", .glo "_law_short", .free "str", .free "sorted", .glo "_law_lines", .glo "_law_text", .glo "SweepError", .free "enumerate", .glo "run_end", .glo "read_token", .glo "tokenize", .str "SIGNS" ";", .str "DIGITS" "0123456789", .str "LETTERS" "abcdefghijklmnopqrstuvwxyz", .str "SPACES" " \n", .str "SIGN" "sign", .str "NUMBER" "number", .str "KEYWORD" "keyword", .str "NAME" "name", .str "END" "end", .int "MAX_DIGITS" 2]
def fa1 : List He.Fa := [.int "MAX_LETTERS" 8, .glo "KEYWORDS", .free "int", .meth "Parser" "peek", .meth "Parser" "fail", .meth "Parser" "found", .meth "Parser" "take", .meth "Parser" "take_word", .meth "Parser" "take_keyword", .meth "Parser" "parse_names", .meth "Parser" "number_of", .meth "Parser" "tile_of", .meth "Parser" "parse_robot", .meth "Parser" "parse_put", .meth "Parser" "parse_rule", .meth "Parser" "parse_plan", .int "MAX_TILES" 16, .int "MAX_SIGNS" 4, .int "MAX_MOODS" 6, .int "MAX_ROBOTS" 3, .glo "WAYS", .glo "MOVES", .glo "load", .free "isinstance", .free "bool", .str "REST" "rest", .glo "is_int_in", .glo "replaced", .glo "first_state", .glo "moved"]
def fa2 : List He.Fa := [.glo "act", .glo "next_tick", .int "MAX_STATES" 20000, .meth "Story" "happens", .glo "find_cycle", .int "MAX_TICK" 1000000000000000000, .glo "check_tick", .int "MAX_TRACE" 500, .free "zip", .glo "trace", .glo "signs_on", .glo "robots_in", .free "max", .glo "first_difference", .glo "longest_wait", .free "all", .glo "rest_tick", .free "dict", .glo "law"]
def faL : List He.Fa := fa0 ++ fa1 ++ fa2
def fclsB (K : PySem.W.Frag) : Bool := match PySem.W.findCls K (.ref (He.ga K "SweepError")) (.type "type") "__init__" with
  | some (.val (.builtin n)) => n == "ValueError.__init__"
  | _ => false
def mvB (K : PySem.W.Frag) : Bool := match K.lookup (He.ga K "MOVES") with
  | some ⟨.type "tuple", none, _, _⟩ => true
  | _ => false
def recB (K : PySem.W.Frag) (p : Addr) : Bool := match PySem.W.recIn K p "property" with
  | some (.ref _ :: _) => true
  | _ => false
def propB (K : PySem.W.Frag) (C f : Str) : Bool := He.eqO (PySem.W.findIn K (.ref (He.ga K C)) f) (some (some (.ref (He.ma K (He.ga K C) f)))) && (He.eqO (PySem.W.specialIn K (.ref (He.ma K (He.ga K C) f)) "__get__") (some (some (.builtin "property.__get__"))) &&
  (decide (PySem.W.takesIn K (.ref (He.ma K (He.ga K C) f)) = some true) && recB K (He.ma K (He.ga K C) f)))
def exB (K : PySem.W.Frag) : Bool := PySem.W.readsIn K (He.ga K "SweepError") (.type "type") && (He.eqO (PySem.W.specialIn K (.ref (He.ga K "SweepError")) "__getattribute__") (some (some (.builtin "type.__getattribute__"))) && (fclsB K && (excCB K "SyntaxFault" ["line", "column"] && (mkCB K "Token" tokF && (He.tupB K "KEYWORDS" (kws.map fun w => He.Dv.str (sx w)) && (mkCB K "Parser" parN && (decide (He.ga K "Parser" ≠ He.ga K "Token") && (He.tupB K "WAYS" (ways.map fun w => He.Dv.str (sx w)) && (He.tupB K "MOVES" (moves.map fun w => He.Dv.str (sx w)) && (mkCB K "Plan" planF && (mkCB K "State" ["floor", "robots"] && (mkCB K "Tick" ["swept", "words", "state"] && (decide (He.ga K "State" ≠ He.ga K "Story") && (decide (He.ga K "Plan" ≠ He.ga K "Story") && (decide (He.ga K "Tick" ≠ He.ga K "Story") && (propB K "State" "key" && (mkCB K "Story" ["ticks", "start"] && (propB K "Story" "size"))))))))))))))))))
abbrev R : PySem.W.OpenRow := PySem.W.OpenLaw.row PySem.Challenge.rw_sweeprota_k42_whole_rules_that_never_hol
def tsL : List He.Tab := []
def codeW (g : Addr → Option Obj) (a : Addr) : List Addr := match g a with
  | some ⟨_, _, .func fd, _⟩ => He.refV fd.code
  | _ => []
def asZ (g : Addr → Option Obj) (as : List Addr) : List Addr := as ++ (cStatics :: waL.flatMap fun d => codeW g (d.at_ (He.frG g as)))
def asY (g : Addr → Option Obj) : List Addr := asZ g (He.asD g 4)
abbrev AlY : Type := He.AlT × He.AlD × Bool
def obsY (g : Addr → Option Obj) : AlY := (He.obsT faL fnL tsL (He.frG g (asY g)), He5.obsA [] waL (He.frG g (asY g)), exB (He.frG g (asY g)))
structure SaysY (w : World) (K : PySem.W.Frag) : Prop where
  t : He.SaysT faL fnL tsL w K
  a : He5.SaysA [] waL K
  more : exB K = true
def hk : PySem.W.Hook where
  α := AlY
  obs := fun s => obsY s.heap.get?
  val := fun w => (He.valT fnL tsL w, He5.valA waL, true)
  says := fun w h => ∃ K : PySem.W.Frag, K.In h ∧ SaysY w K
  of := fun _ _ e => ⟨_, He.frG_in, congrArg (fun z : AlY => z.1) e, congrArg (fun z : AlY => z.2.1) e, congrArg (fun z : AlY => z.2.2) e⟩
  keeps := fun _ _ _ ⟨K, hK, c⟩ k => ⟨K, PySem.W.Frag.In.keeps hK k, c⟩
def ob (s : PySem.W.SharedT) : AlY := obsY (HandSHeadRun.getT s)
theorem ob_eq (s : PySem.W.SharedT) : ob s = hk.obs s.abs := by
  have e : HandSHeadRun.getT s = s.abs.heap.get? := funext (HandSHeadRun.getT_eq s)
  unfold ob
  rw [e] <;> rfl
def nm0 : List PySem.Str := ["_wall", "SweepError", "SyntaxFault", "CheckFault", "InvalidTick", "TooLong", "OtherCorridor", "WAYS", "MOVES", "KEYWORDS", "LETTERS", "DIGITS", "SPACES", "SIGNS", "MAX_LETTERS", "MAX_DIGITS", "NAME", "NUMBER", "KEYWORD", "SIGN", "END", "Token", "run_end", "read_token", "tokenize", "MAX_TILES", "MAX_SIGNS", "MAX_MOODS", "MAX_ROBOTS", "Plan"]
def nm1 : List PySem.Str := ["Parser", "load", "MAX_TICK", "MAX_STATES", "MAX_TRACE", "REST", "is_int_in", "check_tick", "replaced", "State", "first_state", "moved", "act", "Tick", "next_tick", "Story", "signs_on", "robots_in", "trace", "find_cycle", "first_difference", "rest_tick", "longest_wait", "_law_random", "_law_below", "_law_shuffled", "_law_plan", "_law_short", "_law_lines", "_law_text"]
def names : List PySem.Str := nm0 ++ nm1
theorem run (w : World) : HandSHeadRun.RunEq R (PySem.W.view R.prog [67]) hk ob 60000 names w := by
  intro os
  kernel_rfl
end Sw

end

section
set_option maxRecDepth 100000
set_option maxHeartbeats 4000000
/-! what the head asks: instances of an own class, asked by isinstance -/
namespace Sw
open PySem PySem.Spec PyProof.Rows L2 SwA
def isiB (K : PySem.W.Frag) (C : Addr) : Bool := He.eqO (PySem.W.findIn K (.ref C) "__class__") (some (some (.builtin "object.__class__"))) && (He.eqO (PySem.W.specialIn K (.builtin "object.__class__") "__get__") (some (some (.builtin "getset_descriptor.__get__"))) &&
  (decide (PySem.W.takesIn K (.builtin "object.__class__") = some true) && (decide (PySem.W.mroIn K C (.type "object") = some true) && decide (PySem.W.kitOne K (.ref C) (.ref C) = some true))))
structure IsiC (K : PySem.W.Frag) (C : Addr) : Prop where
  ha : PySem.W.findIn K (.ref C) "__class__" = some (some (.builtin "object.__class__"))
  hn : PySem.W.specialIn K (.builtin "object.__class__") "__get__" = some (some (.builtin "getset_descriptor.__get__"))
  ht : PySem.W.takesIn K (.builtin "object.__class__") = some true
  hm : PySem.W.mroIn K C (.type "object") = some true
  kit : PySem.W.kitOne K (.ref C) (.ref C) = some true
theorem isiB_ok {K : PySem.W.Frag} {C : Addr} (h : isiB K C = true) : IsiC K C := by
  obtain ⟨h1, h⟩ := He.ba h
  obtain ⟨h2, h⟩ := He.ba h
  obtain ⟨h3, h⟩ := He.ba h
  obtain ⟨h4, h5⟩ := He.ba h
  exact ⟨He.eqO_ok h1, He.eqO_ok h2, of_decide_eq_true h3, of_decide_eq_true h4, of_decide_eq_true h5⟩
end Sw

end

section
set_option maxRecDepth 100000
set_option maxHeartbeats 4000000
/-! bounds along the mirror of the parser -/
namespace Sw
open PySem
structure GoodT (T : List Tk) : Prop where
  last : ∀ (i : Nat) t, T[i]? = some t → i + 1 = T.length → t.kind = .fin ∧ t.text = []
  ne : T ≠ []
  fin : ∀ (i : Nat) t, T[i]? = some t → t.kind = .fin → i + 1 = T.length
  num : ∀ t ∈ T, t.kind = .number → (1 ≤ t.text.length ∧ t.text.length ≤ 2) ∧ t.text.all isD = true
  len : T.length ≤ 100000
structure Bd (T : List Tk) (st : PSt) : Prop where
  at_ : st.at_ < T.length
  fa : st.faults.length ≤ 2 * st.at_
  si : st.signs.length ≤ 4
  mo : st.moods.length ≤ 6
  ro : st.robots.length ≤ st.at_
  ru : st.rules.length ≤ st.at_
  pr : st.pairs.length ≤ st.at_
  sp : st.spots.length ≤ st.at_
section
variable {T : List Tk} {st s1 : PSt}
theorem peek_get (h : st.at_ < T.length) : T[st.at_]? = some (peek T st) := by
  unfold peek
  rw [List.getD_eq_getElem?_getD, List.getElem?_eq_getElem h]
  rfl
theorem GoodT.more (G : GoodT T) (h : st.at_ < T.length) (hk : (peek T st).kind ≠ .fin) : st.at_ + 1 < T.length := by
  refine Nat.lt_of_le_of_ne h fun e => hk ?_
  exact (G.last _ _ (peek_get h) e).1
theorem take_ok {k : Kd} {t : Tk} (h : take T k st = .ok (t, s1)) : s1 = st.next ∧ t = peek T st ∧ t.kind = k := by
  unfold take at h
  split at h
  · rename_i q
    cases h
    exact ⟨rfl, rfl, q⟩
  · cases h
theorem takeWord_ok {wd : Cs} {t : Tk} (h : takeWord T wd st = .ok (t, s1)) : s1 = st.next ∧ t = peek T st ∧ t.text = wd := by
  unfold takeWord at h
  split at h
  · rename_i q
    cases h
    exact ⟨rfl, rfl, q⟩
  · cases h
theorem takeKw_ok {ws : List Cs} {t : Tk} (h : takeKw T ws st = .ok (t, s1)) : s1 = st.next ∧ t = peek T st ∧ t.kind = .keyword ∧ t.text ∈ ws := by
  unfold takeKw at h
  split at h
  · rename_i q
    cases h
    exact ⟨rfl, rfl, q.1, q.2⟩
  · cases h
theorem Bd.next (B : Bd T st) (h : st.at_ + 1 < T.length) : Bd T st.next := ⟨h, by have := B.fa; show st.faults.length ≤ 2 * (st.at_ + 1); omega, B.si, B.mo, by have := B.ro; show st.robots.length ≤ st.at_ + 1; omega, by have := B.ru; show st.rules.length ≤ st.at_ + 1; omega,
  by have := B.pr; show st.pairs.length ≤ st.at_ + 1; omega, by have := B.sp; show st.spots.length ≤ st.at_ + 1; omega⟩
/-- with room for one more fault -/
theorem Bd.next1 (B : Bd T st) (h : st.at_ + 1 < T.length) : Bd T st.next ∧ st.next.faults.length + 2 ≤ 2 * st.next.at_ := ⟨B.next h, by have := B.fa; show st.faults.length + 2 ≤ 2 * (st.at_ + 1); omega⟩
theorem Bd.found (B : Bd T st) {r : Cs} {t : Tk} (h : st.faults.length + 1 ≤ 2 * st.at_) : Bd T (st.found r t) := ⟨B.at_, by show (st.faults ++ [_]).length ≤ 2 * st.at_; simp; omega, B.si, B.mo, B.ro, B.ru, B.pr, B.sp⟩
theorem bd_take (G : GoodT T) (B : Bd T st) {k : Kd} {t : Tk} (h : take T k st = .ok (t, s1)) (hk : k ≠ .fin) : Bd T s1 ∧ s1.faults.length + 2 ≤ 2 * s1.at_ ∧ s1 = st.next ∧ t ∈ T := by
  obtain ⟨rfl, rfl, e⟩ := take_ok h
  have z := B.next1 (G.more B.at_ (by rw [e]; exact hk))
  exact ⟨z.1, z.2, rfl, List.mem_of_getElem? (peek_get B.at_)⟩
theorem bd_word (G : GoodT T) (B : Bd T st) {wd : Cs} {t : Tk} (h : takeWord T wd st = .ok (t, s1)) (hk : wd ≠ []) : Bd T s1 ∧ s1.faults.length + 2 ≤ 2 * s1.at_ ∧ s1 = st.next := by
  obtain ⟨rfl, rfl, e⟩ := takeWord_ok h
  have z := B.next1 (G.more B.at_ fun q => hk (by
    rw [← e]
    exact (G.last _ _ (peek_get B.at_) (G.fin _ _ (peek_get B.at_) q)).2))
  exact ⟨z.1, z.2, rfl⟩
theorem bd_kw (G : GoodT T) (B : Bd T st) {ws : List Cs} {t : Tk} (h : takeKw T ws st = .ok (t, s1)) : Bd T s1 ∧ s1.faults.length + 2 ≤ 2 * s1.at_ ∧ s1 = st.next := by
  obtain ⟨rfl, rfl, e, _⟩ := takeKw_ok h
  have z := B.next1 (G.more B.at_ (by rw [e]; decide))
  exact ⟨z.1, z.2, rfl⟩
theorem bd_number (B : Bd T st) {names : List Cs} {t : Tk} (h : st.faults.length + 1 ≤ 2 * st.at_) : Bd T (numberOf names t st).2 ∧ (numberOf names t st).2.at_ = st.at_ ∧ (numberOf names t st).2.faults.length ≤ st.faults.length + 1 := by
  unfold numberOf
  split
  · exact ⟨B, rfl, Nat.le_succ _⟩
  · exact ⟨B.found h, rfl, by show (st.faults ++ [_]).length ≤ _; simp⟩
theorem bd_tile (G : GoodT T) (B : Bd T st) {tiles n : Nat} (h : tileOf T tiles st = .ok (n, s1)) : Bd T s1 ∧ s1.faults.length + 1 ≤ 2 * s1.at_ ∧ s1.at_ = st.at_ + 1 ∧ s1.robots = st.robots ∧ s1.spots = st.spots := by
  unfold tileOf at h
  split at h
  · cases h
  · rename_i t s2 ht
    obtain ⟨B2, f2, rfl, hm⟩ := bd_take G B ht (by decide)
    cases h
    split
    · exact ⟨B2.found (by omega), by show (st.next.faults ++ [_]).length + 1 ≤ 2 * st.next.at_; simp; omega, rfl, rfl, rfl⟩
    · exact ⟨B2, by omega, rfl, rfl, rfl⟩
theorem more_spec (G : GoodT T) : ∀ (f : Nat) (st : PSt) (acc : List Tk), Bd T st → (∀ t ∈ acc, t.kind = .name) → acc.length + 1 ≤ st.at_ →
    Bd T (moreNames T f st acc).2 ∧ (∀ t ∈ (moreNames T f st acc).1, t.kind = .name) ∧ (moreNames T f st acc).1.length + 1 ≤ (moreNames T f st acc).2.at_ ∧ st.at_ ≤ (moreNames T f st acc).2.at_ ∧
    (moreNames T f st acc).2 = { st with at_ := (moreNames T f st acc).2.at_ } ∧ (moreNames T f st acc).1.length + st.at_ = acc.length + (moreNames T f st acc).2.at_
  | 0, st, acc, B, ha, hl => ⟨B, ha, hl, Nat.le_refl _, rfl, rfl⟩
  | f + 1, st, acc, B, ha, hl => by
    unfold moreNames
    split
    · rename_i hk
      have z := more_spec G f st.next (acc ++ [peek T st]) (B.next (G.more B.at_ (by rw [hk]; decide))) (by
        intro t ht
        rcases List.mem_append.mp ht with q | q
        · exact ha t q
        · have e : t = peek T st := by simpa using q
          rw [e]; exact hk) (by show (acc ++ [_]).length + 1 ≤ st.at_ + 1; simp; omega)
      obtain ⟨z1, z2, z3, z4, z5, z6⟩ := z
      refine ⟨z1, z2, z3, Nat.le_trans (Nat.le_succ _) z4, z5, ?_⟩
      have e : (acc ++ [peek T st]).length = acc.length + 1 := by simp
      have e2 : st.next.at_ = st.at_ + 1 := rfl
      rw [e, e2] at z6
      omega
    · exact ⟨B, ha, hl, Nat.le_refl _, rfl, rfl⟩
theorem add_spec (b : Bool) (st : PSt) (t : Tk) (hn : (st.names b).length ≤ mostOf b) : (addName b st t).at_ = st.at_ ∧ (addName b st t).faults.length ≤ st.faults.length + 1 ∧ ((addName b st t).names b).length ≤ mostOf b ∧
    (addName b st t).robots = st.robots ∧ (addName b st t).rules = st.rules ∧ (addName b st t).pairs = st.pairs ∧ (addName b st t).spots = st.spots ∧ (addName b st t).names (!b) = st.names (!b) := by
  unfold addName
  split
  · refine ⟨rfl, by simp [PSt.found], ?_, rfl, rfl, rfl, rfl, rfl⟩
    exact hn
  · split
    · refine ⟨rfl, by simp [PSt.found], ?_, rfl, rfl, rfl, rfl, rfl⟩
      exact hn
    · rename_i h
      cases b
      · refine ⟨rfl, Nat.le_succ _, ?_, rfl, rfl, rfl, rfl, rfl⟩
        have h2 : st.signs.length ≠ 4 := h
        have h3 : st.signs.length ≤ 4 := hn
        show (st.signs ++ [t.text]).length ≤ 4
        simp
        omega
      · refine ⟨rfl, Nat.le_succ _, ?_, rfl, rfl, rfl, rfl, rfl⟩
        have h2 : st.moods.length ≠ 6 := h
        have h3 : st.moods.length ≤ 6 := hn
        show (st.moods ++ [t.text]).length ≤ 6
        simp
        omega
theorem adds_spec (b : Bool) : ∀ (ts : List Tk) (st : PSt), (st.names b).length ≤ mostOf b → (ts.foldl (addName b) st).at_ = st.at_ ∧ (ts.foldl (addName b) st).faults.length ≤ st.faults.length + ts.length ∧
    ((ts.foldl (addName b) st).names b).length ≤ mostOf b ∧ (ts.foldl (addName b) st).robots = st.robots ∧ (ts.foldl (addName b) st).rules = st.rules ∧ (ts.foldl (addName b) st).pairs = st.pairs ∧
    (ts.foldl (addName b) st).spots = st.spots ∧ (ts.foldl (addName b) st).names (!b) = st.names (!b)
  | [], st, h => ⟨rfl, by simp, h, rfl, rfl, rfl, rfl, rfl⟩
  | t :: ts, st, h => by
    obtain ⟨a1, a2, a3, a4, a5, a6, a7, a8⟩ := add_spec b st t h
    obtain ⟨b1, b2, b3, b4, b5, b6, b7, b8⟩ := adds_spec b ts (addName b st t) a3
    rw [List.foldl_cons]
    refine ⟨b1.trans a1, ?_, b3, b4.trans a4, b5.trans a5, b6.trans a6, b7.trans a7, b8.trans a8⟩
    simp only [List.length_cons]
    omega
theorem wordOf_ne (b : Bool) : wordOf b ≠ [] := by cases b <;> decide
theorem Bd.names (B : Bd T st) (b : Bool) : (st.names b).length ≤ mostOf b := by
  cases b
  · exact B.si
  · exact B.mo
theorem bd_names (G : GoodT T) (B : Bd T st) {b : Bool} (h : parseNames T b st = .ok ((), s1)) : Bd T s1 := by
  unfold parseNames at h
  split at h
  · cases h
  · rename_i t0 s2 h2
    obtain ⟨B2, f2, rfl⟩ := bd_word G B h2 (wordOf_ne b)
    split at h
    · cases h
    · rename_i t s3 h3
      obtain ⟨B3, f3, rfl, _⟩ := bd_take G B2 h3 (by decide)
      have hk : t.kind = .name := (take_ok h3).2.2
      obtain ⟨z1, z2, z3, z4, z5, z6⟩ := more_spec G T.length st.next.next [t] B3 (by simp [hk]) (by show 1 + 1 ≤ st.at_ + 1 + 1; omega)
      split at h
      · cases h
      · rename_i t4 s4 h4
        cases h
        obtain ⟨B4, f4, rfl⟩ := bd_word G z1 h4 (by decide)
        obtain ⟨b1, b2, b3, b4, b5, b6, b7, b8⟩ := adds_spec b (moreNames T T.length st.next.next [t]).1 (moreNames T T.length st.next.next [t]).2.next (B4.names b)
        have e : (moreNames T T.length st.next.next [t]).2.next.at_ = (moreNames T T.length st.next.next [t]).2.at_ + 1 := rfl
        have e5 : (moreNames T T.length st.next.next [t]).2.next.faults = st.faults := by
          show (moreNames T T.length st.next.next [t]).2.faults = st.faults
          rw [z5]
          rfl
        have hf := B.fa
        have e6 : st.next.next.at_ = st.at_ + 2 := rfl
        refine ⟨by rw [b1]; exact B4.at_, ?_, ?_, ?_, by rw [b4, b1]; exact B4.ro, by rw [b5, b1]; exact B4.ru, by rw [b6, b1]; exact B4.pr, by rw [b7, b1]; exact B4.sp⟩
        · rw [b1, e]
          rw [e5] at b2
          rw [e6] at z6
          simp only [List.length_cons, List.length_nil] at z6
          omega
        · cases b
          · exact b3
          · rw [show (List.foldl (addName true) (moreNames T T.length st.next.next [t]).2.next (moreNames T T.length st.next.next [t]).1).signs = _ from b8]
            exact B4.si
        · cases b
          · rw [show (List.foldl (addName false) (moreNames T T.length st.next.next [t]).2.next (moreNames T T.length st.next.next [t]).1).moods = _ from b8]
            exact B4.mo
          · exact b3
theorem putA_len {κ α : Type} [DecidableEq κ] (l : List (κ × α)) (k : κ) (v : α) : (putA l k v).length ≤ l.length + 1 := by
  unfold putA
  split <;> simp
theorem bd_robot (G : GoodT T) (B : Bd T st) {tiles : Nat} (h : parseRobot T tiles st = .ok ((), s1)) : Bd T s1 ∧ st.at_ < s1.at_ := by
  unfold parseRobot at h
  split at h
  · cases h
  · rename_i kw s2 h2
    obtain ⟨B2, f2, rfl⟩ := bd_word G B h2 (by decide)
    have B3 : Bd T (if st.next.robots.length = 3 then st.next.found rRobots kw else st.next) := by
      split
      · exact B2.found (by omega)
      · exact B2
    have a3 : (if st.next.robots.length = 3 then st.next.found rRobots kw else st.next).at_ = st.at_ + 1 := by split <;> rfl
    have r3 : (if st.next.robots.length = 3 then st.next.found rRobots kw else st.next).robots = st.robots := by split <;> rfl
    split at h
    · cases h
    · rename_i n s4 h4
      obtain ⟨B4, f4, a4, r4, _⟩ := bd_tile G B3 h4
      split at h
      · cases h
      · rename_i wy s5 h5
        obtain ⟨B5, f5, rfl⟩ := bd_kw G B4 h5
        split at h
        · cases h
        · rename_i t6 s6 h6
          obtain ⟨B6, f6, rfl⟩ := bd_word G B5 h6 (by decide)
          cases h
          have e : s4.next.next.at_ = s4.at_ + 2 := rfl
          have hr : s4.next.next.robots = st.robots := r4.trans r3
          have hB := B.ro
          refine ⟨⟨B6.at_, B6.fa, B6.si, B6.mo, ?_, B6.ru, B6.pr, B6.sp⟩, ?_⟩
          · show (s4.next.next.robots ++ [_]).length ≤ s4.next.next.at_
            rw [hr, e]
            simp
            omega
          · show st.at_ < s4.next.next.at_
            omega
theorem bd_put (G : GoodT T) (B : Bd T st) {tiles : Nat} (h : parsePut T tiles st = .ok ((), s1)) : Bd T s1 ∧ st.at_ < s1.at_ := by
  unfold parsePut at h
  split at h
  · cases h
  · rename_i kw s2 h2
    obtain ⟨B2, f2, rfl⟩ := bd_word G B h2 (by decide)
    split at h
    · cases h
    · rename_i nm s3 h3
      obtain ⟨B3, f3, rfl, _⟩ := bd_take G B2 h3 (by decide)
      obtain ⟨B4, a4, f4⟩ := bd_number B3 (names := st.next.next.signs) (t := nm) (by omega)
      have sp4 : (numberOf st.next.next.signs nm st.next.next).2.spots = st.spots := by unfold numberOf; split <;> rfl
      split at h
      · cases h
      · rename_i n s5 h5
        obtain ⟨B5, f5, a5, r5, sp5⟩ := bd_tile G B4 h5
        split at h
        · cases h
        · rename_i t6 s6 h6
          obtain ⟨B6, f6, rfl⟩ := bd_word G B5 h6 (by decide)
          cases h
          have e : s5.next.at_ = s5.at_ + 1 := rfl
          have e2 : st.next.next.at_ = st.at_ + 2 := rfl
          have hs : s5.next.spots = st.spots := sp5.trans sp4
          have hB := B.sp
          have B7 : Bd T (if (s5.next.spots.any fun kv => decide (kv.1 = n)) = true then s5.next.found rAgain (peek T (numberOf st.next.next.signs nm st.next.next).2) else s5.next) := by
            split
            · exact B6.found (by omega)
            · exact B6
          have a7 : (if (s5.next.spots.any fun kv => decide (kv.1 = n)) = true then s5.next.found rAgain (peek T (numberOf st.next.next.signs nm st.next.next).2) else s5.next).at_ = s5.at_ + 1 := by split <;> rfl
          have s7 : (if (s5.next.spots.any fun kv => decide (kv.1 = n)) = true then s5.next.found rAgain (peek T (numberOf st.next.next.signs nm st.next.next).2) else s5.next).spots = st.spots := by split <;> exact hs
          refine ⟨⟨B7.at_, B7.fa, B7.si, B7.mo, B7.ro, B7.ru, B7.pr, ?_⟩, ?_⟩
          · refine Nat.le_trans (putA_len _ _ _) ?_
            rw [s7]
            show st.spots.length + 1 ≤ _
            rw [a7]
            omega
          · show st.at_ < _
            rw [a7]
            omega
theorem bd_rule (G : GoodT T) (B : Bd T st) (h : parseRule T st = .ok ((), s1)) : Bd T s1 ∧ st.at_ < s1.at_ := by
  unfold parseRule at h
  split at h
  · cases h
  rename_i kw s2 h2
  obtain ⟨B2, f2, rfl⟩ := bd_word G B h2 (by decide)
  split at h
  · cases h
  rename_i first s3 h3
  obtain ⟨B3, f3, rfl, _⟩ := bd_take G B2 h3 (by decide)
  obtain ⟨B3', a3', f3'⟩ := bd_number B3 (names := st.next.next.moods) (t := first) (by omega)
  have r3 : (numberOf st.next.next.moods first st.next.next).2.rules = st.rules ∧ (numberOf st.next.next.moods first st.next.next).2.pairs = st.pairs := by unfold numberOf; split <;> exact ⟨rfl, rfl⟩
  split at h
  · cases h
  rename_i second s4 h4
  obtain ⟨B4, f4, rfl, _⟩ := bd_take G B3' h4 (by decide)
  generalize hq4 : (numberOf st.next.next.moods first st.next.next).2.next = q4 at *
  have e4 : q4.at_ = st.at_ + 3 := by rw [← hq4]; show (numberOf st.next.next.moods first st.next.next).2.at_ + 1 = _; rw [a3']; rfl
  have r4 : q4.rules = st.rules ∧ q4.pairs = st.pairs := by rw [← hq4]; exact r3
  obtain ⟨B4', a4', f4'⟩ := bd_number B4 (names := q4.signs) (t := second) (by omega)
  have r4' : (numberOf q4.signs second q4).2.rules = st.rules ∧ (numberOf q4.signs second q4).2.pairs = st.pairs := by unfold numberOf; split <;> exact r4
  split at h
  · cases h
  rename_i t5 s5 h5
  obtain ⟨B5, f5, rfl⟩ := bd_word G B4' h5 (by decide)
  generalize hq5 : (numberOf q4.signs second q4).2.next = q5 at *
  have e5 : q5.at_ = st.at_ + 4 := by rw [← hq5]; show (numberOf q4.signs second q4).2.at_ + 1 = _; rw [a4', e4]
  have r5 : q5.rules = st.rules ∧ q5.pairs = st.pairs := by rw [← hq5]; exact r4'
  split at h
  · cases h
  rename_i lf s6 h6
  obtain ⟨B6, f6, rfl, _⟩ := bd_take G B5 h6 (by decide)
  obtain ⟨B6', a6', f6'⟩ := bd_number B6 (names := q5.next.signs) (t := lf) (by omega)
  have r6' : (numberOf q5.next.signs lf q5.next).2.rules = st.rules ∧ (numberOf q5.next.signs lf q5.next).2.pairs = st.pairs := by unfold numberOf; split <;> exact r5
  split at h
  · cases h
  rename_i mv s7 h7
  obtain ⟨B7, f7, rfl⟩ := bd_kw G B6' h7
  generalize hq7 : (numberOf q5.next.signs lf q5.next).2.next = q7 at *
  have e7 : q7.at_ = st.at_ + 6 := by rw [← hq7]; show (numberOf q5.next.signs lf q5.next).2.at_ + 1 = _; rw [a6']; show q5.at_ + 1 + 1 = _; rw [e5]
  have r7 : q7.rules = st.rules ∧ q7.pairs = st.pairs := by rw [← hq7]; exact r6'
  split at h
  · cases h
  rename_i la s8 h8
  obtain ⟨B8, f8, rfl, _⟩ := bd_take G B7 h8 (by decide)
  obtain ⟨B8', a8', f8'⟩ := bd_number B8 (names := q7.next.moods) (t := la) (by omega)
  have r8' : (numberOf q7.next.moods la q7.next).2.rules = st.rules ∧ (numberOf q7.next.moods la q7.next).2.pairs = st.pairs := by unfold numberOf; split <;> exact r7
  split at h
  · cases h
  rename_i t9 s9 h9
  obtain ⟨B9, f9, rfl⟩ := bd_word G B8' h9 (by decide)
  generalize hq9 : (numberOf q7.next.moods la q7.next).2.next = q9 at *
  have e9 : q9.at_ = st.at_ + 8 := by rw [← hq9]; show (numberOf q7.next.moods la q7.next).2.at_ + 1 = _; rw [a8']; show q7.at_ + 1 + 1 = _; rw [e7]
  have r9 : q9.rules = st.rules ∧ q9.pairs = st.pairs := by rw [← hq9]; exact r8'
  cases h
  have hB := B.ru
  have hB2 := B.pr
  generalize hz : (if (first.text, second.text) ∈ q9.pairs then q9.found rTwice kw else q9) = z
  have Bz : Bd T z := by
    rw [← hz]
    split
    · exact B9.found (by omega)
    · exact B9
  have az : z.at_ = st.at_ + 8 := by rw [← hz]; split <;> exact e9
  have rz : z.rules = st.rules ∧ z.pairs = st.pairs := by rw [← hz]; split <;> exact r9
  refine ⟨⟨Bz.at_, Bz.fa, Bz.si, Bz.mo, Bz.ro, ?_, ?_, Bz.sp⟩, by show st.at_ < z.at_; omega⟩
  · refine Nat.le_trans (putA_len _ _ _) ?_
    show z.rules.length + 1 ≤ z.at_
    rw [rz.1, az]
    omega
  · show (if (first.text, second.text) ∈ z.pairs then z.pairs else z.pairs ++ [(first.text, second.text)]).length ≤ z.at_
    rw [az]
    split
    · rw [rz.2]; omega
    · rw [rz.2]; simp; omega
theorem bd_stmt (G : GoodT T) (B : Bd T st) {tiles : Nat} (h : parseStmt T tiles st = .ok ((), s1)) : Bd T s1 ∧ st.at_ < s1.at_ := by
  unfold parseStmt at h
  split at h
  · exact bd_robot G B h
  split at h
  · exact bd_put G B h
  split at h
  · exact bd_rule G B h
  · cases h
end
end Sw

end

section
set_option maxRecDepth 100000
set_option maxHeartbeats 4000000
/-! the mirror of the machine -/
namespace Sw
open PySem
def wRest : Cs := [114, 101, 115, 116]
abbrev Rob := Nat × Bool × Nat
structure MSt where
  floor : List Nat
  robots : List Rob
  deriving DecidableEq
def movedM (tile : Nat) (right : Bool) (tiles : Nat) : Nat × Bool :=
  if right = true then (if tile + 1 < tiles then (tile + 1, true) else (tile, false)) else (if 0 < tile then (tile - 1, false) else (tile, true))
def goM (move : Cs) (tile : Nat) (right : Bool) (tiles : Nat) : Nat × Bool := if move = wOn then movedM tile right tiles else if move = wBack then movedM tile (!right) tiles else (tile, right)
def actM (rules : List ((Nat × Nat) × Rule)) (st : MSt) (k : Nat) : Cs × MSt := match st.robots[k]? with
  | none => (wRest, st)
  | some (tile, right, mood) => match getA rules (mood, st.floor.getD tile 0) with
    | none => (wRest, st)
    | some r => (r.move, ⟨st.floor.set tile r.left, st.robots.set k ((goM r.move tile right st.floor.length).1, (goM r.move tile right st.floor.length).2, r.later)⟩)
/-- the first k robots have acted -/
def actsM (rules : List ((Nat × Nat) × Rule)) (st : MSt) : Nat → List Cs × MSt
  | 0 => ([], st)
  | k + 1 => ((actsM rules st k).1 ++ [(actM rules (actsM rules st k).2 k).1], (actM rules (actsM rules st k).2 k).2)
structure TickM where
  swept : List Nat
  words : List Cs
  state : MSt
def nextM (rules : List ((Nat × Nat) × Rule)) (st : MSt) : TickM := ⟨st.robots.map (·.1), (actsM rules st st.robots.length).1, (actsM rules st st.robots.length).2⟩
def firstM (pl : Plan) : MSt := ⟨pl.floor, pl.robots.map fun r => (r.1, r.2, 0)⟩
/-- a state of n tiles and m robots -/
structure WfM (n m : Nat) (st : MSt) : Prop where
  fl : st.floor.length = n
  ro : st.robots.length = m
  ti : ∀ r ∈ st.robots, r.1 < n
theorem movedM_lt {tile : Nat} {right : Bool} {tiles : Nat} (h : tile < tiles) : (movedM tile right tiles).1 < tiles := by
  unfold movedM
  split
  · split <;> (simp only; omega)
  · split <;> (simp only; omega)
theorem goM_lt {move : Cs} {tile : Nat} {right : Bool} {tiles : Nat} (h : tile < tiles) : (goM move tile right tiles).1 < tiles := by
  unfold goM
  split
  · exact movedM_lt h
  · split
    · exact movedM_lt h
    · exact h
theorem WfM.act {n m : Nat} {rules : List ((Nat × Nat) × Rule)} {st : MSt} {k : Nat} (h : WfM n m st) : WfM n m (actM rules st k).2 := by
  unfold actM
  split
  · exact h
  · rename_i tile right mood e
    split
    · exact h
    · rename_i r hr
      have ht : tile < n := h.ti _ (List.mem_of_getElem? e)
      refine ⟨by simpa using h.fl, by simpa using h.ro, fun q hq => ?_⟩
      rcases List.mem_or_eq_of_mem_set hq with z | z
      · exact h.ti _ z
      · rw [z, h.fl]
        exact goM_lt ht
theorem WfM.acts {n m : Nat} {rules : List ((Nat × Nat) × Rule)} {st : MSt} (h : WfM n m st) : ∀ k, WfM n m (actsM rules st k).2
  | 0 => h
  | k + 1 => (h.acts k).act
theorem WfM.next {n m : Nat} {rules : List ((Nat × Nat) × Rule)} {st : MSt} (h : WfM n m st) : WfM n m (nextM rules st).state := h.acts _
theorem acts_len (rules : List ((Nat × Nat) × Rule)) (st : MSt) : ∀ k, (actsM rules st k).1.length = k
  | 0 => rfl
  | k + 1 => by
    show ((actsM rules st k).1 ++ [_]).length = k + 1
    simp [acts_len rules st k]
end Sw

end

section
set_option maxRecDepth 100000
set_option maxHeartbeats 4000000
/-! texts that are read without a fault: the lexer -/
namespace Sw
open PySem
abbrev KT := Kd × Cs
def kt (t : Tk) : KT := (t.kind, t.text)
def dec (n : Nat) : Cs := if n < 10 then [48 + n] else [48 + n / 10, 48 + n % 10]
/-- a word of letters -/
def Wd (w : Cs) : Prop := (∀ c ∈ w, isL c = true) ∧ 1 ≤ w.length ∧ w.length ≤ 8
/-- digits, at most two, no zero ahead -/
def Nm (w : Cs) : Prop := (∀ c ∈ w, isD c = true) ∧ 1 ≤ w.length ∧ w.length ≤ 2 ∧ (w.length = 1 ∨ w.head? ≠ some 48)
def kdOf (w : Cs) : Kd := match w with
  | [] => .name
  | c :: _ => if isD c = true then .number else if w ∈ kws then .keyword else .name
def ktOf (w : Cs) : KT := (kdOf w, w)
theorem tw_app {p : Nat → Bool} {w : Cs} {r : Cs} (h : ∀ c ∈ w, p c = true) (hr : ∀ c, r.head? = some c → p c = false) : (w ++ r).takeWhile p = w := by
  induction w with
  | nil =>
    cases r with
    | nil => rfl
    | cons c r => simp [hr c rfl]
  | cons a w ih =>
    have ha : p a = true := h a List.mem_cons_self
    simp only [List.cons_append, List.takeWhile_cons, ha, if_true]
    rw [ih fun c hc => h c (List.mem_cons_of_mem _ hc)]
theorem isL_isD {c : Nat} (h : isL c = true) : isD c = false := by
  unfold isL at h
  unfold isD
  rw [Bool.and_eq_true, Nat.ble_eq, Nat.ble_eq] at h
  cases e : (Nat.ble 48 c && Nat.ble c 57) with
  | false => rfl
  | true =>
    rw [Bool.and_eq_true, Nat.ble_eq, Nat.ble_eq] at e
    omega
theorem isL_ne {c : Nat} (h : isL c = true) : c ≠ 59 ∧ isS c = false := by
  unfold isL at h
  rw [Bool.and_eq_true, Nat.ble_eq, Nat.ble_eq] at h
  refine ⟨by omega, ?_⟩
  unfold isS
  have h1 : (c == 32) = false := by simp; omega
  have h2 : (c == 10) = false := by simp; omega
  rw [h1, h2]
  rfl
theorem isD_ne {c : Nat} (h : isD c = true) : c ≠ 59 ∧ isS c = false := by
  unfold isD at h
  rw [Bool.and_eq_true, Nat.ble_eq, Nat.ble_eq] at h
  refine ⟨by omega, ?_⟩
  unfold isS
  have h1 : (c == 32) = false := by simp; omega
  have h2 : (c == 10) = false := by simp; omega
  rw [h1, h2]
  rfl
/-- what may stand behind a word -/
def Brk (r : Cs) : Prop := ∀ c, r.head? = some c → isL c = false ∧ isD c = false
theorem read_word {line col : Nat} {w r : Cs} (hw : Wd w ∨ Nm w) (hr : Brk r) : readTok line col (w ++ r) = some ⟨kdOf w, w, line, col⟩ := by
  rcases hw with ⟨h1, h2, h3⟩ | ⟨h1, h2, h3, h4⟩
  · cases w with
    | nil => simp at h2
    | cons c w =>
      have hc := h1 c List.mem_cons_self
      have tw : ((c :: w) ++ r).takeWhile isL = c :: w := tw_app h1 fun x hx => (hr x hx).1
      have e : (c :: w) ++ r = c :: (w ++ r) := rfl
      rw [e] at tw ⊢
      simp only [readTok, if_neg (isL_ne hc).1, isL_isD hc, tw, kdOf]
      by_cases hk : (c :: w) ∈ kws
      · simp [hk]
      · have hp : 1 ≤ (c :: w).length ∧ (c :: w).length ≤ 8 := ⟨h2, h3⟩
        simp only [hk, hp, if_true, if_false, Bool.false_eq_true, and_self]
  · cases w with
    | nil => simp at h2
    | cons c w =>
      have hc := h1 c List.mem_cons_self
      have tw : ((c :: w) ++ r).takeWhile isD = c :: w := tw_app h1 fun x hx => (hr x hx).2
      have e : (c :: w) ++ r = c :: (w ++ r) := rfl
      rw [e] at tw ⊢
      simp only [readTok, if_neg (isD_ne hc).1, hc, tw, kdOf, if_true]
      rw [if_neg]
      rintro (q | ⟨q1, q2⟩)
      · omega
      · rcases h4 with z | z
        · omega
        · exact z (by rw [q2]; rfl)
theorem lex_word {line col f : Nat} {w r : Cs} {ts : List Tk} (hw : Wd w ∨ Nm w) (hr : Brk r) (h : lexRow line f (col + w.length) r = .ok ts) : lexRow line (f + 1) col (w ++ r) = .ok (⟨kdOf w, w, line, col⟩ :: ts) := by
  have rd := read_word (line := line) (col := col) hw hr
  cases w with
  | nil => rcases hw with ⟨_, q, _⟩ | ⟨_, q, _⟩ <;> simp at q
  | cons c w =>
    have hs : isS c = false := by
      rcases hw with ⟨q, _⟩ | ⟨q, _⟩
      · exact (isL_ne (q c List.mem_cons_self)).2
      · exact (isD_ne (q c List.mem_cons_self)).2
    have e : (c :: w) ++ r = c :: (w ++ r) := rfl
    rw [e] at rd ⊢
    simp only [lexRow, hs, rd]
    have ed : (c :: (w ++ r)).drop (c :: w).length = r := by rw [← e, List.drop_left]
    rw [ed, h]
    rfl
theorem lex_space {line col f c : Nat} {r : Cs} (hs : isS c = true) : lexRow line (f + 1) col (c :: r) = lexRow line f (col + 1) r := by
  simp only [lexRow, hs, if_true]
theorem lex_semi {line col f : Nat} {r : Cs} {ts : List Tk} (h : lexRow line f (col + 1) r = .ok ts) : lexRow line (f + 1) col (59 :: r) = .ok (⟨.sign, [59], line, col⟩ :: ts) := by
  have e : readTok line col (59 :: r) = some ⟨.sign, [59], line, col⟩ := rfl
  have hs : isS 59 = false := rfl
  simp only [lexRow, hs, e]
  show (match lexRow line f (col + 1) r with | .error e => Except.error e | .ok ts => .ok (_ :: ts)) = _
  rw [h]
/-! ### a line: words with a space between, then ; -/
def wordsOf : List Cs → Cs
  | [] => []
  | [w] => w
  | w :: r => w ++ 32 :: wordsOf r
def lineOf (ws : List Cs) : Cs := wordsOf ws ++ [59]
theorem brk_semi {r : Cs} : Brk (59 :: r) := fun c h => by
  cases h
  exact ⟨rfl, rfl⟩
theorem brk_space {r : Cs} : Brk (32 :: r) := fun c h => by
  cases h
  exact ⟨rfl, rfl⟩
theorem lex_line {line : Nat} : ∀ {ws : List Cs} {f col : Nat}, ws ≠ [] → (∀ w ∈ ws, Wd w ∨ Nm w) → (lineOf ws).length ≤ f → ∃ T, lexRow line f col (lineOf ws) = .ok T ∧ T.map kt = ws.map ktOf ++ [(.sign, wSemi)]
  | [], _, _, h, _, _ => absurd rfl h
  | [w], f, col, _, hw, hf => by
    have hw1 := hw w List.mem_cons_self
    have hl : (lineOf [w]).length = w.length + 1 := by simp [lineOf, wordsOf]
    obtain ⟨f', rfl⟩ : ∃ f', f = f' + 1 + 1 := ⟨f - 2, by rcases hw1 with ⟨_, q, _⟩ | ⟨_, q, _⟩ <;> omega⟩
    have e1 : lexRow line (f' + 1) (col + w.length) [59] = .ok [⟨.sign, [59], line, col + w.length⟩] := by
      refine lex_semi ?_
      cases f' <;> rfl
    exact ⟨_, lex_word hw1 brk_semi e1, rfl⟩
  | w :: w2 :: ws, f, col, _, hw, hf => by
    have hw1 := hw w List.mem_cons_self
    have e : lineOf (w :: w2 :: ws) = w ++ 32 :: lineOf (w2 :: ws) := by
      show (w ++ 32 :: wordsOf (w2 :: ws)) ++ [59] = _
      rw [List.append_assoc]
      rfl
    rw [e] at hf ⊢
    rw [List.length_append, List.length_cons] at hf
    obtain ⟨f', rfl⟩ : ∃ f', f = f' + 1 + 1 := ⟨f - 2, by rcases hw1 with ⟨_, q, _⟩ | ⟨_, q, _⟩ <;> omega⟩
    have hf2 : (lineOf (w2 :: ws)).length ≤ f' := by rcases hw1 with ⟨_, q, _⟩ | ⟨_, q, _⟩ <;> omega
    obtain ⟨T, h1, h2⟩ := lex_line (line := line) (ws := w2 :: ws) (f := f') (col := col + w.length + 1) (by simp) (fun x hx => hw x (List.mem_cons_of_mem _ hx)) hf2
    refine ⟨_, lex_word hw1 brk_space (by rw [lex_space rfl]; exact h1), ?_⟩
    rw [List.map_cons, h2]
    rfl
theorem lex_lines : ∀ {lss : List (List Cs)} {line : Nat}, (∀ ws ∈ lss, ws ≠ [] ∧ ∀ w ∈ ws, Wd w ∨ Nm w) → ∃ T, lexRows line (lss.map lineOf) = .ok T ∧ T.map kt = (lss.map fun ws => ws.map ktOf ++ [(.sign, wSemi)]).flatten
  | [], _, _ => ⟨[], rfl, rfl⟩
  | ws :: lss, line, h => by
    obtain ⟨hne, hw⟩ := h ws List.mem_cons_self
    obtain ⟨T, h1, h2⟩ := lex_line (line := line) (col := 0) hne hw (Nat.le_refl _)
    obtain ⟨U, h3, h4⟩ := lex_lines (lss := lss) (line := line + 1) fun x hx => h x (List.mem_cons_of_mem _ hx)
    refine ⟨T ++ U, ?_, ?_⟩
    · show (match lexRow line (lineOf ws).length 0 (lineOf ws) with | .error e => Except.error e | .ok ts => match lexRows (line + 1) (lss.map lineOf) with | .error e => .error e | .ok us => .ok (ts ++ us)) = _
      rw [h1, h3]
    · rw [List.map_append, h2, h4]
      rfl
theorem no10_line : ∀ {ws : List Cs}, (∀ w ∈ ws, Wd w ∨ Nm w) → 10 ∉ lineOf ws := by
  have key : ∀ {ws : List Cs}, (∀ w ∈ ws, Wd w ∨ Nm w) → 10 ∉ wordsOf ws := by
    intro ws
    induction ws with
    | nil => intro _ h; cases h
    | cons w ws ih =>
      intro hw h
      have h10 : 10 ∉ w := fun z => by
        rcases hw w List.mem_cons_self with ⟨q, _⟩ | ⟨q, _⟩
        · exact absurd (q 10 z) (by decide)
        · exact absurd (q 10 z) (by decide)
      cases ws with
      | nil => exact h10 h
      | cons w2 ws =>
        rcases List.mem_append.mp h with z | z
        · exact h10 z
        · rcases List.mem_cons.mp z with y | y
          · exact absurd y (by decide)
          · exact ih (fun x hx => hw x (List.mem_cons_of_mem _ hx)) y
  intro ws hw h
  rcases List.mem_append.mp h with z | z
  · exact key hw z
  · exact absurd (List.mem_singleton.mp z) (by decide)
/-- a text of such lines -/
theorem tokenize_lines {lss : List (List Cs)} (hne : lss ≠ []) (h : ∀ ws ∈ lss, ws ≠ [] ∧ ∀ w ∈ ws, Wd w ∨ Nm w) :
    ∃ T, tokenize (TL.joinL [10] (lss.map lineOf)) = .ok T ∧ T.map kt = (lss.map fun ws => ws.map ktOf ++ [(Kd.sign, wSemi)]).flatten ++ [(.fin, [])] := by
  have hr : rowsOf (TL.joinL [10] (lss.map lineOf)) = lss.map lineOf := TL.spl_join (by simpa using hne) (by
    intro p hp
    obtain ⟨ws, hws, rfl⟩ := List.mem_map.mp hp
    exact no10_line (h ws hws).2)
  obtain ⟨T, h1, h2⟩ := lex_lines (line := 0) h
  refine ⟨T ++ [⟨.fin, [], (lss.map lineOf).length, 0⟩], ?_, ?_⟩
  · unfold tokenize
    rw [hr, h1]
  · rw [List.map_append, h2]
    rfl
end Sw

end

section
set_option maxRecDepth 100000
set_option maxHeartbeats 4000000
/-! texts that are read without a fault: the parser -/
namespace Sw
open PySem
/-- what is still to be read -/
def Rest (T : List Tk) (st : PSt) (l : List KT) : Prop := (T.map kt).drop st.at_ = l
section
variable {T : List Tk} {st : PSt} {k : Kd} {w : Cs} {l : List KT}
theorem Rest.cons (h : Rest T st ((k, w) :: l)) : (peek T st).kind = k ∧ (peek T st).text = w ∧ Rest T st.next l := by
  have e0 : (T.map kt)[st.at_]? = some (k, w) := by
    have := congrArg List.head? h
    rw [List.head?_drop] at this
    exact this
  rw [List.getElem?_map] at e0
  cases ht : T[st.at_]? with
  | none => rw [ht] at e0; cases e0
  | some t =>
    rw [ht] at e0
    have e1 : kt t = (k, w) := Option.some.inj e0
    have ep : peek T st = t := by
      unfold peek
      rw [List.getD_eq_getElem?_getD, ht]
      rfl
    refine ⟨by rw [ep]; exact congrArg Prod.fst e1, by rw [ep]; exact congrArg Prod.snd e1, ?_⟩
    show (T.map kt).drop (st.at_ + 1) = l
    have := congrArg List.tail h
    rw [List.tail_drop] at this
    exact this
theorem Rest.of_at {st2 : PSt} (h : Rest T st l) (e : st2.at_ = st.at_) : Rest T st2 l := by
  unfold Rest at *
  rw [e]
  exact h
theorem take_ok' (h : Rest T st ((k, w) :: l)) : ∃ t, take T k st = .ok (t, st.next) ∧ t.text = w ∧ Rest T st.next l := by
  obtain ⟨h1, h2, h3⟩ := h.cons
  exact ⟨peek T st, by unfold take; rw [if_pos h1], h2, h3⟩
theorem word_ok (h : Rest T st ((k, w) :: l)) : ∃ t, takeWord T w st = .ok (t, st.next) ∧ t.text = w ∧ Rest T st.next l := by
  obtain ⟨h1, h2, h3⟩ := h.cons
  exact ⟨peek T st, by unfold takeWord; rw [if_pos h2], h2, h3⟩
theorem kw_ok {ws : List Cs} (h : Rest T st ((.keyword, w) :: l)) (hw : w ∈ ws) : ∃ t, takeKw T ws st = .ok (t, st.next) ∧ t.text = w ∧ Rest T st.next l := by
  obtain ⟨h1, h2, h3⟩ := h.cons
  exact ⟨peek T st, by unfold takeKw; rw [if_pos ⟨h1, by rw [h2]; exact hw⟩], h2, h3⟩
end
/-- all but the place -/
def PSt.at' (st : PSt) (n : Nat) : PSt := { st with at_ := n }
/-! ### names -/
def pushAll (b : Bool) (ws : List Cs) (st : PSt) : PSt := if b then { st with moods := st.moods ++ ws } else { st with signs := st.signs ++ ws }
theorem more_names {T : List Tk} {k : Kd} {w : Cs} {l : List KT} (hk : k ≠ .name) : ∀ {ws : List Cs} {f : Nat} {st : PSt} {acc : List Tk}, Rest T st (ws.map (fun w => (Kd.name, w)) ++ (k, w) :: l) → ws.length ≤ f →
    ∃ ts : List Tk, moreNames T f st acc = (acc ++ ts, { st with at_ := st.at_ + ws.length }) ∧ ts.map (·.text) = ws
  | [], f, st, acc, h, hf => by
    obtain ⟨h1, _, _⟩ := h.cons
    cases f with
    | zero => exact ⟨[], by simp [moreNames], rfl⟩
    | succ f => exact ⟨[], by simp only [moreNames]; rw [if_neg (by rw [h1]; exact hk)]; simp, rfl⟩
  | x :: ws, f, st, acc, h, hf => by
    obtain ⟨h1, h2, h3⟩ := h.cons
    obtain ⟨f', rfl⟩ : ∃ f', f = f' + 1 := ⟨f - 1, by simp at hf; omega⟩
    obtain ⟨ts, e1, e2⟩ := more_names hk (ws := ws) (f := f') (st := st.next) (acc := acc ++ [peek T st]) h3 (by simpa using hf)
    refine ⟨peek T st :: ts, ?_, by simp [h2, e2]⟩
    simp only [moreNames]
    rw [if_pos h1, e1]
    simp [PSt.next, Nat.add_comm, Nat.add_left_comm]
theorem add_names {b : Bool} : ∀ {ts : List Tk} {st : PSt}, (ts.map (·.text)).Nodup → (∀ w ∈ ts.map (·.text), w ∉ st.names b) → (st.names b).length + ts.length ≤ mostOf b →
    ts.foldl (addName b) st = pushAll b (ts.map (·.text)) st
  | [], st, _, _, _ => by cases b <;> simp [pushAll]
  | t :: ts, st, hn, hm, hl => by
    have h1 : addName b st t = st.push b t.text := by
      unfold addName
      rw [if_neg (hm t.text (by simp)), if_neg (by simp at hl; omega)]
    rw [List.foldl_cons, h1]
    rw [List.map_cons, List.nodup_cons] at hn
    have e2 : (st.push b t.text).names b = st.names b ++ [t.text] := by cases b <;> rfl
    rw [add_names hn.2 (by
      intro w hw
      rw [e2]
      intro z
      rcases List.mem_append.mp z with y | y
      · exact hm w (List.mem_cons_of_mem _ hw) y
      · exact hn.1 (List.mem_singleton.mp y ▸ hw)) (by rw [e2, List.length_append]; simp at hl ⊢; omega)]
    cases b <;> simp [pushAll, PSt.push]
theorem names_ok {T : List Tk} {b : Bool} {st : PSt} {ws : List Cs} {k0 k1 : Kd} {l : List KT} (h : Rest T st ((k0, wordOf b) :: (ws.map (fun w => (Kd.name, w)) ++ (k1, wSemi) :: l))) (hk : k1 ≠ .name) (hne : ws ≠ []) (hT : ws.length ≤ T.length) (hn : ws.Nodup) (hm : (st.names b) = []) (hl : ws.length ≤ mostOf b) :
    ∃ st2, parseNames T b st = .ok ((), st2) ∧ st2 = { pushAll b ws st with at_ := st.at_ + ws.length + 2 } ∧ Rest T st2 l := by
  cases ws with
  | nil => exact absurd rfl hne
  | cons x ws =>
    obtain ⟨t1, e1, _, r1⟩ := word_ok h
    obtain ⟨t2, e2, x2, r2⟩ := take_ok' r1
    obtain ⟨ts, e3, x3⟩ := more_names (T := T) hk (ws := ws) (f := T.length) (st := st.next.next) (acc := [t2]) r2 (by simp at hT; omega)
    have r3 : Rest T { st.next.next with at_ := st.next.next.at_ + ws.length } ((k1, wSemi) :: l) := by
      have r2' : (T.map kt).drop st.next.next.at_ = ws.map (fun w => (Kd.name, w)) ++ (k1, wSemi) :: l := r2
      show (T.map kt).drop (st.next.next.at_ + ws.length) = _
      rw [← List.drop_drop, r2']
      have : ws.length = (ws.map (fun w => (Kd.name, w))).length := by simp
      rw [this, List.drop_left]
    obtain ⟨t4, e4, _, r4⟩ := word_ok r3
    have ets : ([t2] ++ ts).map (·.text) = x :: ws := by simp [x2, x3]
    refine ⟨_, ?_, rfl, ?_⟩
    · unfold parseNames
      simp only [e1, e2, e3, e4]
      rw [add_names (by rw [ets]; exact hn) (by
        intro w _ z
        have : (PSt.next { st.next.next with at_ := st.next.next.at_ + ws.length }).names b = st.names b := by cases b <;> rfl
        rw [this, hm] at z
        cases z) (by
        have : (PSt.next { st.next.next with at_ := st.next.next.at_ + ws.length }).names b = st.names b := by cases b <;> rfl
        rw [this, hm]
        have : ([t2] ++ ts).length = (x :: ws).length := by rw [← ets, List.length_map]
        rw [this]
        simpa using hl), ets]
      cases b <;> simp [pushAll, PSt.next, Nat.add_assoc, Nat.add_comm, Nat.add_left_comm]
    · refine r4.of_at ?_
      simp [PSt.next]
      omega
end Sw

end

section
set_option maxRecDepth 100000
set_option maxHeartbeats 4000000
/-! texts that are read without a fault: the statements -/
namespace Sw
open PySem
inductive Stm
  | robot (t : Nat) (r : Bool)
  | put (g tile : Nat)
  | rule (k : Nat × Nat) (r : Rule)
def wayOf (r : Bool) : Cs := if r then wRight else wLeft
def stmW (signs moods : List Cs) : Stm → List Cs
  | .robot t r => [wRobot, dec t, wayOf r]
  | .put g t => [wPut, signs.getD g [], dec t]
  | .rule k r => [wWhen, moods.getD k.1 [], signs.getD k.2 [], wLeave, signs.getD r.left [], r.move, moods.getD r.later []]
def stmKT (signs moods : List Cs) (s : Stm) : List KT := (stmW signs moods s).map ktOf ++ [(.sign, wSemi)]
/-- a name: a word, no keyword -/
def NameOk (w : Cs) : Prop := Wd w ∧ w ∉ kws
structure NamesOk (ws : List Cs) : Prop where
  nd : ws.Nodup
  ok : ∀ w ∈ ws, NameOk w
theorem kd_name {w : Cs} (h : NameOk w) : kdOf w = .name := by
  obtain ⟨⟨h1, h2, _⟩, h3⟩ := h
  cases w with
  | nil => simp at h2
  | cons c w =>
    have := isL_isD (h1 c List.mem_cons_self)
    simp only [kdOf, this, if_neg h3]
    rfl
theorem dec_nm {n : Nat} (h : n < 100) : Nm (dec n) ∧ kdOf (dec n) = .number ∧ numVal (dec n) = n := by
  have key : ∀ n, n < 100 → ((dec n).all isD && (decide (1 ≤ (dec n).length) && (decide ((dec n).length ≤ 2) && ((decide ((dec n).length = 1) || decide ((dec n).head? ≠ some 48)) && (decide (kdOf (dec n) = .number) && decide (numVal (dec n) = n)))))) = true := by decide +kernel
  have := key n h
  simp only [Bool.and_eq_true, Bool.or_eq_true, decide_eq_true_eq, List.all_eq_true] at this
  exact ⟨⟨this.1, this.2.1, this.2.2.1, this.2.2.2.1⟩, this.2.2.2.2.1, this.2.2.2.2.2⟩
theorem getD_in {ws : List Cs} {g : Nat} (h : g < ws.length) : ws.getD g [] ∈ ws := by
  rw [List.getD_eq_getElem?_getD, List.getElem?_eq_getElem h]
  exact List.getElem_mem h
theorem num_ok {ws : List Cs} {g : Nat} {t : Tk} {st : PSt} (hn : ws.Nodup) (hg : g < ws.length) (ht : t.text = ws.getD g []) : numberOf ws t st = (g, st) := by
  unfold numberOf
  rw [if_pos (by rw [ht]; exact getD_in hg), ht]
  have : ws.getD g [] = ws[g] := by rw [List.getD_eq_getElem?_getD, List.getElem?_eq_getElem hg]; rfl
  rw [this, List.Nodup.idxOf_getElem hn]
def applyS (signs moods : List Cs) (st : PSt) : Stm → PSt
  | .robot t r => { st with robots := st.robots ++ [(t, r)] }
  | .put g t => { st with spots := st.spots ++ [(t, g)] }
  | .rule k r => { st with pairs := st.pairs ++ [(moods.getD k.1 [], signs.getD k.2 [])], rules := st.rules ++ [(k, r)] }
/-- a statement that fits -/
def StmOk (tiles : Nat) (signs moods : List Cs) (st : PSt) : Stm → Prop
  | .robot t _ => t < tiles ∧ st.robots.length < 3
  | .put g t => t < tiles ∧ g < signs.length ∧ ∀ q ∈ st.spots, q.1 ≠ t
  | .rule k r => k.1 < moods.length ∧ k.2 < signs.length ∧ r.left < signs.length ∧ r.later < moods.length ∧ r.move ∈ moves ∧ (moods.getD k.1 [], signs.getD k.2 []) ∉ st.pairs ∧ ∀ q ∈ st.rules, q.1 ≠ k
theorem putA_new {κ α : Type} [DecidableEq κ] {l : List (κ × α)} {k : κ} {v : α} (h : ∀ q ∈ l, q.1 ≠ k) : putA l k v = l ++ [(k, v)] := by
  unfold putA
  rw [if_neg]
  intro z
  obtain ⟨q, hq, e⟩ := List.any_eq_true.mp z
  exact h q hq (of_decide_eq_true e)
theorem move_kd {w : Cs} (h : w ∈ moves) : kdOf w = .keyword := by
  have : ∀ w ∈ moves, kdOf w = .keyword := by decide +kernel
  exact this w h
theorem way_kd (r : Bool) : kdOf (wayOf r) = .keyword ∧ wayOf r ∈ ways ∧ (decide (wayOf r = wRight)) = r := by cases r <;> decide +kernel
section
variable {T : List Tk} {tiles : Nat} {st : PSt} {l : List KT}
theorem tile_ok {t : Nat} (h : Rest T st (ktOf (dec t) :: l)) (ht : t < tiles) (h99 : t < 100) : tileOf T tiles st = .ok (t, st.next) ∧ Rest T st.next l := by
  obtain ⟨_, hk, hv⟩ := dec_nm h99
  have h' : Rest T st ((.number, dec t) :: l) := by rw [← hk]; exact h
  obtain ⟨tk, e1, e2, e3⟩ := take_ok' h'
  refine ⟨?_, e3⟩
  unfold tileOf
  simp only [e1, e2, hv]
  rw [if_neg (by omega)]
theorem robot_ok {signs moods : List Cs} {t : Nat} {r : Bool} (h : Rest T st (stmKT signs moods (.robot t r) ++ l)) (ht : t < tiles) (h16 : tiles ≤ 16) (hr : st.robots.length < 3) :
    ∃ st2, parseRobot T tiles st = .ok ((), st2) ∧ st2 = { applyS signs moods st (.robot t r) with at_ := st.at_ + 4 } ∧ Rest T st2 l := by
  obtain ⟨t1, e1, _, r1⟩ := word_ok (k := kdOf wRobot) (w := wRobot) h
  obtain ⟨e2, r2⟩ := tile_ok (tiles := tiles) (t := t) r1 ht (by omega)
  obtain ⟨w1, w2, w3⟩ := way_kd r
  have r2' : Rest T st.next.next ((.keyword, wayOf r) :: (.sign, wSemi) :: l) := by
    have : ktOf (wayOf r) = (.keyword, wayOf r) := by unfold ktOf; rw [w1]
    rw [← this]
    exact r2
  obtain ⟨t3, e3, x3, r3⟩ := kw_ok r2' w2
  obtain ⟨t4, e4, _, r4⟩ := word_ok r3
  refine ⟨_, ?_, rfl, r4.of_at rfl⟩
  unfold parseRobot
  have hn : ¬ st.next.robots.length = 3 := by
    show ¬ st.robots.length = 3
    omega
  simp only [e1, if_neg hn, e2, e3, e4, x3, w3]
  rfl
theorem put_ok {moods : List Cs} {g t : Nat} (hN : NamesOk st.signs) (h : Rest T st (stmKT st.signs moods (.put g t) ++ l)) (h16 : tiles ≤ 16) (ho : StmOk tiles st.signs moods st (.put g t)) :
    ∃ st2, parsePut T tiles st = .ok ((), st2) ∧ st2 = { applyS st.signs moods st (.put g t) with at_ := st.at_ + 4 } ∧ Rest T st2 l := by
  obtain ⟨ht, hg, hno⟩ := ho
  obtain ⟨t1, e1, _, r1⟩ := word_ok (k := kdOf wPut) (w := wPut) h
  have r1' : Rest T st.next ((.name, st.signs.getD g []) :: ktOf (dec t) :: (.sign, wSemi) :: l) := by
    have : ktOf (st.signs.getD g []) = (.name, st.signs.getD g []) := by unfold ktOf; rw [kd_name (hN.ok _ (getD_in hg))]
    rw [← this]
    exact r1
  obtain ⟨t2, e2, x2, r2⟩ := take_ok' r1'
  have en : ∀ s : PSt, numberOf st.signs t2 s = (g, s) := fun s => num_ok hN.nd hg x2
  obtain ⟨e3, r3⟩ := tile_ok (tiles := tiles) (t := t) r2 ht (by omega)
  obtain ⟨t4, e4, _, r4⟩ := word_ok r3
  refine ⟨_, ?_, rfl, r4.of_at rfl⟩
  unfold parsePut
  simp only [e1, e2]
  have en2 : numberOf st.next.next.signs t2 st.next.next = (g, st.next.next) := en _
  simp only [en2, e3, e4]
  have hany : (st.next.next.next.next.spots.any fun kv => decide (kv.1 = t)) = false := by
    show (st.spots.any fun kv => decide (kv.1 = t)) = false
    rw [List.any_eq_false]
    intro q hq z
    exact hno q hq (of_decide_eq_true z)
  rw [hany]
  have ep : putA st.spots t g = st.spots ++ [(t, g)] := putA_new hno
  simp only [Bool.false_eq_true, if_false]
  show Except.ok ((), { st.next.next.next.next with spots := putA st.spots t g }) = _
  rw [ep]
  rfl
theorem rule_ok {k : Nat × Nat} {r : Rule} (hN : NamesOk st.signs) (hM : NamesOk st.moods) (h : Rest T st (stmKT st.signs st.moods (.rule k r) ++ l)) (ho : StmOk tiles st.signs st.moods st (.rule k r)) :
    ∃ st2, parseRule T st = .ok ((), st2) ∧ st2 = { applyS st.signs st.moods st (.rule k r) with at_ := st.at_ + 8 } ∧ Rest T st2 l := by
  obtain ⟨hk1, hk2, hl, hla, hm, hp, hno⟩ := ho
  have nm : ∀ g, g < st.signs.length → ktOf (st.signs.getD g []) = (.name, st.signs.getD g []) := fun g hg => by unfold ktOf; rw [kd_name (hN.ok _ (getD_in hg))]
  have nm2 : ∀ g, g < st.moods.length → ktOf (st.moods.getD g []) = (.name, st.moods.getD g []) := fun g hg => by unfold ktOf; rw [kd_name (hM.ok _ (getD_in hg))]
  have km : ktOf r.move = (.keyword, r.move) := by unfold ktOf; rw [move_kd hm]
  have h0 : Rest T st (ktOf wWhen :: ktOf (st.moods.getD k.1 []) :: ktOf (st.signs.getD k.2 []) :: ktOf wLeave :: ktOf (st.signs.getD r.left []) :: ktOf r.move :: ktOf (st.moods.getD r.later []) :: (.sign, wSemi) :: l) := h
  rw [nm2 _ hk1, nm _ hk2, nm _ hl, nm2 _ hla, km] at h0
  obtain ⟨t1, e1, _, r1⟩ := word_ok (k := kdOf wWhen) (w := wWhen) h0
  obtain ⟨t2, e2, x2, r2⟩ := take_ok' r1
  have n2 : numberOf st.next.next.moods t2 st.next.next = (k.1, st.next.next) := num_ok hM.nd hk1 x2
  obtain ⟨t3, e3, x3, r3⟩ := take_ok' r2
  have n3 : numberOf st.next.next.next.signs t3 st.next.next.next = (k.2, st.next.next.next) := num_ok hN.nd hk2 x3
  obtain ⟨t4, e4, _, r4⟩ := word_ok (k := kdOf wLeave) (w := wLeave) r3
  obtain ⟨t5, e5, x5, r5⟩ := take_ok' r4
  have n5 : numberOf st.next.next.next.next.next.signs t5 st.next.next.next.next.next = (r.left, st.next.next.next.next.next) := num_ok hN.nd hl x5
  obtain ⟨t6, e6, x6, r6⟩ := kw_ok r5 hm
  obtain ⟨t7, e7, x7, r7⟩ := take_ok' r6
  have n7 : numberOf st.next.next.next.next.next.next.next.moods t7 st.next.next.next.next.next.next.next = (r.later, st.next.next.next.next.next.next.next) := num_ok hM.nd hla x7
  obtain ⟨t8, e8, _, r8⟩ := word_ok r7
  refine ⟨_, ?_, rfl, r8.of_at rfl⟩
  unfold parseRule
  simp only [e1, e2, n2, e3, n3, e4, e5, n5, e6, e7, n7, e8, x2, x3, x6]
  have hp2 : (st.moods.getD k.1 [], st.signs.getD k.2 []) ∉ st.next.next.next.next.next.next.next.next.pairs := hp
  rw [if_neg hp2, if_neg hp2]
  have ep : putA st.rules k r = st.rules ++ [(k, r)] := putA_new hno
  show Except.ok ((), { st.next.next.next.next.next.next.next.next with pairs := st.pairs ++ [(st.moods.getD k.1 [], st.signs.getD k.2 [])], rules := putA st.rules (k.1, k.2) ⟨r.left, r.move, r.later⟩ }) = _
  have e0 : putA st.rules (k.1, k.2) ⟨r.left, r.move, r.later⟩ = putA st.rules k r := rfl
  rw [e0, ep]
  rfl
end
end Sw

end

section
set_option maxRecDepth 100000
set_option maxHeartbeats 4000000
/-! texts that are read without a fault: the whole -/
namespace Sw
open PySem
def Fits (tiles : Nat) (signs moods : List Cs) : PSt → List Stm → Prop
  | _, [] => True
  | st, s :: r => StmOk tiles signs moods st s ∧ Fits tiles signs moods (applyS signs moods st s) r
theorem apply_at {signs moods : List Cs} {st : PSt} {n : Nat} (s : Stm) : applyS signs moods { st with at_ := n } s = { applyS signs moods st s with at_ := n } := by cases s <;> rfl
theorem Fits.at_ {tiles : Nat} {signs moods : List Cs} : ∀ {ss : List Stm} {st : PSt} {n : Nat}, Fits tiles signs moods st ss → Fits tiles signs moods { st with at_ := n } ss
  | [], _, _, _ => trivial
  | s :: r, st, n, h => by
    refine ⟨?_, ?_⟩
    · have := h.1
      cases s <;> exact this
    · rw [apply_at]
      exact Fits.at_ h.2
theorem fold_at {signs moods : List Cs} : ∀ {ss : List Stm} {st : PSt} {n m : Nat}, { ss.foldl (applyS signs moods) { st with at_ := n } with at_ := m } = { ss.foldl (applyS signs moods) st with at_ := m }
  | [], _, _, _ => rfl
  | s :: r, st, n, m => by
    rw [List.foldl_cons, List.foldl_cons, apply_at]
    exact fold_at
theorem apply_si {signs moods : List Cs} {st : PSt} (s : Stm) : (applyS signs moods st s).signs = st.signs ∧ (applyS signs moods st s).moods = st.moods := by cases s <;> exact ⟨rfl, rfl⟩
section
variable {T : List Tk} {tiles : Nat} {signs moods : List Cs}
theorem stm_ok {st : PSt} {l : List KT} (s : Stm) (e1 : st.signs = signs) (e2 : st.moods = moods) (hN : NamesOk signs) (hM : NamesOk moods) (h16 : tiles ≤ 16) (h : Rest T st (stmKT signs moods s ++ l)) (ho : StmOk tiles signs moods st s) :
    ∃ n, parseStmt T tiles st = .ok ((), { applyS signs moods st s with at_ := n }) ∧ (peek T st).kind ≠ .fin ∧ Rest T { applyS signs moods st s with at_ := n } l := by
  subst e1
  subst e2
  cases s with
  | robot t r =>
    obtain ⟨p1, p2, _⟩ := Rest.cons (k := kdOf wRobot) (w := wRobot) h
    obtain ⟨st2, e, rfl, hr⟩ := robot_ok (tiles := tiles) h ho.1 h16 ho.2
    refine ⟨_, ?_, by rw [p1]; decide, hr⟩
    unfold parseStmt
    rw [if_pos p2]
    exact e
  | put g t =>
    obtain ⟨p1, p2, _⟩ := Rest.cons (k := kdOf wPut) (w := wPut) h
    obtain ⟨st2, e, rfl, hr⟩ := put_ok (tiles := tiles) hN h h16 ho
    refine ⟨_, ?_, by rw [p1]; decide, hr⟩
    unfold parseStmt
    rw [if_neg (by rw [p2]; decide), if_pos p2]
    exact e
  | rule k r =>
    obtain ⟨p1, p2, _⟩ := Rest.cons (k := kdOf wWhen) (w := wWhen) h
    obtain ⟨st2, e, rfl, hr⟩ := rule_ok (tiles := tiles) hN hM h ho
    refine ⟨_, ?_, by rw [p1]; decide, hr⟩
    unfold parseStmt
    rw [if_neg (by rw [p2]; decide), if_neg (by rw [p2]; decide), if_pos p2]
    exact e
theorem stmts_ok (hN : NamesOk signs) (hM : NamesOk moods) (h16 : tiles ≤ 16) : ∀ {ss : List Stm} {f : Nat} {st : PSt}, st.signs = signs → st.moods = moods → Rest T st ((ss.map (stmKT signs moods)).flatten ++ [(.fin, [])]) → Fits tiles signs moods st ss → ss.length ≤ f →
    ∃ n, parseStmts T tiles f st = .ok ((), { ss.foldl (applyS signs moods) st with at_ := n })
  | [], f, st, _, _, h, _, _ => by
    obtain ⟨p1, _, _⟩ := Rest.cons (k := .fin) (w := []) h
    cases f with
    | zero => exact ⟨st.at_, rfl⟩
    | succ f => exact ⟨st.at_, by simp only [parseStmts]; rw [if_pos p1]; rfl⟩
  | s :: r, f, st, e1, e2, h, hf, hl => by
    obtain ⟨f', rfl⟩ : ∃ f', f = f' + 1 := ⟨f - 1, by simp at hl; omega⟩
    have h' : Rest T st (stmKT signs moods s ++ ((r.map (stmKT signs moods)).flatten ++ [(.fin, [])])) := by
      rw [← List.append_assoc]
      exact h
    obtain ⟨n, p1, p2, p3⟩ := stm_ok s e1 e2 hN hM h16 h' hf.1
    obtain ⟨m, q⟩ := stmts_ok hN hM h16 (ss := r) (f := f') (st := { applyS signs moods st s with at_ := n }) ((apply_si s).1.trans e1) ((apply_si s).2.trans e2) p3 (Fits.at_ hf.2) (by simpa using hl)
    refine ⟨m, ?_⟩
    simp only [parseStmts]
    rw [if_neg p2, p1]
    show parseStmts T tiles f' { applyS signs moods st s with at_ := n } = _
    rw [q, fold_at]
    rfl
/-- the lines' words of a plan told by statements -/
def headW (tiles : Nat) (signs moods : List Cs) : List (List Cs) := [[wCorridor, dec tiles], wSigns :: signs, wMoods :: moods]
theorem flat_len {l : List (List KT)} (h : ∀ x ∈ l, x ≠ []) : l.length ≤ l.flatten.length := by
  induction l with
  | nil => simp
  | cons a l ih =>
    have h1 := List.length_pos_iff.mpr (h a List.mem_cons_self)
    have h2 := ih fun x hx => h x (List.mem_cons_of_mem _ hx)
    rw [List.flatten_cons, List.length_append, List.length_cons]
    omega
def stN0 (signs moods : List Cs) : PSt := ⟨0, [], signs, moods, [], [], [], []⟩
theorem parse_ok {t0 : Nat} {r0 : Bool} {ss : List Stm} (hN : NamesOk signs) (hM : NamesOk moods) (hs1 : signs ≠ []) (hm1 : moods ≠ []) (hs4 : signs.length ≤ 4) (hm6 : moods.length ≤ 6) (h1 : 1 ≤ tiles) (h16 : tiles ≤ 16)
    (hT : T.map kt = (((headW tiles signs moods ++ (Stm.robot t0 r0 :: ss).map (stmW signs moods)).map fun ws => ws.map ktOf ++ [(Kd.sign, wSemi)]).flatten) ++ [(.fin, [])])
    (hf : Fits tiles signs moods (stN0 signs moods) (.robot t0 r0 :: ss)) :
    ∃ n, parsePlan T = .ok (tiles, { (Stm.robot t0 r0 :: ss).foldl (applyS signs moods) (stN0 signs moods) with at_ := n }) := by
  have nmS : signs.map ktOf = signs.map (fun w => (Kd.name, w)) := List.map_congr_left fun w hw => by unfold ktOf; rw [kd_name (hN.ok w hw)]
  have nmM : moods.map ktOf = moods.map (fun w => (Kd.name, w)) := List.map_congr_left fun w hw => by unfold ktOf; rw [kd_name (hM.ok w hw)]
  obtain ⟨_, dk, dv⟩ := dec_nm (n := tiles) (by omega)
  have hflat : T.map kt = (kdOf wCorridor, wCorridor) :: (.number, dec tiles) :: (.sign, wSemi) :: (kdOf wSigns, wSigns) :: (signs.map (fun w => (Kd.name, w)) ++ (.sign, wSemi) :: ((kdOf wMoods, wMoods) :: (moods.map (fun w => (Kd.name, w)) ++ (.sign, wSemi) ::
      (stmKT signs moods (.robot t0 r0) ++ ((ss.map (stmKT signs moods)).flatten ++ [(.fin, [])]))))) := by
    rw [hT]
    have e0 : ktOf (dec tiles) = (.number, dec tiles) := by unfold ktOf; rw [dk]
    simp only [headW, List.map_append, List.map_cons, List.map_nil, List.flatten_append, List.flatten_cons, List.flatten_nil, List.append_nil, e0, nmS, nmM, List.map_map]
    have es : (ss.map ((fun ws => ws.map ktOf ++ [(Kd.sign, wSemi)]) ∘ stmW signs moods)) = ss.map (stmKT signs moods) := rfl
    rw [es]
    simp [stmKT, ktOf]
  have hlen : T.length = (T.map kt).length := by simp
  have r0' : Rest T st0 (T.map kt) := rfl
  rw [hflat] at r0'
  obtain ⟨t1, e1, _, r1⟩ := word_ok r0'
  obtain ⟨t2, e2, x2, r2⟩ := take_ok' r1
  obtain ⟨t3, e3, _, r3⟩ := word_ok r2
  have lenS : signs.length ≤ T.length := by
    rw [hlen, hflat]
    simp
    omega
  have lenM : moods.length ≤ T.length := by
    rw [hlen, hflat]
    simp
    omega
  have lenF : ss.length ≤ T.length := by
    have := flat_len (l := ss.map (stmKT signs moods)) (by
      intro x hx
      obtain ⟨s, _, rfl⟩ := List.mem_map.mp hx
      simp [stmKT])
    rw [List.length_map] at this
    rw [hlen, hflat]
    simp at this ⊢
    omega
  obtain ⟨s4, e4, x4, r4⟩ := names_ok (b := false) (ws := signs) (k1 := .sign) r3 (by decide) hs1 lenS hN.nd rfl hs4
  have hm0 : s4.names true = [] := by rw [x4]; rfl
  obtain ⟨s5, e5, x5, r5⟩ := names_ok (b := true) (ws := moods) (k1 := .sign) r4 (by decide) hm1 lenM hM.nd hm0 hm6
  have es5 : ∃ n, s5 = { stN0 signs moods with at_ := n } := by
    refine ⟨s5.at_, ?_⟩
    rw [x5, x4]
    simp [pushAll, stN0, PSt.next, st0]
  obtain ⟨n5, es5⟩ := es5
  subst es5
  have hf2 := Fits.at_ (n := n5) hf
  obtain ⟨s6, e6, x6, r6⟩ := robot_ok (tiles := tiles) (signs := signs) (moods := moods) r5 hf2.1.1 h16 hf2.1.2
  obtain ⟨m, e7⟩ := stmts_ok hN hM h16 (ss := ss) (f := T.length) (st := s6) (by rw [x6]; rfl) (by rw [x6]; rfl) r6 (by rw [x6]; exact Fits.at_ hf2.2) lenF
  refine ⟨m, ?_⟩
  unfold parsePlan
  simp only [e1, e2, e3, x2, dv]
  rw [if_pos ⟨h1, h16⟩]
  simp only [e4, e5, e6, e7]
  rw [x6, fold_at, apply_at, fold_at]
  rfl
end
end Sw

end

section
set_option maxRecDepth 100000
set_option maxHeartbeats 4000000
/-! the text of a plan, read again -/
namespace Sw
open PySem
structure RuleOk (g m : Nat) (kv : (Nat × Nat) × Rule) : Prop where
  k1 : kv.1.1 < m
  k2 : kv.1.2 < g
  l : kv.2.left < g
  la : kv.2.later < m
  mv : kv.2.move ∈ moves
/-- a plan that a text can tell -/
structure WfP (pl : Plan) : Prop where
  sN : NamesOk pl.signs
  mN : NamesOk pl.moods
  s1 : pl.signs ≠ []
  s4 : pl.signs.length ≤ 4
  m1 : pl.moods ≠ []
  m6 : pl.moods.length ≤ 6
  n1 : 1 ≤ pl.floor.length
  n16 : pl.floor.length ≤ 16
  fl : ∀ x ∈ pl.floor, x < pl.signs.length
  r1 : pl.robots ≠ []
  r3 : pl.robots.length ≤ 3
  rt : ∀ r ∈ pl.robots, r.1 < pl.floor.length
  rn : (pl.rules.map (·.1)).Nodup
  ru : ∀ kv ∈ pl.rules, RuleOk pl.signs.length pl.moods.length kv
def putsL (floor : List Nat) : List (Nat × Nat) := (List.range floor.length).filterMap fun t => if 0 < floor.getD t 0 then some (t, floor.getD t 0) else none
def robS (r : Nat × Bool) : Stm := .robot r.1 r.2
def putS (q : Nat × Nat) : Stm := .put q.2 q.1
def rulS (kv : (Nat × Nat) × Rule) : Stm := .rule kv.1 kv.2
def stmsOf (pl : Plan) : List Stm := pl.robots.map robS ++ ((putsL pl.floor).map putS ++ pl.rules.map rulS)
def linesW (pl : Plan) : List (List Cs) := headW pl.floor.length pl.signs pl.moods ++ (stmsOf pl).map (stmW pl.signs pl.moods)
def textOf (pl : Plan) : Cs := TL.joinL [10] ((linesW pl).map lineOf)
section
variable {tiles : Nat} {signs moods : List Cs}
theorem fits_app : ∀ {a b : List Stm} {st : PSt}, Fits tiles signs moods st a → Fits tiles signs moods (a.foldl (applyS signs moods) st) b → Fits tiles signs moods st (a ++ b)
  | [], _, _, _, h => h
  | s :: a, b, st, h, h2 => ⟨h.1, fits_app h.2 h2⟩
theorem fold_rob : ∀ {rs : List (Nat × Bool)} {st : PSt}, (rs.map robS).foldl (applyS signs moods) st = { st with robots := st.robots ++ rs }
  | [], st => by simp
  | r :: rs, st => by
    rw [List.map_cons, List.foldl_cons, fold_rob]
    simp [robS, applyS]
theorem fits_rob : ∀ {rs : List (Nat × Bool)} {st : PSt}, (∀ r ∈ rs, r.1 < tiles) → st.robots.length + rs.length ≤ 3 → Fits tiles signs moods st (rs.map robS)
  | [], _, _, _ => trivial
  | r :: rs, st, h, hl => by
    refine ⟨⟨h r List.mem_cons_self, by simp at hl; omega⟩, fits_rob (fun x hx => h x (List.mem_cons_of_mem _ hx)) ?_⟩
    simp [robS, applyS] at hl ⊢
    omega
theorem fold_put : ∀ {ps : List (Nat × Nat)} {st : PSt}, (ps.map putS).foldl (applyS signs moods) st = { st with spots := st.spots ++ ps }
  | [], st => by simp
  | r :: rs, st => by
    rw [List.map_cons, List.foldl_cons, fold_put]
    simp [putS, applyS]
theorem fits_put : ∀ {ps : List (Nat × Nat)} {st : PSt}, (∀ q ∈ ps, q.1 < tiles ∧ q.2 < signs.length) → (ps.map (·.1)).Nodup → (∀ q ∈ ps, ∀ x ∈ st.spots, x.1 ≠ q.1) → Fits tiles signs moods st (ps.map putS)
  | [], _, _, _, _ => trivial
  | q :: ps, st, h, hn, hd => by
    rw [List.map_cons, List.nodup_cons] at hn
    refine ⟨⟨(h q List.mem_cons_self).1, (h q List.mem_cons_self).2, hd q List.mem_cons_self⟩, fits_put (fun x hx => h x (List.mem_cons_of_mem _ hx)) hn.2 ?_⟩
    intro x hx y hy
    rcases List.mem_append.mp hy with z | z
    · exact hd x (List.mem_cons_of_mem _ hx) y z
    · rw [List.mem_singleton.mp z]
      intro e
      exact hn.1 (List.mem_map.mpr ⟨x, hx, e.symm⟩)
theorem fold_rul : ∀ {rs : List ((Nat × Nat) × Rule)} {st : PSt}, (rs.map rulS).foldl (applyS signs moods) st = { st with pairs := st.pairs ++ rs.map (fun kv => (moods.getD kv.1.1 [], signs.getD kv.1.2 [])), rules := st.rules ++ rs }
  | [], st => by simp
  | r :: rs, st => by
    rw [List.map_cons, List.foldl_cons, fold_rul]
    simp [rulS, applyS]
theorem name_inj {ws : List Cs} (hn : ws.Nodup) {a b : Nat} (ha : a < ws.length) (hb : b < ws.length) (e : ws.getD a [] = ws.getD b []) : a = b := by
  rw [List.getD_eq_getElem?_getD, List.getD_eq_getElem?_getD, List.getElem?_eq_getElem ha, List.getElem?_eq_getElem hb] at e
  exact (List.getElem_inj hn).mp e
theorem fits_rul (hN : NamesOk signs) (hM : NamesOk moods) : ∀ {rs done : List ((Nat × Nat) × Rule)} {st : PSt}, (∀ kv ∈ rs, RuleOk signs.length moods.length kv) → (∀ kv ∈ done, RuleOk signs.length moods.length kv) → ((done ++ rs).map (·.1)).Nodup →
    st.rules = done → st.pairs = done.map (fun kv => (moods.getD kv.1.1 [], signs.getD kv.1.2 [])) → Fits tiles signs moods st (rs.map rulS)
  | [], _, _, _, _, _, _, _ => trivial
  | kv :: rs, done, st, h, hd, hn, e1, e2 => by
    have o := h kv List.mem_cons_self
    have nk : ∀ q ∈ done, q.1 ≠ kv.1 := fun q hq z => by
      rw [List.map_append, List.nodup_append] at hn
      exact hn.2.2 q.1 (List.mem_map.mpr ⟨q, hq, rfl⟩) kv.1 (by simp) z
    refine ⟨⟨o.k1, o.k2, o.l, o.la, o.mv, ?_, ?_⟩, fits_rul hN hM (done := done ++ [kv]) (fun x hx => h x (List.mem_cons_of_mem _ hx)) ?_ ?_ ?_ ?_⟩
    · rw [e2]
      intro z
      obtain ⟨q, hq, e⟩ := List.mem_map.mp z
      obtain ⟨ea, eb⟩ := Prod.mk.inj e
      exact nk q hq (Prod.ext (name_inj hM.nd (hd q hq).k1 o.k1 ea) (name_inj hN.nd (hd q hq).k2 o.k2 eb))
    · rw [e1]
      exact nk
    · intro x hx
      rcases List.mem_append.mp hx with z | z
      · exact hd x z
      · rw [List.mem_singleton.mp z]
        exact o
    · rw [List.append_assoc]
      exact hn
    · show st.rules ++ [(kv.1, kv.2)] = _
      rw [e1]
    · show st.pairs ++ [_] = _
      rw [e2, List.map_append]
      rfl
end
theorem puts_mem {floor : List Nat} {q : Nat × Nat} (h : q ∈ putsL floor) : q.1 < floor.length ∧ q.2 = floor.getD q.1 0 ∧ 0 < q.2 := by
  obtain ⟨t, ht, e⟩ := List.mem_filterMap.mp h
  split at e
  · rename_i h0
    cases e
    exact ⟨List.mem_range.mp ht, rfl, h0⟩
  · cases e
theorem puts_nodup (floor : List Nat) : ((putsL floor).map (·.1)).Nodup := by
  have key : ∀ l : List Nat, l.Nodup → ((l.filterMap fun t => if 0 < floor.getD t 0 then some (t, floor.getD t 0) else none).map (·.1)).Nodup ∧ ∀ x ∈ (l.filterMap fun t => if 0 < floor.getD t 0 then some (t, floor.getD t 0) else none).map (·.1), x ∈ l := by
    intro l
    induction l with
    | nil => intro _; exact ⟨List.nodup_nil, fun x hx => by cases hx⟩
    | cons a l ih =>
      intro hn
      rw [List.nodup_cons] at hn
      obtain ⟨i1, i2⟩ := ih hn.2
      rw [List.filterMap_cons]
      by_cases h : 0 < floor.getD a 0
      · rw [if_pos h]
        refine ⟨?_, fun x hx => ?_⟩
        · rw [List.map_cons, List.nodup_cons]
          exact ⟨fun z => hn.1 (i2 _ z), i1⟩
        · rcases List.mem_cons.mp hx with z | z
          · exact z ▸ List.mem_cons_self
          · exact List.mem_cons_of_mem _ (i2 x z)
      · rw [if_neg h]
        exact ⟨i1, fun x hx => List.mem_cons_of_mem _ (i2 x hx)⟩
  exact (key _ List.nodup_range).1
theorem getA_mem {κ α : Type} [DecidableEq κ] {l : List (κ × α)} {k : κ} {v : α} (hn : (l.map (·.1)).Nodup) (h : (k, v) ∈ l) : getA l k = some v := by
  induction l with
  | nil => cases h
  | cons a l ih =>
    unfold getA
    rw [List.find?_cons]
    rw [List.map_cons, List.nodup_cons] at hn
    rcases List.mem_cons.mp h with z | z
    · subst z
      simp
    · have : ¬ a.1 = k := fun e => hn.1 (List.mem_map.mpr ⟨(k, v), z, e.symm⟩)
      rw [decide_eq_false this]
      exact ih hn.2 z
theorem getA_none {κ α : Type} [DecidableEq κ] {l : List (κ × α)} {k : κ} (h : ∀ q ∈ l, q.1 ≠ k) : getA l k = none := by
  unfold getA
  have : l.find? (fun kv => decide (kv.1 = k)) = none := List.find?_eq_none.mpr fun q hq z => h q hq (of_decide_eq_true z)
  rw [this]
  rfl
theorem puts_floor (floor : List Nat) : ((List.range floor.length).map fun i => (getA (putsL floor) i).getD 0) = floor := by
  apply List.ext_getElem?
  intro i
  rw [List.getElem?_map]
  by_cases h : i < floor.length
  · rw [List.getElem?_range h, List.getElem?_eq_getElem h]
    have ef : floor.getD i 0 = floor[i] := by rw [List.getD_eq_getElem?_getD, List.getElem?_eq_getElem h]; rfl
    show some ((getA (putsL floor) i).getD 0) = _
    by_cases h0 : 0 < floor.getD i 0
    · have hm : (i, floor.getD i 0) ∈ putsL floor := List.mem_filterMap.mpr ⟨i, List.mem_range.mpr h, by rw [if_pos h0]⟩
      rw [getA_mem (puts_nodup floor) hm, ef]
      rfl
    · rw [getA_none]
      · show some 0 = some floor[i]
        rw [← ef]
        congr 1
        omega
      · intro q hq z
        obtain ⟨_, h2, h3⟩ := puts_mem hq
        rw [z] at h2
        omega
  · rw [List.getElem?_eq_none (by simpa using h), List.getElem?_eq_none (by simpa using h)]
    rfl
theorem kw_wd : ∀ w ∈ kws, Wd w := by
  have key : ∀ w ∈ kws, (w.all isL && (decide (1 ≤ w.length) && decide (w.length ≤ 8))) = true := by decide +kernel
  intro w hw
  have := key w hw
  simp only [Bool.and_eq_true, decide_eq_true_eq, List.all_eq_true] at this
  exact ⟨this.1, this.2.1, this.2.2⟩
theorem stm_words {pl : Plan} (h : WfP pl) : ∀ s ∈ stmsOf pl, stmW pl.signs pl.moods s ≠ [] ∧ ∀ w ∈ stmW pl.signs pl.moods s, Wd w ∨ Nm w := by
  have kw : ∀ w, w ∈ kws → Wd w ∨ Nm w := fun w hw => .inl (kw_wd w hw)
  have si : ∀ g, g < pl.signs.length → Wd (pl.signs.getD g []) ∨ Nm (pl.signs.getD g []) := fun g hg => .inl (h.sN.ok _ (getD_in hg)).1
  have mo : ∀ g, g < pl.moods.length → Wd (pl.moods.getD g []) ∨ Nm (pl.moods.getD g []) := fun g hg => .inl (h.mN.ok _ (getD_in hg)).1
  have n16 := h.n16
  intro s hs
  rcases List.mem_append.mp hs with z | z
  · obtain ⟨r, hr, rfl⟩ := List.mem_map.mp z
    have := h.rt r hr
    refine ⟨by simp [robS, stmW], fun w hw => ?_⟩
    simp only [robS, stmW, List.mem_cons, List.not_mem_nil, or_false] at hw
    rcases hw with rfl | rfl | rfl
    · exact kw _ (by decide +kernel)
    · exact .inr (dec_nm (by omega)).1
    · refine kw _ ?_
      cases r.2 <;> decide +kernel
  · rcases List.mem_append.mp z with z | z
    · obtain ⟨q, hq, rfl⟩ := List.mem_map.mp z
      obtain ⟨q1, q2, _⟩ := puts_mem hq
      have hg : q.2 < pl.signs.length := by
        rw [q2]
        refine h.fl _ ?_
        rw [List.getD_eq_getElem?_getD, List.getElem?_eq_getElem q1]
        exact List.getElem_mem q1
      refine ⟨by simp [putS, stmW], fun w hw => ?_⟩
      simp only [putS, stmW, List.mem_cons, List.not_mem_nil, or_false] at hw
      rcases hw with rfl | rfl | rfl
      · exact kw _ (by decide +kernel)
      · exact si _ hg
      · exact .inr (dec_nm (by omega)).1
    · obtain ⟨q, hq, rfl⟩ := List.mem_map.mp z
      have o := h.ru q hq
      refine ⟨by simp [rulS, stmW], fun w hw => ?_⟩
      simp only [rulS, stmW, List.mem_cons, List.not_mem_nil, or_false] at hw
      rcases hw with rfl | rfl | rfl | rfl | rfl | rfl | rfl
      · exact kw _ (by decide +kernel)
      · exact mo _ o.k1
      · exact si _ o.k2
      · exact kw _ (by decide +kernel)
      · exact si _ o.l
      · refine kw _ ?_
        have : ∀ w ∈ moves, w ∈ kws := by decide +kernel
        exact this _ o.mv
      · exact mo _ o.la
/-- THE ROUND TRIP -/
theorem loads_text {pl : Plan} (h : WfP pl) : ∃ s, loads (textOf pl) = .ok (pl.floor.length, s) ∧ s.faults = [] ∧ planOf pl.floor.length s = pl := by
  have kw : ∀ w, w ∈ kws → Wd w ∨ Nm w := fun w hw => .inl (kw_wd w hw)
  have n16 := h.n16
  obtain ⟨T, hT, hK⟩ := tokenize_lines (lss := linesW pl) (by simp [linesW, headW]) (by
    intro ws hws
    rcases List.mem_append.mp hws with z | z
    · simp only [headW, List.mem_cons, List.not_mem_nil, or_false] at z
      rcases z with rfl | rfl | rfl
      · refine ⟨by simp, fun w hw => ?_⟩
        simp only [List.mem_cons, List.not_mem_nil, or_false] at hw
        rcases hw with rfl | rfl
        · exact kw _ (by decide +kernel)
        · exact .inr (dec_nm (by omega)).1
      · refine ⟨by simp, fun w hw => ?_⟩
        rcases List.mem_cons.mp hw with rfl | hw
        · exact kw _ (by decide +kernel)
        · exact .inl (h.sN.ok w hw).1
      · refine ⟨by simp, fun w hw => ?_⟩
        rcases List.mem_cons.mp hw with rfl | hw
        · exact kw _ (by decide +kernel)
        · exact .inl (h.mN.ok w hw).1
    · obtain ⟨s, hs, rfl⟩ := List.mem_map.mp z
      exact stm_words h s hs)
  obtain ⟨r0, rs, er⟩ : ∃ r0 rs, pl.robots = r0 :: rs := by
    cases e : pl.robots with
    | nil => exact absurd e h.r1
    | cons a b => exact ⟨a, b, rfl⟩
  have est : stmsOf pl = Stm.robot r0.1 r0.2 :: (rs.map robS ++ ((putsL pl.floor).map putS ++ pl.rules.map rulS)) := by
    unfold stmsOf
    rw [er]
    rfl
  have hfold : (stmsOf pl).foldl (applyS pl.signs pl.moods) (stN0 pl.signs pl.moods) = ⟨0, [], pl.signs, pl.moods, pl.robots, pl.rules, pl.rules.map (fun kv => (pl.moods.getD kv.1.1 [], pl.signs.getD kv.1.2 [])), putsL pl.floor⟩ := by
    unfold stmsOf
    rw [List.foldl_append, List.foldl_append, fold_rob, fold_put, fold_rul]
    simp [stN0]
  have hfit : Fits pl.floor.length pl.signs pl.moods (stN0 pl.signs pl.moods) (stmsOf pl) := by
    refine fits_app (fits_rob h.rt (by simpa [stN0] using h.r3)) (fits_app (fits_put ?_ (puts_nodup _) ?_) (fits_rul (done := []) h.sN h.mN h.ru (by simp) (by simpa using h.rn) ?_ ?_))
    · intro q hq
      obtain ⟨q1, q2, _⟩ := puts_mem hq
      refine ⟨q1, ?_⟩
      rw [q2]
      refine h.fl _ ?_
      rw [List.getD_eq_getElem?_getD, List.getElem?_eq_getElem q1]
      exact List.getElem_mem q1
    · intro q hq x hx
      rw [fold_rob] at hx
      cases hx
    · rw [fold_put, fold_rob]
      rfl
    · rw [fold_put, fold_rob]
      rfl
  rw [est] at hfit
  obtain ⟨n, hp⟩ := parse_ok (T := T) (tiles := pl.floor.length) (signs := pl.signs) (moods := pl.moods) h.sN h.mN h.s1 h.m1 h.s4 h.m6 h.n1 h.n16 (by rw [hK]; unfold linesW; rw [est]) hfit
  rw [← est, hfold] at hp
  refine ⟨_, (by
    unfold loads textOf
    rw [hT]
    exact hp), ?_, ?_⟩
  · rfl
  · unfold planOf
    simp only
    rw [puts_floor]
end Sw

end

section
set_option maxRecDepth 100000
set_option maxHeartbeats 4000000
/-! dicts whose keys are tuples of tuples -/
namespace SwA
open PySem PySem.Spec PyProof.Rows L2
mutual
/-- the value v is the key k, by tracked tuples -/
inductive Nk (H : Hp) : NestedKey → V → Prop
  | bl (b : Bool) : Nk H (.num (if b = true then 1 else 0)) (.bl b)
  | int (i : Int) : Nk H (.num i) (.int i)
  | str (x : Str) : Nk H (.text x) (.str x)
  | tup {a : Addr} {vs : List V} {ks : List NestedKey} : H a = some (.tup vs) → NkAll H ks vs → Nk H (.tup ks) (.ref a)
inductive NkAll (H : Hp) : List NestedKey → List V → Prop
  | nil : NkAll H [] []
  | cons {k : NestedKey} {v : V} {ks : List NestedKey} {vs : List V} : Nk H k v → NkAll H ks vs → NkAll H (k :: ks) (v :: vs)
end
mutual
theorem Nk.keep {H H' : Hp} (s : ∀ a xs, H a = some (.tup xs) → H' a = some (.tup xs)) : ∀ {k : NestedKey} {v : V}, Nk H k v → Nk H' k v
  | _, _, .bl b => .bl b
  | _, _, .int i => .int i
  | _, _, .str x => .str x
  | _, _, .tup h t => .tup (s _ _ h) (NkAll.keep s t)
theorem NkAll.keep {H H' : Hp} (s : ∀ a xs, H a = some (.tup xs) → H' a = some (.tup xs)) : ∀ {ks : List NestedKey} {vs : List V}, NkAll H ks vs → NkAll H' ks vs
  | _, _, .nil => .nil
  | _, _, .cons h t => .cons (Nk.keep s h) (NkAll.keep s t)
end
section
variable {P : Program} {w : World} {H : Hp} {h : Heap}
mutual
theorem Nk.is (ok : HOk P w H h) : ∀ {k : NestedKey} {v : V} {u : Value}, Nk H k v → RelV v u → NestedIs h k u
  | _, _, u, .bl b, r => by
    obtain rfl : u = Value.bool b := r
    exact .bool rfl
  | _, _, u, .int i, r => by
    obtain ⟨t, rfl⟩ := (show ∃ t, u = Value.int i t from r)
    exact .int i t
  | _, _, u, .str x, r => by
    obtain ⟨t, rfl⟩ := (show ∃ t, u = Value.str x t from r)
    exact .text x t
  | _, _, u, .tup (a := a) (vs := vs) e t, r => by
    obtain rfl : u = Value.ref a := r
    obtain ⟨_, its, rl, o, h1, h2, n, h3⟩ := (show ObjOk P w H h a (.tup vs) from ok a _ e)
    exact .tup h1 h2 h3 (by simpa using NkAll.is ok t rl)
theorem NkAll.is (ok : HOk P w H h) : ∀ {ks : List NestedKey} {vs : List V} {us : List Value}, NkAll H ks vs → Vals vs us → NestedAll h ks us
  | _, _, _, .nil, r => by cases r; exact .nil
  | _, _, _, .cons hk t, r => by
    cases r with
    | cons r1 r2 => exact .cons (Nk.is ok hk r1) (NkAll.is ok t r2)
end
end
/-- a key's tuple -/
def KeyN (H : Hp) (k : NestedKey) (b : Addr) : Prop := Nk H k (.ref b) ∧ k.depth ≤ 8
theorem KeyN.keep {H H' : Hp} (s : ∀ a xs, H a = some (.tup xs) → H' a = some (.tup xs)) {k : NestedKey} {b : Addr} (h : KeyN H k b) : KeyN H' k b := ⟨h.1.keep s, h.2⟩
theorem KeyN.is {P : Program} {w : World} {H : Hp} {h : Heap} (ok : HOk P w H h) {k : NestedKey} {b : Addr} (x : KeyN H k b) : (nestedKind P w).is h k b := ⟨x.1.is ok rfl, x.2⟩
abbrev KvN := NestedKey × Addr × V
abbrev RelN : List KvN → List (NestedKey × Addr × Value) → Prop := Paired fun p q => p.1 = q.1 ∧ p.2.1 = q.2.1 ∧ RelV p.2.2 q.2.2
/-- the dict's own object -/
def DNo (P : Program) (w : World) (a : Addr) (kvs : List KvN) : HO := .ext fun h => kvs.length ≤ sizeLine ∧ (a == sysModules) = false ∧ ∃ xs, RelN kvs xs ∧
  ∃ o es ep, h.get? a = some o ∧ o.ExactDict ∧ o.data = .dict es ep ∧ es.toList = xs.map (entryOfKey (nestedKind P w)) ∧ (xs.map (·.1)).Nodup
theorem dno_ok {P : Program} {w : World} {H : Hp} {h : Heap} {a : Addr} {kvs : List KvN} (z : kvs.length ≤ sizeLine) (y : (a == sysModules) = false) {xs : List (NestedKey × Addr × Value)} (r : RelN kvs xs) {o : Obj} {es : Array DictEntry} {ep : Nat}
    (h1 : h.get? a = some o) (h2 : o.ExactDict) (h3 : o.data = .dict es ep) (h4 : es.toList = xs.map (entryOfKey (nestedKind P w))) (h5 : (xs.map (·.1)).Nodup) : ObjOk P w H h a (DNo P w a kvs) :=
  ⟨⟨z, y, xs, r, o, es, ep, h1, h2, h3, h4, h5⟩, ⟨o, h1⟩, fun g1 g2 ⟨z, y, xs, r, o, es, ep, h1, h2, h3, h4, h5⟩ k => ⟨z, y, xs, r, o, es, ep, k o h1, h2, h3, h4, h5⟩⟩
/-- a dict with nested keys -/
def DictN (P : Program) (w : World) (H : Hp) (a : Addr) (kvs : List KvN) : Prop := H a = some (DNo P w a kvs) ∧ ∀ x ∈ kvs, KeyN H x.1 x.2.1
theorem DictN.keep {P : Program} {w : World} {H H' : Hp} {a : Addr} {kvs : List KvN} (h : DictN P w H a kvs) (s : ∀ b xs, H b = some (.tup xs) → H' b = some (.tup xs)) (e : H' a = H a) : DictN P w H' a kvs := ⟨e.trans h.1, fun x hx => (h.2 x hx).keep s⟩
theorem DictN.same {P : Program} {w : World} {H H' : Hp} {a : Addr} {kvs : List KvN} (h : DictN P w H a kvs) (s : Same H H') : DictN P w H' a kvs := ⟨s _ _ h.1, fun x hx => (h.2 x hx).keep fun _ _ z => s _ _ z⟩
theorem paired_append {α β : Type} {F : α → β → Prop} : ∀ {a : List α} {b : List β} {c : List α} {d : List β}, Paired F a b → Paired F c d → Paired F (a ++ c) (b ++ d)
  | _, _, _, _, .nil, h => h
  | _, _, _, _, .cons x t, h => .cons x (paired_append t h)
def valN (kvs : List KvN) (k : NestedKey) : Option V := (kvs.find? fun x => decide (x.1 = k)).map (·.2.2)
theorem RelN.val {kvs : List KvN} {xs : List (NestedKey × Addr × Value)} (r : RelN kvs xs) (k : NestedKey) : RelO (valN kvs k) ((atKey xs k).map (·.2)) := by
  induction r with
  | nil => exact True.intro
  | @cons p q ps qs h t ih =>
    by_cases e : p.1 = k
    · have e2 : q.1 = k := by rw [← h.1]; exact e
      have a1 : valN (p :: ps) k = some p.2.2 := by simp [valN, e]
      have a2 : (atKey (q :: qs) k).map (·.2) = some q.2.2 := by simp [atKey, e2]
      rw [a1, a2]
      exact h.2.2
    · have e2 : ¬ q.1 = k := by rw [← h.1]; exact e
      have a1 : valN (p :: ps) k = valN ps k := by simp [valN, e]
      have a2 : atKey (q :: qs) k = atKey qs k := by simp [atKey, e2]
      rw [a1, a2]
      exact ih
theorem RelN.keys {P : Program} {w : World} {H : Hp} {h : Heap} (ok : HOk P w H h) {kvs : List KvN} {xs : List (NestedKey × Addr × Value)} (r : RelN kvs xs) : (∀ x ∈ kvs, KeyN H x.1 x.2.1) → ∀ x ∈ xs, (nestedKind P w).is h x.1 x.2.1 := by
  induction r with
  | nil => intro _ x hx; exact nomatch hx
  | @cons p q ps qs hq t ih =>
    intro hk x hx
    rcases List.mem_cons.mp hx with e | hx
    · subst e
      have := (hk p List.mem_cons_self).is ok
      rw [hq.1, hq.2.1] at this
      exact this
    · exact ih (fun y hy => hk y (List.mem_cons_of_mem _ hy)) x hx
theorem DictN.rd {P : Program} {w : World} {H : Hp} {h : Heap} {a : Addr} {kvs : List KvN} (ok : HOk P w H h) (d : DictN P w H a kvs) : kvs.length ≤ sizeLine ∧ (a == sysModules) = false ∧ ∃ xs, RelN kvs xs ∧ h.DictOfH (nestedKind P w) a xs := by
  obtain ⟨⟨z, y, xs, r, o, es, ep, h1, h2, h3, h4, h5⟩, _⟩ := (show ObjOk P w H h a (DNo P w a kvs) from ok a _ d.1)
  exact ⟨z, y, xs, r, o, es, ep, h1, h2, h3, h4, r.keys ok d.2, h5⟩
def tNGet (P : Program) (w : World) (td ty : TE) : TE := fun σ H Q => td σ H fun x H1 => ty σ H1 fun y H2 => ∃ a kvs k b v, x = .ref a ∧ y = .ref b ∧ DictN P w H2 a kvs ∧ KeyN H2 k b ∧ valN kvs k = some v ∧ Q v H2
def tNIn (P : Program) (w : World) (ty td : TE) : TE := fun σ H Q => ty σ H fun y H1 => td σ H1 fun x H2 => ∃ a kvs k b, x = .ref a ∧ y = .ref b ∧ DictN P w H2 a kvs ∧ KeyN H2 k b ∧ Q (.bl (valN kvs k).isSome) H2
/-- d[y] = v, y new -/
def sNPut (P : Program) (w : World) (td ty tv : TE) : TS := fun D σ H => tv σ H fun v H1 => td σ H1 fun x H2 => ty σ H2 fun y H3 => ∃ a kvs k b, x = .ref a ∧ y = .ref b ∧ DictN P w H3 a kvs ∧ KeyN H3 k b ∧ valN kvs k = none ∧ kvs.length < sizeLine ∧ D.nx σ (upd H3 a (DNo P w a (kvs ++ [(k, b, v)])))
def tDNewN (P : Program) (w : World) : TE := fun _ H Q => ∀ p, H p = none → Q (.ref p) (upd H p (DNo P w p []))
section
variable {X : Cx} {o i e value : Expr} {pos pos' tpos : Pos} {td ty tv : TE}
theorem room8 {A : Around} (hu : A.units + 9 < cLine) : (A.in1).units + 8 < cLine := by
  rw [Around.in1_units]
  omega
theorem pe_nget {P : Program} {w : World} (hP : X.prog = P) (hw : X.w = w) (hu : X.A.units + 9 < cLine) (ho : PE X o td) (hi : PE X i ty) (hs : NoSl i) : PE X (.Subscript o i pos) (tNGet P w td ty) := by
  subst hP hw
  refine ⟨fun pins s σ H Q I h => ?_⟩
  refine subD_of PySem.F.slot_dict_getitem.lookup hs (thn (ho.run pins s σ H _ I h) fun u s1 ⟨x, H1, I1, rx, q1⟩ => thn (hi.run pins s1 σ H1 _ I1 q1) fun iv s2 ⟨y, H2, I2, ry, a, kvs, k, b, v, ex, ey, dn, kn, hv, q2⟩ => ?_)
  subst ex ey
  obtain rfl : u = Value.ref a := rx
  obtain rfl : iv = Value.ref b := ry
  obtain ⟨z, hd, xs, rel, dd⟩ := dn.rd I2.hok
  obtain ⟨w', hw, rw'⟩ := RelO.some_of (v := v) (o := (atKey xs k).map (·.2)) (by rw [← hv]; exact rel.val k)
  obtain ⟨p, hp, hp2⟩ := Option.map_eq_some_iff.mp hw
  refine ⟨dd.typeIs, wpAny_getItem_heap (knd := nestedKind X.prog X.w) (room8 hu) (kn.is I2.hok) dd hp ?_⟩
  rw [hp2]
  exact ⟨v, H2, I2.tok _, rw', q2⟩
theorem pc_nin {P : Program} {w : World} (hP : X.prog = P) (hw : X.w = w) (hu : X.A.units + 9 < cLine) (hi : PE X i ty) (ho : PE X o td) : PC X .In i o (tNIn P w ty td) := by
  subst hP hw
  refine ⟨fun pins s σ H Q I h => ?_⟩
  refine thn (hi.run pins s σ H _ I h) fun iv s1 ⟨y, H1, I1, ry, q1⟩ => thn (ho.run pins s1 σ H1 _ I1 q1) fun u s2 ⟨x, H2, I2, rx, a, kvs, k, b, ex, ey, dn, kn, q2⟩ => ?_
  subst ex ey
  obtain rfl : u = Value.ref a := rx
  obtain rfl : iv = Value.ref b := ry
  obtain ⟨z, hd, xs, rel, dd⟩ := dn.rd I2.hok
  refine wpAny_in_heap (knd := nestedKind X.prog X.w) (room8 hu) (kn.is I2.hok) hd dd ?_
  have q := (rel.val k).isSome_eq
  rw [Option.isSome_map] at q
  rw [← q]
  exact ⟨.bl (valN kvs k).isSome, H2, I2.tok _, rfl, q2⟩
theorem ps_nput {P : Program} {w : World} (hP : X.prog = P) (hw : X.w = w) (hu : X.A.units + 9 < cLine) (ho : PE X o td) (hi : PE X i ty) (hv : PE X value tv) (hs : swapsWith value (some (.Subscript o i pos')) pos.line X.env = pure false) :
    PS X (.Assign [.Subscript o i pos'] value pos) (sNPut P w td ty tv) := by
  subst hP hw
  refine ⟨fun pins s σ H D I h => ?_⟩
  refine wpAny_Assign_Subscript (thn (hv.run pins s σ H _ I h) fun r s1 ⟨v, H1, I1, rv, q1⟩ => thn (ho.run pins s1 σ H1 _ I1 q1) fun u s2 ⟨x, H2, I2, rx, q2⟩ => thn (hi.run pins s2 σ H2 _ I2 q2) fun iv s3 ⟨y, H3, I3, ry, a, kvs, k, b, ex, ey, dn, kn, hno, hl, q3⟩ => ?_) hs
  subst ex ey
  obtain rfl : u = Value.ref a := rx
  obtain rfl : iv = Value.ref b := ry
  obtain ⟨z, hd, xs, rel, dd⟩ := dn.rd I3.hok
  have hz : xs.length ≤ sizeLine := by rw [← Paired.length rel]; exact z
  have hno2 : atKey xs k = none := by
    have q := (rel.val k).isSome_eq
    rw [hno, Option.isSome_map] at q
    cases e : atKey xs k with
    | none => rfl
    | some _ => rw [e] at q; cases q
  refine wpAny_setItem_heap (knd := nestedKind X.prog X.w) (hsz := hz) (room8 hu) (kn.is I3.hok) dd fun h' dd' hs => ?_
  rw [storedH_new hno2] at dd'
  obtain ⟨q, es, ep, hq, h2, h3, h4, _, h5⟩ := dd'
  refine ⟨σ, _, d_write I3 (by rw [dn.1]; exact True.intro) hs ⟨q, hq⟩ (dno_ok ?_ hd ?_ hq h2 h3 h4 h5), q3⟩
  · rw [List.length_append, List.length_singleton]
    omega
  · exact paired_append rel (.cons ⟨rfl, rfl, rv⟩ .nil)
theorem pe_dnewN {P : Program} {w : World} (hP : X.prog = P) (hw : X.w = w) : PE X (.Dict [] [] pos) (tDNewN P w) := by
  subst hP hw
  exact ⟨fun pins s σ H Q I h =>
  wpAny_Dict_empty ⟨.ref s.heap.objs.size, _, I.laid (a := s.heap.objs.size) (o := DNo X.prog X.w s.heap.objs.size []) (t' := s.toks) (fun _ _ q => Heap.get?_push_of_some _ q) (Nat.le_refl _)
    (dno_ok (Nat.zero_le _) (beq_eq_false_iff_ne.mpr (Ne.symm (Nat.ne_of_lt I.big))) .nil (Heap.get?_push_size _ rfl) ⟨rfl, rfl, rfl⟩ rfl rfl List.nodup_nil), rfl, h _ (I.hok.fresh (Nat.le_refl _))⟩⟩
end
end SwA

end

section
set_option maxRecDepth 100000
set_option maxHeartbeats 4000000
/-! the story of a plan: the states one after another, until one comes again -/
namespace Sw
open PySem PySem.Spec PyProof.Rows L2 SwA
/-- moods that are named, signs that are named -/
def MoS (m : Nat) (st : MSt) : Prop := ∀ r ∈ st.robots, r.2.2 < m
def LaOk (m : Nat) (rules : List ((Nat × Nat) × Rule)) : Prop := ∀ k r, getA rules k = some r → r.later < m
def RuOk (g : Nat) (rules : List ((Nat × Nat) × Rule)) : Prop := ∀ k r, getA rules k = some r → r.left < g
def MvOk (rules : List ((Nat × Nat) × Rule)) : Prop := ∀ k r, getA rules k = some r → r.move ∈ moves
theorem get_ok {pl : Plan} (h : WfP pl) {k : Nat × Nat} {r : Rule} (e : getA pl.rules k = some r) : RuleOk pl.signs.length pl.moods.length (k, r) := by
  unfold getA at e
  cases hf : pl.rules.find? (fun q => decide (q.1 = k)) with
  | none => rw [hf] at e; cases e
  | some q =>
    rw [hf] at e
    cases e
    have e1 : q.1 = k := by
      have := List.find?_some hf
      exact of_decide_eq_true this
    have := h.ru q (List.mem_of_find?_eq_some hf)
    rw [← e1]
    exact this
theorem laOk {pl : Plan} (h : WfP pl) : LaOk pl.moods.length pl.rules := fun _ _ e => (get_ok h e).la
theorem ruOk {pl : Plan} (h : WfP pl) : RuOk pl.signs.length pl.rules := fun _ _ e => (get_ok h e).l
theorem mvOk {pl : Plan} (h : WfP pl) : MvOk pl.rules := fun _ _ e => (get_ok h e).mv
theorem act_mo {m : Nat} {rules : List ((Nat × Nat) × Rule)} {st : MSt} {k : Nat} (hr : LaOk m rules) (h : MoS m st) : MoS m (actM rules st k).2 := by
  unfold actM
  split
  · exact h
  · split
    · exact h
    · rename_i r hr2
      intro x hx
      rcases List.mem_or_eq_of_mem_set hx with z | z
      · exact h x z
      · rw [z]
        exact hr _ _ hr2
theorem acts_mo {m : Nat} {rules : List ((Nat × Nat) × Rule)} {st : MSt} (hr : LaOk m rules) (h : MoS m st) : ∀ k, MoS m (actsM rules st k).2
  | 0 => h
  | k + 1 => act_mo hr (acts_mo hr h k)
theorem act_si {g : Nat} {rules : List ((Nat × Nat) × Rule)} {st : MSt} {k : Nat} (hr : RuOk g rules) (h : ∀ x ∈ st.floor, x < g) : ∀ x ∈ (actM rules st k).2.floor, x < g := by
  unfold actM
  split
  · exact h
  · split
    · exact h
    · rename_i r hr2
      intro x hx
      rcases List.mem_or_eq_of_mem_set hx with z | z
      · exact h x z
      · rw [z]
        exact hr _ _ hr2
theorem acts_si {g : Nat} {rules : List ((Nat × Nat) × Rule)} {st : MSt} (hr : RuOk g rules) (h : ∀ x ∈ st.floor, x < g) : ∀ k, ∀ x ∈ (actsM rules st k).2.floor, x < g
  | 0 => h
  | k + 1 => act_si hr (acts_si hr h k)
/-- the state before tick k -/
def stN (pl : Plan) : Nat → MSt
  | 0 => firstM pl
  | k + 1 => (nextM pl.rules (stN pl k)).state
/-- tick k -/
def tkN (pl : Plan) (k : Nat) : TickM := nextM pl.rules (stN pl k)
theorem tk_state (pl : Plan) (k : Nat) : (tkN pl k).state = stN pl (k + 1) := rfl
theorem first_wf {pl : Plan} (h : ∀ r ∈ pl.robots, r.1 < pl.floor.length) : WfM pl.floor.length pl.robots.length (firstM pl) :=
  ⟨rfl, List.length_map _, fun r hr => by obtain ⟨q, hq, rfl⟩ := List.mem_map.mp hr; exact h q hq⟩
theorem st_wf {pl : Plan} (h : ∀ r ∈ pl.robots, r.1 < pl.floor.length) : ∀ k, WfM pl.floor.length pl.robots.length (stN pl k)
  | 0 => first_wf h
  | k + 1 => (st_wf h k).next
theorem st_mo {pl : Plan} (h : WfP pl) : ∀ k, MoS pl.moods.length (stN pl k)
  | 0 => fun r hr => by
    obtain ⟨q, hq, rfl⟩ := List.mem_map.mp hr
    exact List.length_pos_iff.mpr h.m1
  | k + 1 => acts_mo (laOk h) (st_mo h k) _
theorem st_si {pl : Plan} (h : WfP pl) : ∀ k, ∀ x ∈ (stN pl k).floor, x < pl.signs.length
  | 0 => h.fl
  | k + 1 => acts_si (ruOk h) (st_si h k) _
/-- n ticks are told, all repeats from s on -/
structure Rep (f : Nat → MSt) (n s : Nat) : Prop where
  lt : s < n
  eq : f n = f s
  nd : ∀ i j, i < j → j < n → f i ≠ f j
/-- the index of tick t among the told ones -/
def foldT (n s t : Nat) : Nat := if t < n then t else s + (t - s) % (n - s)
theorem foldT_lt {n s t : Nat} (h : s < n) : foldT n s t < n := by
  unfold foldT
  split
  · assumption
  · have := Nat.mod_lt (t - s) (show n - s > 0 by omega)
    omega
theorem st_step {pl : Plan} {i j : Nat} (h : stN pl i = stN pl j) : stN pl (i + 1) = stN pl (j + 1) := by
  show (nextM pl.rules (stN pl i)).state = (nextM pl.rules (stN pl j)).state
  rw [h]
theorem st_add {pl : Plan} {i j : Nat} (h : stN pl i = stN pl j) : ∀ d, stN pl (i + d) = stN pl (j + d)
  | 0 => h
  | d + 1 => st_step (st_add h d)
theorem st_mul {pl : Plan} {n s : Nat} (h : Rep (stN pl) n s) (d : Nat) : ∀ k, stN pl (s + d + (n - s) * k) = stN pl (s + d)
  | 0 => rfl
  | k + 1 => by
    have hl := h.lt
    rw [← st_mul h d k]
    have e1 : s + d + (n - s) * (k + 1) = n + (d + (n - s) * k) := by
      rw [Nat.mul_add, Nat.mul_one]
      omega
    rw [e1, st_add h.eq]
    congr 1
    omega
theorem st_fold {pl : Plan} {n s : Nat} (h : Rep (stN pl) n s) (t : Nat) : stN pl (foldT n s t) = stN pl t := by
  unfold foldT
  split
  · rfl
  · rename_i hn
    have hl := h.lt
    have := st_mul h ((t - s) % (n - s)) ((t - s) / (n - s))
    rw [← this]
    congr 1
    have := Nat.mod_add_div (t - s) (n - s)
    omega
theorem tk_fold {pl : Plan} {n s : Nat} (h : Rep (stN pl) n s) (t : Nat) : tkN pl (foldT n s t) = tkN pl t := by
  unfold tkN
  rw [st_fold h]
/-- a tick comes again after a multiple of the length -/
theorem tk_again {pl : Plan} {n s : Nat} (h : Rep (stN pl) n s) {v k : Nat} (hs : s ≤ v) : tkN pl (v + (n - s) * k) = tkN pl v := by
  have := st_mul h (v - s) k
  rw [show s + (v - s) = v by omega] at this
  unfold tkN
  rw [this]
theorem Rep.unique {f : Nat → MSt} {n s n' s' : Nat} (h : Rep f n s) (h' : Rep f n' s') : n = n' ∧ s = s' := by
  have e : n = n' := by
    rcases Nat.lt_trichotomy n n' with z | z | z
    · exact absurd h.eq.symm (h'.nd s n h.lt z)
    · exact z
    · exact absurd h'.eq.symm (h.nd s' n' h'.lt z)
  subst e
  refine ⟨rfl, ?_⟩
  rcases Nat.lt_trichotomy s s' with z | z | z
  · exact absurd (h.eq.symm.trans h'.eq) (h.nd s s' z h'.lt)
  · exact z
  · exact absurd (h'.eq.symm.trans h.eq) (h.nd s' s z h.lt)
/-- a state comes again early -/
def Early (pl : Plan) (b : Nat) : Prop := ∃ i j, i < j ∧ j ≤ b ∧ stN pl i = stN pl j
theorem Early.mono {pl : Plan} {b c : Nat} (h : Early pl b) (l : b ≤ c) : Early pl c := let ⟨i, j, h1, h2, h3⟩ := h; ⟨i, j, h1, Nat.le_trans h2 l, h3⟩
/-! keys -/
def robK (r : Rob) : NestedKey := .tup [.num r.1, .num (if r.2.1 = true then 1 else 0), .num r.2.2]
def keyS (st : MSt) : NestedKey := .tup [.tup (st.floor.map fun n : Nat => .num n), .tup (st.robots.map robK)]
theorem robK_inj {a b : Rob} (h : robK a = robK b) : a = b := by
  obtain ⟨a1, a2, a3⟩ := a
  obtain ⟨b1, b2, b3⟩ := b
  unfold robK at h
  injection h with h
  injection h with e1 h
  injection h with e2 h
  injection h with e3 _
  injection e1 with e1
  injection e2 with e2
  injection e3 with e3
  have e1 : a1 = b1 := Int.natCast_inj.mp e1
  have e3 : a3 = b3 := Int.natCast_inj.mp e3
  have e2 : a2 = b2 := by
    cases a2 <;> cases b2 <;> first | rfl | simp at e2
  rw [e1, e2, e3]
theorem map_inj' {α β : Type} {f : α → β} (hf : ∀ a b, f a = f b → a = b) : ∀ {l m : List α}, l.map f = m.map f → l = m
  | [], [], _ => rfl
  | [], _ :: _, h => by cases h
  | _ :: _, [], h => by cases h
  | a :: l, b :: m, h => by
    injection h with h1 h2
    rw [hf _ _ h1, map_inj' hf h2]
theorem keyS_inj {a b : MSt} (h : keyS a = keyS b) : a = b := by
  unfold keyS at h
  injection h with h
  injection h with e1 h
  injection h with e2 _
  injection e1 with e1
  injection e2 with e2
  have f1 : a.floor = b.floor := map_inj' (fun x y z => by injection z with z; exact Int.natCast_inj.mp z) e1
  have f2 : a.robots = b.robots := map_inj' (fun x y z => robK_inj z) e2
  cases a
  cases b
  simp only at f1 f2
  rw [f1, f2]
theorem depth_nums : ∀ l : List Nat, NestedKey.depthAll (l.map fun n : Nat => NestedKey.num n) = 0
  | [] => rfl
  | _ :: l => by
    rw [List.map_cons, NestedKey.depthAll, depth_nums l]
    rfl
theorem depth_robs : ∀ l : List Rob, NestedKey.depthAll (l.map robK) ≤ 1
  | [] => Nat.zero_le _
  | r :: l => by
    have e : (robK r).depth = 1 := rfl
    rw [List.map_cons, NestedKey.depthAll, e]
    exact Nat.max_le.mpr ⟨Nat.le_refl _, depth_robs l⟩
theorem depth_keyS (st : MSt) : (keyS st).depth ≤ 8 := by
  have h1 := depth_nums st.floor
  have h2 := depth_robs st.robots
  show NestedKey.depthAll [.tup (st.floor.map fun n : Nat => .num n), .tup (st.robots.map robK)] + 1 ≤ 8
  simp only [NestedKey.depthAll, NestedKey.depth]
  omega
/-- what is seen: the number of each state -/
def SeenI (f : Nat → MSt) (n : Nat) (kvs : List KvN) : Prop := kvs.map (fun x => (x.1, x.2.2)) = (List.range n).map fun i : Nat => (keyS (f i), V.int i)
theorem valN_map (kvs : List KvN) (k : NestedKey) : valN kvs k = ((kvs.map fun x => (x.1, x.2.2)).find? fun q => decide (q.1 = k)).map (·.2) := by
  unfold valN
  induction kvs with
  | nil => rfl
  | cons x l ih =>
    rw [List.map_cons, List.find?_cons, List.find?_cons]
    by_cases h : x.1 = k
    · simp [h]
    · simp only [h, decide_false]
      exact ih
theorem SeenI.hit {f : Nat → MSt} {n m s : Nat} {kvs : List KvN} (h : SeenI f n kvs) (nd : ∀ i j, i < j → j < n → f i ≠ f j) (hs : s < n) (e : f s = f m) : valN kvs (keyS (f m)) = some (V.int s) := by
  rw [valN_map, h, ← e]
  have : ((List.range n).map fun i : Nat => (keyS (f i), V.int i)).find? (fun q => decide (q.1 = keyS (f s))) = some (keyS (f s), V.int s) := by
    rw [List.find?_map]
    have : (List.range n).find? ((fun q : NestedKey × V => decide (q.1 = keyS (f s))) ∘ fun i : Nat => (keyS (f i), V.int i)) = some s := by
      rw [List.find?_range_eq_some]
      refine ⟨by simp, List.mem_range.mpr hs, fun j hj => ?_⟩
      simp only [Function.comp, Bool.not_eq_true', decide_eq_false_iff_not]
      exact fun z => nd j s hj hs (keyS_inj z)
    rw [this]
    rfl
  rw [this]
  rfl
theorem SeenI.miss {f : Nat → MSt} {n m : Nat} {kvs : List KvN} (h : SeenI f n kvs) (nd : ∀ i < n, f i ≠ f m) : valN kvs (keyS (f m)) = none := by
  rw [valN_map, h]
  have : ((List.range n).map fun i : Nat => (keyS (f i), V.int i)).find? (fun q => decide (q.1 = keyS (f m))) = none := by
    rw [List.find?_eq_none]
    intro x hx
    obtain ⟨i, hi, rfl⟩ := List.mem_map.mp hx
    simp only [decide_eq_true_eq]
    exact fun z => nd i (List.mem_range.mp hi) (keyS_inj z)
  rw [this]
  rfl
theorem SeenI.more {f : Nat → MSt} {n : Nat} {kvs : List KvN} {b : Addr} (h : SeenI f n kvs) : SeenI f (n + 1) (kvs ++ [(keyS (f n), b, V.int n)]) := by
  unfold SeenI at h ⊢
  rw [List.map_append, h, List.range_succ, List.map_append]
  rfl
end Sw

end

section
set_option maxRecDepth 100000
set_option maxHeartbeats 4000000
/-! which tiles are swept for ever: plain -/
namespace Sw
open PySem PySem.Spec PyProof.Rows L2 SwA
/-- rising lists with the same members are the same -/
theorem rise_eq : ∀ {a b : List Nat}, a.Pairwise (· < ·) → b.Pairwise (· < ·) → (∀ k, k ∈ a ↔ k ∈ b) → a = b
  | [], [], _, _, _ => rfl
  | [], y :: ys, _, _, h => absurd ((h y).mpr List.mem_cons_self) (by simp)
  | x :: xs, [], _, _, h => absurd ((h x).mp List.mem_cons_self) (by simp)
  | x :: xs, y :: ys, p, q, h => by
    obtain ⟨p1, p2⟩ := List.pairwise_cons.mp p
    obtain ⟨q1, q2⟩ := List.pairwise_cons.mp q
    have e : x = y := by
      rcases List.mem_cons.mp ((h x).mp List.mem_cons_self) with z | z
      · exact z
      · rcases List.mem_cons.mp ((h y).mpr List.mem_cons_self) with z2 | z2
        · exact z2.symm
        · have := q1 x z
          have := p1 y z2
          omega
    subst e
    rw [rise_eq p2 q2 fun k => ⟨fun hk => ?_, fun hk => ?_⟩]
    · rcases List.mem_cons.mp ((h k).mp (List.mem_cons_of_mem _ hk)) with z | z
      · have := p1 k hk
        omega
      · exact z
    · rcases List.mem_cons.mp ((h k).mpr (List.mem_cons_of_mem _ hk)) with z | z
      · have := q1 k hk
        omega
      · exact z
theorem nodup_le : ∀ (L : Nat) {l : List Nat}, l.Nodup → (∀ m ∈ l, m < L) → l.length ≤ L
  | 0, [], _, _ => Nat.le_refl _
  | 0, x :: xs, _, h => absurd (h x List.mem_cons_self) (by omega)
  | L + 1, l, nd, h => by
    by_cases hL : L ∈ l
    · have h1 := nodup_le L (l := l.erase L) (nd.erase L) fun m hm => by
        have h2 := (nd.mem_erase_iff).mp hm
        have := h m h2.2
        have := h2.1
        omega
      have h3 := List.length_erase_of_mem hL
      omega
    · have h1 := nodup_le L (l := l) nd fun m hm => by
        have := h m hm
        have : m ≠ L := fun z => hL (z ▸ hm)
        omega
      omega
/-- a set of numbers by its members -/
def SetIs (S : Int → Bool) (n : Nat) (l : List Nat) : Prop := l.Nodup ∧ n = l.length ∧ ∀ k : Int, S k = true ↔ ∃ m ∈ l, k = (m : Int)
theorem SetIs.none : SetIs (fun _ => false) 0 [] := ⟨List.nodup_nil, rfl, fun k => ⟨fun z => Bool.noConfusion z, fun ⟨m, z, _⟩ => absurd z (by simp)⟩⟩
theorem SetIs.add {S : Int → Bool} {n : Nat} {l : List Nat} (h : SetIs S n l) (c : Nat) : ∃ l', SetIs (fun j => S j || decide (j = (c : Int))) (if S (c : Int) = true then n else n + 1) l' ∧ ∀ m, m ∈ l' ↔ m ∈ l ∨ m = c := by
  obtain ⟨h1, h2, h3⟩ := h
  by_cases hc : c ∈ l
  · have hS : S (c : Int) = true := (h3 c).mpr ⟨c, hc, rfl⟩
    refine ⟨l, ⟨h1, by rw [if_pos hS]; exact h2, fun k => ?_⟩, fun m => ⟨.inl, fun z => z.elim id fun e => e ▸ hc⟩⟩
    rw [Bool.or_eq_true, decide_eq_true_eq, h3]
    exact ⟨fun z => z.elim id fun e => ⟨c, hc, e⟩, .inl⟩
  · have hS : ¬ S (c : Int) = true := fun z => by
      obtain ⟨m, hm, e⟩ := (h3 c).mp z
      have : c = m := by omega
      exact hc (this ▸ hm)
    refine ⟨c :: l, ⟨List.nodup_cons.mpr ⟨hc, h1⟩, by rw [if_neg hS, List.length_cons, h2], fun k => ?_⟩, fun m => by rw [List.mem_cons]; exact Or.comm⟩
    rw [Bool.or_eq_true, decide_eq_true_eq, h3]
    constructor
    · rintro (⟨m, hm, e⟩ | e)
      · exact ⟨m, List.mem_cons_of_mem _ hm, e⟩
      · exact ⟨c, List.mem_cons_self, e⟩
    · rintro ⟨m, hm, e⟩
      rcases List.mem_cons.mp hm with z | z
      · exact .inr (z ▸ e)
      · exact .inl ⟨m, z, e⟩
/-- the rising list of a set -/
theorem SetIs.list {S : Int → Bool} {n : Nat} {l : List Nat} (h : SetIs S n l) {ns : List Int} (hp : ns.Pairwise (· < ·)) (hm : ∀ k : Int, k ∈ ns ↔ S k = true) :
    ∃ ms : List Nat, ns = ms.map (fun m : Nat => (m : Int)) ∧ ms.Pairwise (· < ·) ∧ ∀ m, m ∈ ms ↔ m ∈ l := by
  have hk : ∀ k ∈ ns, 0 ≤ k := fun k hk => by
    obtain ⟨m, _, e⟩ := (h.2.2 k).mp ((hm k).mp hk)
    omega
  have e : ns = (ns.map Int.toNat).map (fun m : Nat => (m : Int)) := by
    rw [List.map_map]
    refine (List.map_id' ns).symm.trans (List.map_congr_left fun k hk' => ?_)
    have := hk k hk'
    show k = ((Int.toNat k : Nat) : Int)
    omega
  refine ⟨ns.map Int.toNat, e, ?_, fun m => ?_⟩
  · rw [List.pairwise_map]
    refine hp.imp_of_mem fun {a b} ha hb hab => ?_
    have := hk a ha
    have := hk b hb
    omega
  · rw [List.mem_map]
    constructor
    · rintro ⟨k, hk', rfl⟩
      obtain ⟨m, hm', e⟩ := (h.2.2 k).mp ((hm k).mp hk')
      have : k.toNat = m := by omega
      rw [this]
      exact hm'
    · intro hm'
      exact ⟨(m : Int), (hm _).mpr ((h.2.2 _).mpr ⟨m, hm', rfl⟩), by omega⟩
/-- the tiles that are swept again and again -/
def Lasts (pl : Plan) (ns : List Nat) : Prop := ns.Pairwise (· < ·) ∧ ∀ k, k ∈ ns ↔ ∀ t, ∃ u, t ≤ u ∧ k ∈ (tkN pl u).swept
theorem Lasts.unique {pl : Plan} {a b : List Nat} (h : Lasts pl a) (g : Lasts pl b) : a = b := rise_eq h.1 g.1 fun k => (h.2 k).trans (g.2 k).symm
theorem ever_of {pl : Plan} {n s : Nat} (h : Rep (stN pl) n s) (k : Nat) : (∀ t, ∃ u, t ≤ u ∧ k ∈ (tkN pl u).swept) ↔ ∃ u, s ≤ u ∧ u < n ∧ k ∈ (tkN pl u).swept := by
  have hlt := h.lt
  constructor
  · intro H
    obtain ⟨u, hu, hk⟩ := H s
    refine ⟨foldT n s u, ?_, foldT_lt hlt, by rw [tk_fold h]; exact hk⟩
    unfold foldT
    split <;> omega
  · rintro ⟨u, h1, h2, hk⟩ t
    have hz : 1 ≤ n - s := by omega
    refine ⟨u + (n - s) * t, ?_, by rw [tk_again h h1]; exact hk⟩
    have := Nat.mul_le_mul_right t hz
    omega
theorem lasts_of {pl : Plan} {n s : Nat} (h : Rep (stN pl) n s) {ns : List Nat} (hp : ns.Pairwise (· < ·)) (hm : ∀ k, k ∈ ns ↔ ∃ u, s ≤ u ∧ u < n ∧ k ∈ (tkN pl u).swept) : Lasts pl ns :=
  ⟨hp, fun k => (hm k).trans (ever_of h k).symm⟩
/-- swept at some time -/
theorem some_of {pl : Plan} {n s : Nat} (h : Rep (stN pl) n s) (k : Nat) : (∃ u, k ∈ (tkN pl u).swept) ↔ ∃ u, u < n ∧ k ∈ (tkN pl u).swept :=
  ⟨fun ⟨u, hk⟩ => ⟨foldT n s u, foldT_lt h.lt, by rw [tk_fold h]; exact hk⟩, fun ⟨u, _, hk⟩ => ⟨u, hk⟩⟩
theorem swept_lt {pl : Plan} (wf : WfP pl) {v k : Nat} (h : k ∈ (tkN pl v).swept) : k < pl.floor.length := by
  have h1 : k ∈ (stN pl v).robots.map (·.1) := h
  obtain ⟨r, hr, rfl⟩ := List.mem_map.mp h1
  exact (st_wf wf.rt v).ti r hr
theorem Lasts.lt {pl : Plan} (wf : WfP pl) {ns : List Nat} (h : Lasts pl ns) : ∀ k ∈ ns, k < pl.floor.length := fun k hk => by
  obtain ⟨u, _, hu⟩ := (h.2 k).mp hk 0
  exact swept_lt wf hu
theorem rise_nodup {a : List Nat} (h : a.Pairwise (· < ·)) : a.Nodup := h.imp fun h => Nat.ne_of_lt h
theorem Lasts.le {pl : Plan} (wf : WfP pl) {ns : List Nat} (h : Lasts pl ns) : ns.length ≤ pl.floor.length := nodup_le _ (rise_nodup h.1) (h.lt wf)
end Sw

end

section
set_option maxRecDepth 100000
set_option maxHeartbeats 4000000
/-! rules of tuples: enumerate, count -/
namespace SwA
open PySem PySem.Spec PyProof.Rows L2
section
variable {X : Cx}
/-! ### t.count(k) of a tuple of ints -/
def rCntT (K : PySem.W.Frag) : V → List V → Hp → VK → Prop := fun x xs H Q => ∃ (p : Addr) (ns : List Int) (k : Int), x = .ref p ∧ xs = [.int k] ∧ SqT K H p (ns.map V.int) ∧ Q (.int (ns.count k : Nat)) H
theorem mt_tcount : MtR X "tuple.count" (rCntT X.K) := by
  intro pins s σ H x xs v us Q I rx rxs h
  obtain ⟨p, ns, k, rfl, rfl, hs, q⟩ := h
  cases rx
  obtain ⟨u, rfl, ru⟩ := rxs.one
  obtain ⟨t, rfl⟩ := ru
  obtain ⟨its, rv, ⟨⟨cls, dd, data, sl⟩, ho, hc, n, hd⟩, hlen⟩ := I.tuple hs
  simp only at hc hd
  subst hc hd
  have hi := ints_of_vals rv
  refine call_meets PySem.F.slot_tuple_count ⟨_, ho, rfl⟩ PySem.F.entry_tuple_count (PySem.F.args_tuple_count_2 _ _)
    (SeqAt.tuple_countAt p its.toArray n dd sl (.int k t) (eqk k)) ⟨ho, fun y hy => (eqk_gives hi y (by simpa using hy)).at _ _, ?_⟩
  have ec : its.toArray.toList.countP (eqk k) = ns.count k := eqk_count hi
  refine ⟨.int (ns.count k : Nat), H, I.tok _, ⟨s.toks, ?_⟩, q⟩
  show Value.int ((its.toArray.toList.countP (eqk k) : Nat) : Int) s.toks = Value.int ((ns.count k : Nat) : Int) s.toks
  rw [ec]
end
/-! ### enumerate(t) of a tuple -/
open AutoSeq1 (wpAny_loadPart') in
theorem meets_enumerate_newT (l : Addr) (items : Array Value) :
    Meets (Builtin.«enumerate.__new__» ⟨[.type "enumerate", .ref l], []⟩) (fun _ R s => s.heap.IsTuple l items ∧
      R (.ok (.ret (.ref (s.heap.push { cls := .type "tuple_iterator", data := .fields #[.ref l, .int 0 0] }).objs.size)))
        { s with heap := (s.heap.push { cls := .type "tuple_iterator", data := .fields #[.ref l, .int 0 0] }).push { cls := .type "enumerate", data := .fields #[.none, .bool false, .ref s.heap.objs.size, rawInt 0, .none, .none] } }) :=
  .of_wp fun prog w A R s h => by
    obtain ⟨hp, g, d, tk, os⟩ := s; obtain ⟨hL, h⟩ := h
    have hsub := sub_enumerate
    have q1 : ∀ {A' : Around} {E : Value → Shared → Prop} {Q : Value → Shared → Prop}, Q (.ref hp.objs.size) ⟨hp.push { cls := .type "tuple_iterator", data := .fields #[.ref l, .int 0 0] }, g, d, tk, os⟩ → wpAny (model prog w) A' (pyIter (.ref l)) Q E ⟨hp, g, d, tk, os⟩ :=
      fun q => wpAny_pyIter_tuple hL q
    wp_walk using q1
    refine wpAny_stack_any fun st => wpAny_pure ?_
    split
    · rename_i c _ _ _ _ _
      cases (c == Value.type "enumerate")
      · wp_walk using q1
        exact ⟨_, rfl, h⟩
      · wp_walk using q1
        exact ⟨_, rfl, h⟩
    · wp_walk using q1
      exact ⟨_, rfl, h⟩
theorem call_enumerate_tuple {prog : Program} {w : World} {A : Around} {E : Value → Shared → Prop} {s : Shared} {l : Addr} {items : Array Value} {Q : Value → Shared → Prop} (hL : s.heap.IsTuple l items)
    (h : ∀ h', IsEnum h' (s.heap.objs.size + 1) s.heap.objs.size 0 .none → h'.IsTupleIter s.heap.objs.size l 0 → h'.objs.size = s.heap.objs.size + 2 →
      (∀ b o, s.heap.get? b = some o → h'.get? b = some o) → Q (.ref (s.heap.objs.size + 1)) { s with heap := h' }) :
    wpAny (model prog w) A (call (.type "enumerate") [.ref l]) Q E s := by
  refine callType_new F.called_enumerate (by decide) (F.typeCall_enumerate_1 _) (F.newCall_enumerate_1 _) (fun obj => F.args_object_init_2 obj _) F.entry_enumerate_new
    (meets_enumerate_newT l items) ⟨hL, ?_⟩
  have hz : (s.heap.push { cls := .type "tuple_iterator", data := .fields #[.ref l, .int 0 0] }).objs.size = s.heap.objs.size + 1 := Heap.size_push ..
  show _ ∧ _
  rw [hz]
  have he : IsEnum ((s.heap.push { cls := .type "tuple_iterator", data := .fields #[.ref l, .int 0 0] }).push
      { cls := .type "enumerate", data := .fields #[.none, .bool false, .ref s.heap.objs.size, rawInt 0, .none, .none] }) (s.heap.objs.size + 1) s.heap.objs.size 0 .none := by
    have := Heap.get?_push_size (s.heap.push { cls := .type "tuple_iterator", data := .fields #[.ref l, .int 0 0] })
      (o := { cls := .type "enumerate", data := .fields #[.none, .bool false, .ref s.heap.objs.size, rawInt 0, .none, .none] }) rfl
    rw [hz] at this; exact this
  refine ⟨⟨_, he, rfl⟩, h _ he ⟨_, Heap.get?_push_of_some _ (Heap.get?_push_size _ rfl), rfl, rfl⟩ (by rw [Heap.size_push, hz]) fun b o x => Heap.get?_push_of_some _ (Heap.get?_push_of_some _ x)⟩
/-- the tuple at a, each item in a new pair -/
def ItET (K : PySem.W.Frag) (a : Addr) : It :=
  ⟨fun i H => ∃ (xs : List V) (x : V), SqT K H a xs ∧ xs[i]? = some x, fun i H v H' => ∃ T x, v = .ref T ∧ H T = none ∧ H' = upd H T (.tup [.int (i : Nat), x]) ∧ ∀ xs, SqT K H a xs → xs[i]? = some x, fun i H => ∃ xs : List V, SqT K H a xs ∧ xs.length = i⟩
theorem turn_enumT {P : Program} {w : World} {K : PySem.W.Frag} {elts : List Expr} {kk : Nat} {tpos : Pos} (a e it : Addr) (hai : a ≠ it) (hae : a ≠ e) :
    Turn P w K (.Tuple elts kk tpos) (ItET K a) [e, it] e (fun i h => (∃ old, IsEnum h e it ((i : Nat) : Int) old) ∧ h.IsTupleIter it a i ∧ e ≠ it) where
  mem := by simp
  obj := fun i h st b hb => by
    obtain ⟨⟨old, he⟩, ⟨o, ho, hc, hd⟩, _⟩ := st
    have e' : b = e ∨ b = it := by simpa using hb
    rcases e' with z | z
    · rw [z]; exact ⟨_, he, fun v q => nomatch q⟩
    · rw [z]; exact ⟨o, ho, fun v q => by rw [hd] at q; cases q⟩
  keep := fun i h h' st k => let ⟨⟨old, he⟩, hi, hne⟩ := st; ⟨⟨old, k e (by simp) _ he⟩, hi.at fun o q => k it (by simp) o q, hne⟩
  item := by
    intro X hP hw hK hc i pins s σ H E I hf st hg
    subst hP hw hK
    obtain ⟨⟨old, he⟩, hit, hne⟩ := st
    obtain ⟨xs, x, hq, hx⟩ := hg
    obtain ⟨its, rv, p, hz⟩ := I.tuple hq
    obtain ⟨u, hu, ru⟩ := rv.get hx
    have hel : e < s.heap.objs.size := Heap.lt_size he
    have hil : it < s.heap.objs.size := by obtain ⟨_, q, _⟩ := hit; exact Heap.lt_size q
    have hui : i < its.toArray.size := by rw [List.size_toArray]; exact (List.getElem?_eq_some_iff.mp hu).1
    have D := Draws.tuple (prog := X.prog) (w := X.w) (A := X.A.in1) (I.ok.hd hc) it a hai its.toArray
    refine wpAny_pyNext_enum_itemD D he ⟨hit, p⟩ hui hne (by simp; exact ⟨hne, fun z => hae z.symm⟩) fun y h' tk hy ho hit' hT hsz hk => ?_
    have ey : y = u := by
      have e1 : its.toArray[i]? = some u := by simpa using hu
      rw [e1] at hy
      exact (Option.some.inj hy).symm
    subst ey
    refine ⟨_, rfl, wpAny_letOwnedTupleGo_enum (s := { s with heap := h', toks := tk + 1 }) ho fun h'' he' sb => ?_⟩
    have hT2 : h''.get? s.heap.objs.size = some { cls := .type "tuple", data := .seq #[.int i tk, y] } := (sb.2 _ (Nat.ne_of_gt hel)).trans hT
    have new : ObjOk X.prog X.w (upd H s.heap.objs.size (.tup [.int (i : Nat), x])) h'' s.heap.objs.size (.tup [.int (i : Nat), x]) :=
      ⟨by show 2 ≤ sizeLine; decide, [.int i tk, y], .cons ⟨_, rfl⟩ (.cons ru .nil), ⟨_, hT2, rfl, _, rfl⟩⟩
    have I1 : Inv X pins σ (upd H s.heap.objs.size (.tup [.int (i : Nat), x])) { s with heap := h'', toks := tk + 1 } :=
      I.turnedNew (ch := [e, it]) (fun b ob hb q => (sb.2 b (fun z => hb (by simp [z]))).trans (hk b ob (fun z => hb (by simp [z])) (fun z => hb (by simp [z])) q)) hf (Nat.le_refl _) new
    refine ⟨.ref s.heap.objs.size, _, I1, rfl, ⟨_, x, rfl, I.hok.fresh (Nat.le_refl _), rfl, fun ys hy => by rw [I.tuple_inj hy hq]; exact hx⟩, ⟨⟨y, ?_⟩, hit'.1.at fun o q => (sb.2 it (Ne.symm hne)).trans q, hne⟩, fun b hb => ?_⟩
    · have e1 : ((i + 1 : Nat) : Int) = (i : Int) + 1 := by omega
      rw [e1]; exact he'
    · have hb' : b < s.heap.objs.size := by
        have e' : b = e ∨ b = it := by simpa using hb
        rcases e' with z | z
        · rw [z]; exact hel
        · rw [z]; exact hil
      rw [upd_ne (Nat.ne_of_lt hb')]
      exact (hf b hb).1
  done := by
    intro X hP hw hK hc i pins s σ H E I hf st hg
    subst hP hw hK
    obtain ⟨⟨old, he⟩, hit, hne⟩ := st
    obtain ⟨xs, hq, hx⟩ := hg
    obtain ⟨its, rv, p, hz⟩ := I.tuple hq
    obtain ⟨f0, f1, f2, f3, f4, f5⟩ := hf it (by simp)
    have hl := rv.length
    have D := Draws.tuple (prog := X.prog) (w := X.w) (A := X.A.in1) (I.ok.hd hc) it a hai its.toArray
    have ei : its.toArray.size = i := by rw [List.size_toArray]; omega
    exact wpAny_pyNext_enum_endD D he ⟨by rw [ei]; exact hit, p⟩ fun h' eb => ⟨rfl, I.turned (t' := s.toks) (fun b o hb q => eb b o hb q) f0 f1 f3 f4 f5⟩
  self := fun A i s Q E st h => let ⟨⟨_, he⟩, _⟩ := st; wpAny_pyIter_enum he h
def iEnumT (K : PySem.W.Frag) (ta : TA) : TI := fun σ H R => ta σ H fun vs H1 => ∃ a xs, vs = [.ref a] ∧ SqT K H1 a xs ∧ R (ItET K a) H1
theorem pi_enumT {X : Cx} {e : Expr} {ta : TA} {p pos tpos : Pos} {elts : List Expr} {kk : Nat} (hg : Gl X "enumerate") (hm : X.mg "enumerate" = none) (ha : PA X [e] ta) (hs : starEach [e] X.env = [(false, eval e X.env)] := by rfl) :
    PI X (.Tuple elts kk tpos) (.Call (.Name "enumerate" p) [e] [] pos) (iEnumT X.K ta) := by
  refine ⟨fun pins s σ H R I h => ?_⟩
  refine Call_ (ld_blt I hg hm boot_enumerate (PyProof.Rows.callWith_type1 (thn (ha.run pos pins s σ H _ I h) fun us s1 ⟨vs, H1, I1, r1, q1⟩ => ?_) hs rfl))
  obtain ⟨a, xs, ex, hq, q⟩ := q1
  subst ex
  cases r1 with
  | cons r rr =>
    cases rr
    cases r
    obtain ⟨its, rv, p', hz⟩ := I1.tuple hq
    have hal : a < s1.heap.objs.size := by obtain ⟨_, z, _⟩ := p'; exact Heap.lt_size z
    refine call_enumerate_tuple (items := its.toArray) p' fun h' he hit hsz hk => wpAny_pyIter_enum he ?_
    have I2 : Inv X pins σ H1 { s1 with heap := h' } := I1.kept (t' := s1.toks) hk
    refine ⟨s1.heap.objs.size + 1, [s1.heap.objs.size + 1, s1.heap.objs.size], _, _, H1, rfl, I2, turn_enumT a (s1.heap.objs.size + 1) s1.heap.objs.size (Nat.ne_of_lt hal) (Nat.ne_of_lt (Nat.lt_succ_of_lt hal)), ⟨⟨.none, he⟩, hit, Nat.succ_ne_self _⟩, fun b hb => ?_, q⟩
    have e' : b = s1.heap.objs.size + 1 ∨ b = s1.heap.objs.size := by simpa using hb
    have hle : s1.heap.objs.size ≤ b := by
      rcases e' with z | z
      · rw [z]; exact Nat.le_add_right _ _
      · rw [z]; exact Nat.le_refl _
    exact I1.fpOk hle (I1.hok.fresh hle)
/-! ### match upon a tuple: a written text ahead, names behind -/
inductive Caps (X : Cx) : List Pattern → List (Str × Nat) → Prop
  | nil : Caps X [] []
  | cons {x : Str} {i : Nat} {p : Pos} {ps : List Pattern} {xs : List (Str × Nat)} (hi : X.N[i]? = some x) (hx : Loc X.env.scope x) (hf : X.fn x = true ∨ X.env.scope.names.lookup x = some .local) (t : Caps X ps xs) :
      Caps X (.MatchAs none (some x) p :: ps) ((x, i) :: xs)
def setAll : L2.St → List (Str × Nat) → List V → L2.St
  | σ, (_, i) :: r, v :: vs => setAll (σ.set i (some v)) r vs
  | σ, _, _ => σ
def capB : List (Str × Nat) → List Value → List (Str × Value)
  | (x, _) :: r, u :: us => (x, u) :: capB r us
  | _, _ => []
theorem matchEach_caps {X : Cx} {M : Model} {A : Around} {E : Value → Shared → Prop} {s : Shared} : ∀ {ps : List Pattern} {xs : List (Str × Nat)} {us : List Value} {Q : Option (List (Str × Value)) → Shared → Prop}, Caps X ps xs → us.length = ps.length → Q (some (capB xs us)) s → wpAny M A (matchEach ps X.env us) Q E s
  | _, _, [], _, .nil, _, h => wpAny_matchEach_nil h
  | _, _, u :: us, Q, .cons hi hx hf t, hl, h => by
    refine wpAny_matchEach_cons (wpAny_matchPattern_Capture ?_)
    refine matchEach_caps t (by simpa using hl) ?_
    exact h
theorem assign_caps {X : Cx} {M : Model} {A : Around} {E : Value → Shared → Prop} (hN : X.N.Nodup) {pins : List (Addr × Obj)} {H : Hp} : ∀ {ps : List Pattern} {xs : List (Str × Nat)} {us : List Value} {vs : List V} {s : Shared} {σ : L2.St} {Q : Unit → Shared → Prop}, Caps X ps xs → us.length = ps.length → Vals vs us → Inv X pins σ H s →
    (∀ s', Inv X pins (setAll σ xs vs) H s' → Q () s') → wpAny M A (assignInOrder ((capB xs us).map fun (n, _) => bindName X.env n) ((capB xs us).map (·.2))) Q E s
  | _, _, [], _, _, _, _, .nil, _, .nil, I, h => wpAny_assignInOrder_none (h _ I)
  | _, _, u :: us, _, s, σ, Q, .cons hi hx hf t, hl, .cons r rr, I, h => by
    refine wpAny_assignInOrder_more ?_
    refine wpAny_bindName (store_ok I hN hi hx r (fun s' I' => ?_) hf)
    exact assign_caps hN t (by simpa using hl) rr I' h
def tCaseQ (K : PySem.W.Frag) (z : Str) (xs : List (Str × Nat)) (tb : TS) (tr : V → TS) : V → TS := fun v D σ H => ∃ a y ys, v = .ref a ∧ SqT K H a (.str y :: ys) ∧
  (y = z ∧ ys.length = xs.length → tb D (setAll σ xs ys) H) ∧ (¬ (y = z ∧ ys.length = xs.length) → tr v D σ H)
theorem Caps.len {X : Cx} : ∀ {ps : List Pattern} {xs : List (Str × Nat)}, Caps X ps xs → ps.length = xs.length
  | _, _, .nil => rfl
  | _, _, .cons _ _ _ t => by simp [t.len]
theorem pms_seq {X : Cx} {z : Str} {k : Nat} {ps : List Pattern} {xs : List (Str × Nat)} {body : List Stmt} {rest : List MatchCase} {tb : TS} {tr : V → TS} {p1 p2 p3 : Pos} (hc : X.calm = true) (hN : X.N.Nodup) (hp : Caps X ps xs) (hb : PSs X body tb) (hr : PMs X rest tr)
    (hstar : ((.MatchValue (.Constant (.str z) k p1) p2 : Pattern) :: ps).findIdx? (·.isStar) = none := by rfl)
    (hwild : (((.MatchValue (.Constant (.str z) k p1) p2 : Pattern) :: ps).all fun p => p.isWildcard || (p.isStar && p.names.isEmpty)) = false := by rfl) :
    PMs X (⟨.MatchSequence (.MatchValue (.Constant (.str z) k p1) p2 :: ps) p3, none, body⟩ :: rest) (tCaseQ X.K z xs tb tr) := by
  refine ⟨fun pins s σ H D v u first I r h => ?_⟩
  obtain ⟨a, y, ys, ev, hs, h1, h2⟩ := h
  subst ev
  cases r
  obtain ⟨its, rv, ht, hz⟩ := I.tuple hs
  have hlen := rv.length
  have hfit : (its.toArray.size : Int) < 2 ^ 63 := by
    rw [sizeLine_eq] at hz
    simp only [List.size_toArray]
    omega
  have hpl := hp.len
  refine wpAny_matchCases_cons ?_
  by_cases e : its.length = ps.length + 1
  · refine matchSeq_tuple_hit ht hfit (by simpa using e) ?_ hstar hwild
    have en : ((.MatchValue (.Constant (.str z) k p1) p2 : Pattern) :: ps).length = its.toArray.size := by simpa using e.symm
    rw [en]
    have I0 : Inv X pins σ H { s with toks := s.toks + 1 + 1 } := I.tok _
    refine unpackItems_tuple (s := { s with toks := s.toks + 1 + 1 }) (I.ok.hd hc) ht fun h' hx => ?_
    have I1 : Inv X pins σ H { s with heap := h', toks := s.toks + 1 + 1 } := I0.kept (t' := s.toks + 1 + 1) fun b o e => hx b o (Nat.ne_of_lt (Heap.lt_size e)) e
    cases rv with
    | @cons _ u0 _ ur r0 rr =>
      obtain ⟨tt, rfl⟩ := r0
      have hur : ur.length = ps.length := by simpa using e
      have hyl : ys.length = xs.length := by
        have := rr.length
        omega
      refine wpAny_matchEach_cons (wpAny_matchPattern_Value ?_)
      refine thn ((pe_str (X := X) (x := z) (j := k) (pos := p1)).run pins _ σ H (fun x H' => x = .str z ∧ H' = H) I1 ⟨rfl, rfl⟩) fun zv s1 ⟨x, H1, I1', rz, ex, eh⟩ => ?_
      subst ex
      subst eh
      refine thn (op_eq pins s1 σ H1 (.str y) (.str z) (.str y tt) zv (fun x H' => x = .bl (decide (V.str y = V.str z)) ∧ H' = H1) I1' ⟨tt, rfl⟩ rz ⟨rfl, rfl, rfl⟩) fun c s2 ⟨x, H2, I2, rc, ex, eh⟩ => ?_
      subst ex
      subst eh
      obtain rfl : c = Value.bool (decide (V.str y = V.str z)) := rc
      refine wpAny_truthy_bool ?_
      by_cases eq : y = z
      · have d : decide (V.str y = V.str z) = true := decide_eq_true (by rw [eq])
        rw [d]
        refine matchEach_caps hp hur ?_
        refine assign_caps hN hp hur rr I2 fun s' I' => ?_
        exact hb.run pins s' _ H2 D I' (h1 ⟨eq, hyl⟩)
      · have d : decide (V.str y = V.str z) = false := decide_eq_false (fun q => eq (V.str.inj q))
        rw [d]
        exact hr.run pins s2 σ H2 D (.ref a) _ false I2 rfl (h2 fun q => eq q.1)
  · refine matchSeq_tuple_miss ht hfit (by simpa using e) ?_ hstar hwild
    refine hr.run pins _ σ H D (.ref a) _ false (I.tok _) rfl (h2 fun q => e ?_)
    have := q.2
    simp only [List.length_cons] at hlen
    omega
/-! ### a tuple with no dict, whose methods can be asked -/
def TupN (H : Hp) (a : Addr) (xs : List V) : Prop := ∃ o : Obj, o.cls = .type "tuple" ∧ o.dict = none ∧ H a = some (.frz o (.tup xs))
theorem TupN.sq {K : PySem.W.Frag} {H : Hp} {a : Addr} {xs : List V} (h : TupN H a xs) : SqT K H a xs := let ⟨o, _, _, e⟩ := h; .inl (.inr ⟨o, e⟩)
theorem TupN.mono {H H' : Hp} {a : Addr} {xs : List V} (s : ∀ o, H a = some (.frz o (.tup xs)) → H' a = some (.frz o (.tup xs))) (h : TupN H a xs) : TupN H' a xs := let ⟨o, c, d, e⟩ := h; ⟨o, c, d, s o e⟩
section
variable {X : Cx} {a : Expr} {ta : TE}
def kTupN (K : PySem.W.Frag) (x : V) (H : Hp) (Q : VK) : Prop := ∃ p xs, x = .ref p ∧ SqL K H p xs ∧ ∀ (q : Addr) (o : Obj), H q = none → o.cls = .type "tuple" → o.dict = none → Q (.ref q) (upd H q (.frz o (.tup xs)))
theorem rl_tupleN (pins : List (Addr × Obj)) (s : Shared) (σ : L2.St) (H : Hp) (x : V) (v : Value) (Q : VK) (I : Inv X pins σ H s) (r : RelV x v) (h : kTupN X.K x H Q) :
    wpAny (model X.prog X.w) X.A (call (.type "tuple") [v]) (EP X pins σ Q) X.xe s := by
  obtain ⟨p, xs, rfl, hs, q⟩ := h
  obtain rfl : v = .ref p := r
  obtain ⟨its, rv, pl, hz⟩ := I.list hs
  refine call_tuple_list pl.isList (fun h' hk => ?_) (by rw [List.size_toArray, ← rv.length]; exact hz)
  have I1 : Inv X pins σ H { s with heap := h' } := I.kept (t' := s.toks) hk
  have ob : (h'.push { cls := .type "tuple", data := .seq its.toArray }).get? h'.objs.size = some { cls := .type "tuple", data := .seq its.toArray } := Heap.get?_push_size _ rfl
  have I2 : Inv X pins σ (upd H h'.objs.size (.frz { cls := .type "tuple", data := .seq its.toArray } (.tup xs))) { s with heap := h'.push { cls := .type "tuple", data := .seq its.toArray } } :=
    I1.laid (t' := s.toks) (fun b o e => Heap.get?_push_of_some _ e) (Nat.le_refl _) (show ObjOk X.prog X.w _ _ _ (.frz _ (.tup xs)) from ⟨ob, hz, its, rv, IsTup.new _ _⟩)
  exact ⟨.ref h'.objs.size, _, I2, rfl, q _ _ (I1.hok.fresh (Nat.le_refl _)) rfl rfl⟩
theorem pe_tupleOfN {p pos : Pos} (hg : Gl X "tuple") (hm : X.mg "tuple" = none) (ha : PE X a ta) (na : starEach [a] X.env = (false, eval a X.env) :: starEach [] X.env := by rfl) :
    PE X (.Call (.Name "tuple" p) [a] [] pos) (tThen ta (kTupN X.K)) := by
  refine ⟨fun pins s σ H Q I h => ?_⟩
  exact Call_ (ld_blt I hg hm boot_tuple (PyProof.Rows.callWith_type1 (one_arg ha I h (fun v s2 x H2 I2 r q => rl_tupleN pins s2 σ H2 x v Q I2 r q) na) na))
variable {o e : Expr} {es : List Expr} {to : TE} {t : TA} {name : Str} {apos cpos : Pos} {id : String} {r : V → List V → Hp → VK → Prop}
def tBMN (r : V → List V → Hp → VK → Prop) (to : TE) (t : TA) : TE := fun σ H Q => to σ H fun x H1 => (∃ p xs, x = .ref p ∧ TupN H1 p xs) ∧ t σ H1 fun xs H2 => r x xs H2 Q
theorem pe_bmN (slot : Slot "tuple" name id) (hty : typeOf (.builtin id) = pure (.type "method_descriptor")) (hm : MtR X id r) (ho : PE X o to) (ha : PA X (e :: es) t)
    (hbase : attributeBase o name X.env (eval o X.env) = eval o X.env := by rfl)
    (hfew : ((backTo cpos (starEach (e :: es) X.env)).all (fun x => !x.1) && (backToKw cpos (keywordEach [] X.env)).all (fun x => x.1.isSome)
      && decide ((e :: es).length + ([] : List Keyword).length + (if ([] : List Keyword).isEmpty then 0 else 1) < 30)) = true := by rfl)
    (hline : (apos.endLine == cpos.line) = true := by rfl) (hs : starEach (e :: es) X.env = (false, eval e X.env) :: starEach es X.env := by rfl) (hplain : (backTo cpos (starEach es X.env)).any (·.1) = false := by rfl) :
    PE X (.Call (.Attribute o name apos) (e :: es) [] cpos) (tBMN r to t) := by
  refine ⟨fun pins s σ H Q I h => ?_⟩
  refine wpAny_Call_method_late hbase hfew hline rfl (thn (ho.run pins s σ H _ I h) fun v s1 ⟨x, H1, I1, r1, ⟨p, xs, ex, tn⟩, q1⟩ => ?_)
  subst ex
  obtain rfl : v = .ref p := r1
  obtain ⟨ob, oc, od, eH⟩ := tn
  obtain ⟨eo, _⟩ := I1.hok p _ eH
  refine ⟨"tuple", id, PySem.F.plainAttrs_tuple, slot, hty, ⟨ob, eo, oc⟩, fun b eb => ?_, ?_⟩
  · cases eb
    exact ⟨ob, eo, od⟩
  have hA := ha.run cpos pins s1 σ H1 _ I1 q1
  rw [hs] at hA ⊢
  refine Calls.callWith_builtin (by show (false || (backTo cpos (starEach es X.env)).any (·.1)) = false; rw [hplain] <;> rfl) (Calls.evalArgs_plain ?_)
  exact thn hA fun us s2 ⟨vs, H2, I2, r2, q2⟩ => hm pins s2 σ H2 (.ref p) vs (.ref p) us Q I2 rfl r2 q2
end
end SwA
namespace SwA
open PySem PySem.Spec PyProof.Rows L2
/-! ### l == [], l != [] -/
section
variable {X : Cx}
def rEqNil (K : PySem.W.Frag) : R2 := fun x y H Q => ∃ a b xs, x = .ref a ∧ y = .ref b ∧ SqL K H a xs ∧ SqL K H b [] ∧ Q (.bl (decide (xs = []))) H
def rNeNil (K : PySem.W.Frag) : R2 := fun x y H Q => ∃ a b xs, x = .ref a ∧ y = .ref b ∧ SqL K H a xs ∧ SqL K H b [] ∧ Q (.bl (!decide (xs = []))) H
theorem op_eqNil (hu : X.A.units < cLine) : OpR X (compareOp .Eq) (rEqNil X.K) := by
  intro pins s σ H x y v u Q I rx ry h
  obtain ⟨a, b, xs, rfl, rfl, ha, hb, q⟩ := h
  cases rx
  cases ry
  obtain ⟨its, rv, p, hz⟩ := I.list ha
  obtain ⟨its2, rv2, p2, hz2⟩ := I.list hb
  cases rv2
  show wpAny _ _ (richCompare .Eq (.ref a) (.ref b)) _ _ _
  cases rv with
  | nil =>
    refine SeqAt.RcAt.lists (e := fun _ => true) p.isList p2.isList rfl hu (fun j h1 h2 => absurd h1 (Nat.not_lt_zero _)) _ _ _ _ ?_
    exact ⟨.bl true, H, I, rfl, q⟩
  | cons r rr =>
    refine SeqAt.RcAt.lists_lengths p.isList p2.isList (by simp) hu _ _ _ _ ?_
    exact ⟨.bl false, H, I, rfl, q⟩
theorem op_neNil (hu : X.A.units < cLine) : OpR X (compareOp .NotEq) (rNeNil X.K) := by
  intro pins s σ H x y v u Q I rx ry h
  obtain ⟨a, b, xs, rfl, rfl, ha, hb, q⟩ := h
  cases rx
  cases ry
  obtain ⟨its, rv, p, hz⟩ := I.list ha
  obtain ⟨its2, rv2, p2, hz2⟩ := I.list hb
  cases rv2
  show wpAny _ _ (richCompare .NotEq (.ref a) (.ref b)) _ _ _
  cases rv with
  | nil =>
    refine SeqAt.RcNeAt.lists (e := fun _ => true) p.isList p2.isList rfl hu (fun j h1 h2 => absurd h1 (Nat.not_lt_zero _)) _ _ _ _ ?_
    exact ⟨.bl false, H, I, rfl, q⟩
  | cons r rr =>
    refine SeqAt.RcNeAt.lists_lengths p.isList p2.isList (by simp) hu _ _ _ _ ?_
    exact ⟨.bl true, H, I, rfl, q⟩
end
theorem hu0 {A : Around} {k : Nat} (hr : Room k A) : A.units < cLine := by
  have := hr.units
  omega
end SwA

end

section
set_option maxRecDepth 100000
set_option maxHeartbeats 4000000
/-! the errors' classes -/
namespace Sw
open PySem PySem.Spec PyProof.Rows L2 SwA
/-- a def of the text, as it stands behind the top -/
abbrev FD (K : PySem.W.Frag) (p : Str × Option Str) (x q : Str) (st : Stmt) : Prop := ∃ fd, FunD K x q (defArgs st) (defBody st) (defScope st) [] [] (He.fAd K p) fd
/-- it keeps a promise -/
def FnE (P : Program) (w : World) (K : PySem.W.Frag) (mg : Str → Option Value) (base : Heap) (CX : CXT) (k : Nat) (p : Str × Option Str) (ps : List Str) (sp : Sp) : Prop :=
  ∃ fd, FnOk P w K mg base CX k (He.fAd K p) fd ps sp ∧ Binds K fd ps [] ∧ PySem.W.keepIn K (.ref (He.fAd K p)) = true
/-- an error's class with an __init__ of its own, its fields -/
structure ExcC (K : PySem.W.Frag) (mg : Str → Option Value) (x : Str) (fields : List Str) : Prop where
  g : mg x = some (.ref (He.ga K x))
  o : OexC K (He.ga K x)
  i : PySem.W.findIn K (.ref (He.ga K x)) "__init__" = some (some (.ref (He.ma K (He.ga K x) "__init__")))
  t : PySem.W.typeIn K (.ref (He.ma K (He.ga K x) "__init__")) = some (.type "function")
  n : ∀ f ∈ fields, PySem.W.findIn K (.ref (He.ga K x)) f = some none
theorem excCB_ok {K : PySem.W.Frag} {h : Heap} {mg : Str → Option Value} (X : K.In h) (G : h.Ns mainGlobals mg) {x : Str} {fields : List Str} (c : excCB K x fields = true) : ExcC K mg x fields := by
  obtain ⟨c1, c⟩ := He.ba c
  obtain ⟨c2, c⟩ := He.ba c
  obtain ⟨c3, c⟩ := He.ba c
  obtain ⟨c4, c5⟩ := He.ba c
  exact ⟨He.glo_ok X G c1, oexB_ok c2, He.eqO_ok c3, of_decide_eq_true c4, fun f hf => He.eqO_ok (List.all_eq_true.mp c5 f hf)⟩
/-- SweepError, whose __init__ is ValueError's -/
structure BaseT (K : PySem.W.Frag) (mg : Str → Option Value) : Prop where
  g : mg "SweepError" = some (.ref (He.ga K "SweepError"))
  cr : ClX.CRead K (He.ga K "SweepError") (.type "type")
  vv : PySem.W.findCls K (.ref (He.ga K "SweepError")) (.type "type") "__init__" = some (.val (.builtin "ValueError.__init__"))
structure ErrT (K : PySem.W.Frag) (mg : Str → Option Value) : Prop where
  base : BaseT K mg
  syn : ExcC K mg "SyntaxFault" ["line", "column"]
  d_syn : FD K ("SyntaxFault", some "__init__") "__init__" "SyntaxFault.__init__" s_SyntaxFault_init
section
variable {P : Program} {w : World} {K : PySem.W.Frag} {mg : Str → Option Value} {base : Heap}
theorem sc_syn : FnScope ["self", "line", "column"] ["self", "line", "column"] (defScope s_SyntaxFault_init) := ⟨rfl, rfl, rfl, by decide +kernel, rfl, by decide +kernel, by decide +kernel⟩
theorem ok_syn (T : ErrT K mg) : FnE P w K mg base CX0 1 ("SyntaxFault", some "__init__") ["self", "line", "column"] (spFault (He.ga K "SyntaxFault") ["line", "column"]) := by
  obtain ⟨fd, F⟩ := T.d_syn
  refine ⟨fd, F.ok sc_syn (fun vs H Q E h => ?_) (fun cdv A outer s H vs Q E hr h => ?_), F.bindsN fun _ _ _ _ _ _ us hl => match us, hl with | [_, _, _], _ => rfl, F.kp⟩
  · obtain ⟨a, args, rfl, e, _⟩ := h
    simp [e]
  · obtain ⟨a, args, rfl, e, ha, k⟩ := h
    obtain ⟨v1, v2, rfl⟩ : ∃ v1 v2, args = [v1, v2] := by
      match args, e with
      | [v1, v2], _ => exact ⟨v1, v2, rfl⟩
    refine ⟨_, PSs.nox (pss_cons (ps_expr (pe_ownveinit rfl T.base.g T.base.cr T.base.vv (pa_cons (pv 0) (pa_cons (pv 1) (pa_cons (pv 2) pa_nil)))))
      (pss_cons (ps_ost (pv 0) (pv 1)) (pss_one (ps_ost (pv 0) (pv 2))))), ?_⟩
    refine ⟨_, rfl, _, rfl, _, rfl, a, _, _, rfl, by simp, T.syn.o, ha, ?_⟩
    refine ⟨_, rfl, _, rfl, a, _, rfl, T.syn.o, T.syn.n _ (by simp), Or.inl ⟨ha, fun dx ndx da => ?_⟩⟩
    refine ⟨_, rfl, _, rfl, a, _, rfl, T.syn.o, T.syn.n _ (by simp), Or.inr ⟨dx, _, upd_same, by rw [upd_ne da, upd_same], by simp, ?_⟩⟩
    exact k dx _ ndx da (by rw [upd_ne (Ne.symm da), upd_same]) upd_same fun b h1 h2 => by rw [upd_ne h2, upd_ne h1, upd_ne h2]
end
end Sw

end

section
set_option maxRecDepth 100000
set_option maxHeartbeats 4000000
/-! the lexer, walked -/
namespace Sw
open PySem PySem.Spec PyProof.Rows L2 SwA
/-- a class whose __init__ stores its arguments -/
structure MkC (K : PySem.W.Frag) (mg : Str → Option Value) (x : Str) (fields : List Str) : Prop where
  g : mg x = some (.ref (He.ga K x))
  m : Mk K (He.ga K x) (He.ma K (He.ga K x) "__init__")
  c : Cls K (He.ga K x)
  n : ∀ f ∈ fields, NoAttr K (He.ga K x) f
theorem mkCB_ok {K : PySem.W.Frag} {h : Heap} {mg : Str → Option Value} (X : K.In h) (G : h.Ns mainGlobals mg) {x : Str} {fields : List Str} (c : mkCB K x fields = true) : MkC K mg x fields := by
  obtain ⟨c1, c⟩ := He.ba c
  obtain ⟨c2, c⟩ := He.ba c
  obtain ⟨c3, c4⟩ := He.ba c
  exact ⟨He.glo_ok X G c1, He.mkr_ok c2, He.cls_ok c3, fun f hf => He.noat_ok (List.all_eq_true.mp c4 f hf)⟩
structure LexT (K : PySem.W.Frag) (mg : Str → Option Value) : Prop where
  e : ErrT K mg
  len : mg "len" = none
  enumerate : mg "enumerate" = none
  tok : MkC K mg "Token" tokF
  d_tok : FD K ("Token", some "__init__") "__init__" "Token.__init__" s_Token_init
  d_run_end : FD K ("run_end", none) "run_end" "run_end" s_run_end
  g_run_end : mg "run_end" = some (.ref (He.ga K "run_end"))
  d_read_token : FD K ("read_token", none) "read_token" "read_token" s_read_token
  g_read_token : mg "read_token" = some (.ref (He.ga K "read_token"))
  d_tokenize : FD K ("tokenize", none) "tokenize" "tokenize" s_tokenize
  g_tokenize : mg "tokenize" = some (.ref (He.ga K "tokenize"))
  SIGNS : ∃ t, mg "SIGNS" = some (.str ";" t)
  DIGITS : ∃ t, mg "DIGITS" = some (.str "0123456789" t)
  LETTERS : ∃ t, mg "LETTERS" = some (.str "abcdefghijklmnopqrstuvwxyz" t)
  SPACES : ∃ t, mg "SPACES" = some (.str " \n" t)
  SIGN : ∃ t, mg "SIGN" = some (.str "sign" t)
  NUMBER : ∃ t, mg "NUMBER" = some (.str "number" t)
  KEYWORD : ∃ t, mg "KEYWORD" = some (.str "keyword" t)
  NAME : ∃ t, mg "NAME" = some (.str "name" t)
  END : ∃ t, mg "END" = some (.str "end" t)
  MAX_DIGITS : ∃ t, mg "MAX_DIGITS" = some (.int 2 t)
  MAX_LETTERS : ∃ t, mg nMaxLetters = some (.int 8 t)
  KEYWORDS : mg "KEYWORDS" = some (.ref (He.ga K "KEYWORDS"))
  kws : ∀ H : Hp, SqT K H (He.ga K "KEYWORDS") (kws.map fun w => V.str (sx w))
/-- a token's object -/
def TokAt (K : PySem.W.Frag) (H : Hp) (a : Addr) (t : Tk) : Prop := ∃ dx, H a = some (.ins (He.ga K "Token") dx [("kind", .str t.kind.str), ("text", .str (sx t.text)), ("line", .int t.line), ("column", .int t.col)])
def synFs (line col : Nat) : List (Str × V) := [("column", .int col), ("line", .int line)]
/-- a SyntaxFault leaves -/
def Syn (K : PySem.W.Frag) (H : Hp) (E : XK) (line col : Nat) : Prop := ∀ (d : Addr) (H' : Hp), Same H H' → H' d = some (.xd (synFs line col)) → E (.ref (He.ga K "SyntaxFault")) (some d) H'
section
variable {P : Program} {w : World} {K : PySem.W.Frag} {mg : Str → Option Value} {base : Heap}
def spRunEnd : Sp := fun vs H Q _ => ∃ (row : Cs) (s : Nat) (z : Str), vs = [.str (sx row), .int s, .str z] ∧ row.length ≤ 100000 ∧ s ≤ row.length ∧
  Q (.int ((s + ((row.drop s).takeWhile fun c => decide (c ∈ z.cps.toList)).length : Nat) : Int)) H
theorem sc_run_end : FnScope ["row", "start", "letters", "end"] ["row", "start", "letters"] (defScope s_run_end) := ⟨rfl, rfl, rfl, by decide +kernel, rfl, by decide +kernel, by decide +kernel⟩
theorem len_sx (l : Cs) : (sx l).length = l.length := by simp [sx, Str.length]
theorem sz5 {n : Nat} (h : n ≤ 100000) : n ≤ sizeLine := Nat.le_trans h (by decide)
theorem tw_le (p : Nat → Bool) (l : Cs) : (l.takeWhile p).length ≤ l.length := (List.takeWhile_sublist p).length_le
theorem at_sx {l : Cs} {i : Nat} (h : i < l.length) : (sx l).cps[((i : Nat) : Int).toNat]? = some l[i] := by
  rw [Int.toNat_natCast]
  simp [sx, h]
theorem tw_in {p : Nat → Bool} : ∀ {l : Cs} {s i : Nat} (q : i < ((l.drop s).takeWhile p).length) (h : s + i < l.length), p l[s + i] = true
  | [], s, i, q, h => absurd h (by simp)
  | c :: r, 0, i, q, h => by
    rw [List.drop_zero] at q
    cases e : p c with
    | false => rw [List.takeWhile_cons, e] at q; simp at q
    | true =>
      rw [List.takeWhile_cons, e] at q
      cases i with
      | zero => simpa using e
      | succ i =>
        have z := tw_in (p := p) (l := r) (s := 0) (i := i) (by simpa using q) (by simpa using h)
        simpa using z
  | c :: r, s + 1, i, q, h => by
    have h' : s + i < r.length := by simp at h; omega
    have z := tw_in (p := p) (l := r) (s := s) (i := i) (by simpa using q) h'
    have e : s + 1 + i = (s + i) + 1 := by omega
    simp only [e, List.getElem_cons_succ]
    exact z
theorem tw_stop {p : Nat → Bool} : ∀ {l : Cs} {s i : Nat} (q : i = ((l.drop s).takeWhile p).length) (h : s + i < l.length), p l[s + i] = false
  | [], s, i, q, h => absurd h (by simp)
  | c :: r, 0, i, q, h => by
    rw [List.drop_zero] at q
    cases e : p c with
    | false =>
      rw [List.takeWhile_cons, e] at q
      simp at q
      subst q
      simpa using e
    | true =>
      rw [List.takeWhile_cons, e] at q
      simp at q
      subst q
      have z := tw_stop (p := p) (l := r) (s := 0) rfl (by simp at h; simpa using h)
      simpa using z
  | c :: r, s + 1, i, q, h => by
    have h' : s + i < r.length := by simp at h; omega
    have z := tw_stop (p := p) (l := r) (s := s) (i := i) (by simpa using q) h'
    have e : s + 1 + i = (s + i) + 1 := by omega
    simp only [e, List.getElem_cons_succ]
    exact z
theorem ok_run_end (T : LexT K mg) : FnE P w K mg base CX0 1 ("run_end", none) ["row", "start", "letters"] spRunEnd := by
  obtain ⟨fd, F⟩ := T.d_run_end
  refine ⟨fd, F.ok sc_run_end (fun vs H Q E h => ?_) (fun cdv A outer s H vs Q E hr h => ?_), F.bindsN fun _ _ _ _ _ _ us hl => match us, hl with | [_, _, _], _ => rfl, F.kp⟩
  · obtain ⟨row, s, z, rfl, _⟩ := h
    rfl
  · obtain ⟨row, s, z, rfl, hl, hs, k⟩ := h
    refine ⟨_, PSs.nox (pss_cons (ps_set (i := 3) sc_run_end.nd rfl (.inl rfl) (pv 1))
      (pss_cons (ps_while PassesOwn.never (PW.pt (pw_and (pt_cmpR op_lt (pv 3) (pe_callB call_len_str (by rfl) T.len boot_len (pa_cons (pv 0) pa_nil)) (nomark _))
          (pw_and1 (pt_cmpR op_in_sign (pe_item_str (pv 0) (pv 3) (fun _ _ => rfl)) (pv 2) rfl))))
        (pss_one (ps_aug (i := 3) sc_run_end.nd rfl (.inl rfl) pe_int ip_add)))
      (pss_one (ps_ret (pv 3))))), ?_⟩
    refine ⟨_, rfl, ?_⟩
    refine ⟨fun m σ H' => ∃ k : Nat, m + k = ((row.drop s).takeWhile fun c => decide (c ∈ z.cps.toList)).length ∧ H' = H ∧ σ = [some (.str (sx row)), some (.int s), some (.str z), some (.int ((s + k : Nat) : Int))], ⟨_, 0, rfl, rfl, rfl⟩, ?_⟩
    rintro m σ H' ⟨i, hm, rfl, rfl⟩
    refine ⟨_, rfl, _, rfl, _, rfl, by rw [len_sx]; exact sz5 hl, _, _, rfl, rfl, _, rfl, ?_⟩
    refine ite2 (fun h => ?_) (fun h => ?_)
    · have h' : s + i < row.length := by
        have h := of_decide_eq_true h
        rw [len_sx] at h
        omega
      refine ⟨_, rfl, _, rfl, sx row, ((s + i : Nat) : Int), row[s + i], rfl, rfl, by omega, by omega, by rw [len_sx]; omega, ?_, _, rfl, _, _, rfl, rfl, _, rfl, ?_⟩
      · exact at_sx h'
      · refine ite2 (fun h2 => ?_) (fun h2 => ?_)
        · have h2 : decide (row[s + i] ∈ z.cps.toList) = true := h2
          have lt : i < ((row.drop s).takeWhile fun c => decide (c ∈ z.cps.toList)).length := by
            refine Nat.lt_of_le_of_ne (by omega) fun e => ?_
            exact absurd h2 (by rw [tw_stop (p := fun c => decide (c ∈ z.cps.toList)) (l := row) (s := s) (i := i) e h']; exact Bool.false_ne_true)
          refine ⟨_, fun _ _ n => n, _, rfl, _, _, rfl, rfl, m - 1, by omega, i + 1, by omega, rfl, ?_⟩
          simp
          omega
        · have h2 : ¬ decide (row[s + i] ∈ z.cps.toList) = true := h2
          have e : i = ((row.drop s).takeWhile fun c => decide (c ∈ z.cps.toList)).length := by
            refine Nat.le_antisymm (by omega) (Nat.le_of_not_lt fun q => h2 ?_)
            exact tw_in (p := fun c => decide (c ∈ z.cps.toList)) (l := row) (s := s) (i := i) q h'
          refine ⟨_, rfl, ?_⟩
          rw [e]
          exact k
    · have h' : row.length ≤ s + i := by
        have h : ¬ ((s + i : Nat) : Int) < ((sx row).length : Int) := fun q => h (decide_eq_true q)
        rw [len_sx] at h
        omega
      have e : i = ((row.drop s).takeWhile fun c => decide (c ∈ z.cps.toList)).length := by
        have z1 : ((row.drop s).takeWhile fun c => decide (c ∈ z.cps.toList)).length ≤ (row.drop s).length := tw_le _ _
        rw [List.length_drop] at z1
        omega
      refine iteF ⟨_, rfl, ?_⟩
      rw [e]
      exact k
theorem putF_le (f : Str) (v : V) : ∀ fs : List (Str × V), (putF f v fs).length ≤ fs.length + 1
  | [] => by simp [putF]
  | (g, x) :: r => by
    unfold putF
    split
    · simp
    · have := putF_le f v r
      simp only [List.length_cons]
      omega
theorem ln0 : ([] : List (Str × V)).length ≤ 0 := Nat.le_refl 0
theorem lnS {f : Str} {v : V} {fs : List (Str × V)} {n : Nat} (h : fs.length ≤ n) : (putF f v fs).length ≤ n + 1 := Nat.le_trans (putF_le f v fs) (Nat.succ_le_succ h)
theorem lnZ {fs : List (Str × V)} {n : Nat} (h : fs.length ≤ n) (hn : n < 1000 := by decide) : fs.length < 1000 := Nat.lt_of_le_of_lt h hn
theorem sc_tok : FnScope ["self", "kind", "text", "line", "column"] ["self", "kind", "text", "line", "column"] (defScope s_Token_init) := ⟨rfl, rfl, rfl, by decide +kernel, rfl, by decide +kernel, by decide +kernel⟩
theorem put_tok (a b c d : V) : putF "column" d (putF "line" c (putF "text" b (putF "kind" a []))) = ([("kind", a), ("text", b), ("line", c), ("column", d)] : List (Str × V)) := by kernel_rfl
theorem ok_tok (T : LexT K mg) : FnE P w K mg base CX0 1 ("Token", some "__init__") ["self", "kind", "text", "line", "column"] (spInit (He.ga K "Token") tokF) := by
  obtain ⟨fd, F⟩ := T.d_tok
  refine ⟨fd, F.ok sc_tok (fun vs H Q E h => ?_) (fun cdv A outer s H vs Q E hr h => ?_), F.bindsN fun _ _ _ _ _ _ us hl => match us, hl with | [_, _, _, _, _], _ => rfl, F.kp⟩
  · obtain ⟨a, dx, args, rfl, e, _⟩ := h
    simp [e]
  · obtain ⟨p, dx, args, rfl, e, hp, k⟩ := h
    obtain ⟨v1, v2, v3, v4, rfl⟩ : ∃ v1 v2 v3 v4, args = [v1, v2, v3, v4] := by
      match args, e with
      | [v1, v2, v3, v4], _ => exact ⟨v1, v2, v3, v4, rfl⟩
    refine ⟨_, PSs.nox (pss_cons (ps_fld (pv 0) (pv 1) rfl) (pss_cons (ps_fld (pv 0) (pv 2) rfl) (pss_cons (ps_fld (pv 0) (pv 3) rfl) (pss_one (ps_fld (pv 0) (pv 4) rfl))))), ?_⟩
    refine ⟨_, rfl, _, rfl, p, _, dx, _, rfl, hp, T.tok.c, T.tok.n _ (by simp), lnZ ln0, ?_⟩
    refine ⟨_, rfl, _, rfl, p, _, dx, _, rfl, upd_same, T.tok.c, T.tok.n _ (by simp), lnZ (lnS ln0), ?_⟩
    refine ⟨_, rfl, _, rfl, p, _, dx, _, rfl, upd_same, T.tok.c, T.tok.n _ (by simp), lnZ (lnS (lnS ln0)), ?_⟩
    refine ⟨_, rfl, _, rfl, p, _, dx, _, rfl, upd_same, T.tok.c, T.tok.n _ (by simp), lnZ (lnS (lnS (lnS ln0))), ?_⟩
    refine k _ ?_ fun b hb => by rw [upd_ne hb, upd_ne hb, upd_ne hb, upd_ne hb]
    rw [upd_same, put_tok]
    rfl
end
end Sw

end

section
set_option maxRecDepth 100000
set_option maxHeartbeats 4000000
namespace Sw
open PySem PySem.Spec PyProof.Rows L2 SwA
section
variable {P : Program} {w : World} {K : PySem.W.Frag} {mg : Str → Option Value} {base : Heap}
/-! ### texts as codes -/
theorem mem_digits (c : Nat) : decide (c ∈ ("0123456789" : Str).cps.toList) = isD c := by
  have e : ("0123456789" : Str).cps.toList = [48, 49, 50, 51, 52, 53, 54, 55, 56, 57] := by decide +kernel
  rw [e]
  simp only [isD, List.mem_cons, List.not_mem_nil, or_false]
  rw [Bool.eq_iff_iff]
  simp
  omega
theorem mem_letters (c : Nat) : decide (c ∈ ("abcdefghijklmnopqrstuvwxyz" : Str).cps.toList) = isL c := by
  have e : ("abcdefghijklmnopqrstuvwxyz" : Str).cps.toList = [97, 98, 99, 100, 101, 102, 103, 104, 105, 106, 107, 108, 109, 110, 111, 112, 113, 114, 115, 116, 117, 118, 119, 120, 121, 122] := by decide +kernel
  rw [e]
  simp only [isL, List.mem_cons, List.not_mem_nil, or_false]
  rw [Bool.eq_iff_iff]
  simp
  omega
theorem mem_signs (c : Nat) : decide (c ∈ (";" : Str).cps.toList) = decide (c = 59) := by
  have e : (";" : Str).cps.toList = [59] := by decide +kernel
  rw [e]
  simp
theorem mem_spaces (c : Nat) : decide (c ∈ (" \n" : Str).cps.toList) = isS c := by
  have e : (" \n" : Str).cps.toList = [32, 10] := by decide +kernel
  rw [e]
  simp [isS, Bool.decide_or, BEq.beq]
/-- a slice of a row -/
theorem cut_sx {l : Cs} {a n : Nat} (h : a + n ≤ l.length) : cutS (sx l) (some (a : Int)) (some ((a + n : Nat) : Int)) = sx ((l.drop a).take n) := by
  unfold cutS
  rw [HT.sIx_nat, HT.sIx_nat, len_sx, Nat.min_eq_left h, Nat.min_eq_left (by omega : a ≤ l.length), Nat.add_sub_cancel_left]
  rfl
theorem tw_take (p : Nat → Bool) : ∀ l : Cs, l.take (l.takeWhile p).length = l.takeWhile p
  | [] => rfl
  | c :: r => by
    cases e : p c with
    | false => simp [List.takeWhile_cons, e]
    | true => simp [List.takeWhile_cons, e, tw_take p r]
theorem eq_str_sx (a b : Cs) : eqV (V.str (sx a)) (V.str (sx b)) = decide (a = b) := by
  show (sx a == sx b) = decide (a = b)
  rw [Bool.eq_iff_iff, beq_iff_eq, decide_eq_true_iff]
  exact ⟨fun h => sx_inj h, fun h => by rw [h]⟩
theorem inV_sx (a : Cs) (l : List Cs) : inV (V.str (sx a)) (l.map fun w => V.str (sx w)) = decide (a ∈ l) := by
  unfold inV
  induction l with
  | nil => simp
  | cons b r ih =>
    rw [List.map_cons, List.any_cons, ih, eq_str_sx]
    rw [Bool.eq_iff_iff]
    simp only [Bool.or_eq_true, decide_eq_true_eq, List.mem_cons]
    exact or_congr ⟨Eq.symm, Eq.symm⟩ Iff.rfl
theorem flat_sx (l : List Cs) : (l.map fun w => V.str (sx w)).all flatV = true := by
  induction l with
  | nil => rfl
  | cons b r ih => rw [List.map_cons, List.all_cons, ih]; rfl
theorem sign_inj {c d : Nat} {z : Str} (h : (⟨#[c]⟩ : Str) = z) (e : z = ⟨#[d]⟩) : c = d := by
  rw [e] at h
  injection h with h
  injection h with h
  injection h
/-! ### read_token -/
def spReadTok (K : PySem.W.Frag) : Sp := fun vs H Q E => ∃ (row : Cs) (line col : Nat), vs = [.str (sx row), .int line, .int col] ∧ row.length ≤ 100000 ∧ col < row.length ∧
  (∀ t, readTok line col (row.drop col) = some t → ∀ (a : Addr) (H' : Hp), H a = none → Same H H' → TokAt K H' a t → Q (.ref a) H') ∧
  (readTok line col (row.drop col) = none → Syn K H E line col)
theorem sc_read_token : FnScope ["row", "line", "column", "first", "word"] ["row", "line", "column"] (defScope s_read_token) := ⟨rfl, rfl, rfl, by decide +kernel, rfl, by decide +kernel, by decide +kernel⟩
theorem ok_read_token (T : LexT K mg) : FnE P w K mg base (L2.CX P w) 3 ("read_token", none) ["row", "line", "column"] (spReadTok K) := by
  obtain ⟨fd, F⟩ := T.d_read_token
  obtain ⟨fdR, GR, bR, kR⟩ := ok_run_end (P := P) (w := w) (base := base) T
  obtain ⟨fdT, GT, bT, kT⟩ := ok_tok (P := P) (w := w) (base := base) T
  obtain ⟨fdS, GS, bS, kS⟩ := ok_syn (P := P) (w := w) (base := base) T.e
  obtain ⟨t1, mSIGNS⟩ := T.SIGNS
  obtain ⟨t2, mDIGITS⟩ := T.DIGITS
  obtain ⟨t3, mLETTERS⟩ := T.LETTERS
  obtain ⟨t4, mSIGN⟩ := T.SIGN
  obtain ⟨t5, mNUMBER⟩ := T.NUMBER
  obtain ⟨t6, mKEYWORD⟩ := T.KEYWORD
  obtain ⟨t7, mNAME⟩ := T.NAME
  obtain ⟨t8, mMAXD⟩ := T.MAX_DIGITS
  obtain ⟨t9, mMAXL⟩ := T.MAX_LETTERS
  refine ⟨fd, F.ok sc_read_token (fun vs H Q E h => ?_) (fun cdv A outer s H vs Q E hr h => ?_), F.bindsN fun _ _ _ _ _ _ us hl => match us, hl with | [_, _, _], _ => rfl, F.kp⟩
  · obtain ⟨row, line, col, rfl, _⟩ := h
    rfl
  · obtain ⟨row, line, col, rfl, hl, hc, hT, hE⟩ := h
    have hr1 : Room 1 _ := hr.mono (by decide)
    refine ⟨_, (pss_cons (ps_set (i := 3) sc_read_token.nd rfl (.inl rfl) (pe_item_str (pv 0) (pv 2) (fun _ _ => rfl)))
      (pss_cons (ps_if (pt_cmpR op_in_sign (pv 3) (pe_glob (v := .str ";") rfl mSIGNS ⟨_, rfl⟩) rfl)
          (pss_one (ps_ret (pe_make T.tok.m GT hr rfl T.tok.g bT .nil pass0 (pa_cons (pe_glob (v := .str "sign") rfl mSIGN ⟨_, rfl⟩) (pa_cons (pv 3) (pa_cons (pv 1) (pa_cons (pv 2) pa_nil)))))))
          pss_nil)
      (pss_cons (ps_if (pt_cmpR op_in_sign (pv 3) (pe_glob (v := .str "0123456789") rfl mDIGITS ⟨_, rfl⟩) rfl)
          (pss_cons (ps_set (i := 4) sc_read_token.nd rfl (.inl rfl) (pe_slice sl_str (pv 0) (po_some (pv 2)) (po_some (pe_call GR hr1 rfl T.g_run_end kR bR .nil pass0
              (pa_cons (pv 0) (pa_cons (pv 2) (pa_cons (pe_glob (v := .str "0123456789") rfl mDIGITS ⟨_, rfl⟩) pa_nil)))))))
          (pss_cons (ps_if (PW.pt (pw_or (pt_cmpR op_gt (pe_callB call_len_str (by rfl) T.len boot_len (pa_cons (pv 4) pa_nil)) (pe_glob (v := .int 2) rfl mMAXD ⟨_, rfl⟩) (nomark _))
              (pw_or1 (PW.pt (pw_and (pt_cmpR op_gt (pe_callB call_len_str (by rfl) T.len boot_len (pa_cons (pv 4) pa_nil)) pe_int (nomark _)) (pw_and1 (pt_cmpR op_eq (pv 3) pe_str (nomark _))))))))
              (pss_one (ps_raise rfl (takes_of rfl rfl rfl rfl) (pmk_oex T.e.syn.o T.e.syn.i T.e.syn.t GS hr bS .nil pass0 rfl T.e.syn.g (pa_cons (pv 1) (pa_cons (pv 2) pa_nil)))))
              pss_nil)
          (pss_one (ps_ret (pe_make T.tok.m GT hr rfl T.tok.g bT .nil pass0 (pa_cons (pe_glob (v := .str "number") rfl mNUMBER ⟨_, rfl⟩) (pa_cons (pv 4) (pa_cons (pv 1) (pa_cons (pv 2) pa_nil)))))))))
          pss_nil)
      (pss_cons (ps_set (i := 4) sc_read_token.nd rfl (.inl rfl) (pe_slice sl_str (pv 0) (po_some (pv 2)) (po_some (pe_call GR hr1 rfl T.g_run_end kR bR .nil pass0
              (pa_cons (pv 0) (pa_cons (pv 2) (pa_cons (pe_glob (v := .str "abcdefghijklmnopqrstuvwxyz") rfl mLETTERS ⟨_, rfl⟩) pa_nil)))))))
      (pss_cons (ps_if (pt_cmpR op_in_seq (pv 4) (pe_glob (v := .ref (He.ga K "KEYWORDS")) rfl T.KEYWORDS rfl) rfl)
          (pss_one (ps_ret (pe_make T.tok.m GT hr rfl T.tok.g bT .nil pass0 (pa_cons (pe_glob (v := .str "keyword") rfl mKEYWORD ⟨_, rfl⟩) (pa_cons (pv 4) (pa_cons (pv 1) (pa_cons (pv 2) pa_nil)))))))
          pss_nil)
      (pss_cons (ps_if (pt_not (pt_chain op_le op_le pe_int (pe_callB call_len_str (by rfl) T.len boot_len (pa_cons (pv 4) pa_nil)) (pe_glob (v := .int 8) rfl mMAXL ⟨_, rfl⟩)))
          (pss_one (ps_raise rfl (takes_of rfl rfl rfl rfl) (pmk_oex T.e.syn.o T.e.syn.i T.e.syn.t GS hr bS .nil pass0 rfl T.e.syn.g (pa_cons (pv 1) (pa_cons (pv 2) pa_nil)))))
          pss_nil)
      (pss_one (ps_ret (pe_make T.tok.m GT hr rfl T.tok.g bT .nil pass0 (pa_cons (pe_glob (v := .str "name") rfl mNAME ⟨_, rfl⟩) (pa_cons (pv 4) (pa_cons (pv 1) (pa_cons (pv 2) pa_nil))))))))))))), ?_⟩
    have e0 : row.drop col = row[col] :: row.drop (col + 1) := List.drop_eq_getElem_cons hc
    have fin : ∀ (kd : Kd) (tx : Cs) (z : Str), z = kd.str → readTok line col (row.drop col) = some ⟨kd, tx, line, col⟩ → ∀ (x : Addr) (H2 : Hp), H x = none → Same H H2 →
        (∃ dx, H2 x = some (.ins (He.ga K "Token") dx (tokF.zip [.str z, .str (sx tx), .int line, .int col]))) → Q (.ref x) H2 := fun kd tx z ez er x H2 nx sm hx => by
      subst ez
      exact hT _ er x H2 nx sm hx
    have bad : readTok line col (row.drop col) = none → ∀ (d : Addr) (H2 : Hp), H d = none → Same H H2 → H2 d = some (.xd ((["line", "column"] : List Str).zip [V.int line, V.int col]).reverse) → E (.ref (He.ga K "SyntaxFault")) (some d) H2 :=
      fun er d H2 _ sm hx => hE er d H2 sm hx
    refine ⟨_, rfl, _, rfl, sx row, (col : Int), row[col], rfl, rfl, by omega, by omega, by rw [len_sx]; omega, at_sx hc, ?_⟩
    refine ⟨_, rfl, row[col], ";", rfl, rfl, _, rfl, ?_⟩
    refine ite2 (fun h => ?_) (fun h => ?_)
    · -- a sign
      have h1 : row[col] = 59 := by
        have h := h
        rw [mem_signs] at h
        exact of_decide_eq_true h
      refine ⟨_, rfl, _, rfl, _, rfl, mk_at rfl ?_⟩
      have e1 : (⟨#[row[col]]⟩ : Str) = sx [59] := by rw [h1]; rfl
      rw [e1]
      refine fin .sign [59] "sign" rfl ?_
      rw [e0]
      simp [readTok, h1]
    have h1 : row[col] ≠ 59 := by
      have h := h
      rw [mem_signs] at h
      exact fun q => h (decide_eq_true q)
    refine ⟨_, rfl, row[col], "0123456789", rfl, rfl, _, rfl, ?_⟩
    refine ite2 (fun h => ?_) (fun h => ?_)
    · -- a number
      have h2 : isD row[col] = true := by
        have h := h
        rw [mem_digits] at h
        exact h
      have ew : ((row.drop col).takeWhile fun c => decide (c ∈ ("0123456789" : Str).cps.toList)) = (row.drop col).takeWhile isD := by
        congr 1
        exact funext mem_digits
      have hle : col + ((row.drop col).takeWhile isD).length ≤ row.length := by
        have z := tw_le isD (row.drop col)
        rw [List.length_drop] at z
        omega
      refine ⟨_, rfl, _, rfl, _, rfl, _, rfl, _, rfl, row, col, _, rfl, hl, Nat.le_of_lt hc, ?_⟩
      rw [ew]
      refine ⟨_, rfl, sx row, rfl, by rw [len_sx]; exact sz5 hl, ?_⟩
      rw [cut_sx hle, tw_take]
      have hz : (sx ((row.drop col).takeWhile isD)).length ≤ sizeLine := by
        rw [len_sx]
        exact sz5 (by omega)
      refine ⟨_, rfl, _, rfl, hz, _, _, rfl, rfl, _, rfl, ?_⟩
      have rd : readTok line col (row.drop col) = if 2 < ((row.drop col).takeWhile isD).length ∨ (1 < ((row.drop col).takeWhile isD).length ∧ row[col] = 48) then none else some ⟨.number, (row.drop col).takeWhile isD, line, col⟩ := by
        conv => lhs; rw [e0]
        simp only [readTok, if_neg h1, if_pos h2]
        rw [← e0]
      have ok2 : ¬ (2 < ((row.drop col).takeWhile isD).length ∨ (1 < ((row.drop col).takeWhile isD).length ∧ row[col] = 48)) → ∀ (x : Addr) (H2 : Hp), H x = none → Same H H2 →
          (∃ dx, H2 x = some (.ins (He.ga K "Token") dx (tokF.zip [.str "number", .str (sx ((row.drop col).takeWhile isD)), .int line, .int col]))) → Q (.ref x) H2 :=
        fun q => fin .number _ "number" rfl (by rw [rd, if_neg q])
      have bad2 : (2 < ((row.drop col).takeWhile isD).length ∨ (1 < ((row.drop col).takeWhile isD).length ∧ row[col] = 48)) → ∀ (d : Addr) (H2 : Hp), H d = none → Same H H2 → H2 d = some (.xd ((["line", "column"] : List Str).zip [V.int line, V.int col]).reverse) → E (.ref (He.ga K "SyntaxFault")) (some d) H2 :=
        fun q => bad (by rw [rd, if_pos q])
      rw [len_sx]
      refine ite2 (fun h3 => ?_) (fun h3 => ?_)
      · have h3 := of_decide_eq_true h3
        refine iteT ⟨_, rfl, _, rfl, fault_at rfl (by simp) (bad2 (Or.inl (by omega)))⟩
      · have h3 : ¬ (2 : Int) < ((((row.drop col).takeWhile isD).length : Nat) : Int) := fun q => h3 (decide_eq_true q)
        refine ⟨_, rfl, _, rfl, hz, _, _, rfl, rfl, _, rfl, ?_⟩
        rw [len_sx]
        refine ite2 (fun h4 => ?_) (fun h4 => ?_)
        · have h4 := of_decide_eq_true h4
          refine ⟨_, rfl, rfl, _, rfl, ?_⟩
          refine ite2 (fun h5 => ?_) (fun h5 => ?_)
          · have h5 := V.str.inj (of_decide_eq_true h5)
            have h6 : row[col] = 48 := sign_inj h5 (by decide +kernel)
            exact ⟨_, rfl, _, rfl, fault_at rfl (by simp) (bad2 (Or.inr ⟨by omega, h6⟩))⟩
          · have h6 : row[col] ≠ 48 := fun q => h5 (decide_eq_true (by rw [q]; decide +kernel))
            exact ⟨_, rfl, _, rfl, _, rfl, mk_at rfl (ok2 (by
              rintro (q | q)
              · omega
              · exact h6 q.2))⟩
        · have h4 : ¬ (1 : Int) < ((((row.drop col).takeWhile isD).length : Nat) : Int) := fun q => h4 (decide_eq_true q)
          refine iteF ⟨_, rfl, _, rfl, _, rfl, mk_at rfl (ok2 (by
              rintro (q | q)
              · omega
              · omega))⟩
    · -- a word
      have h2 : ¬ isD row[col] = true := by
        have h := h
        rw [mem_digits] at h
        exact h
      have ew : ((row.drop col).takeWhile fun c => decide (c ∈ ("abcdefghijklmnopqrstuvwxyz" : Str).cps.toList)) = (row.drop col).takeWhile isL := by
        congr 1
        exact funext mem_letters
      have hle : col + ((row.drop col).takeWhile isL).length ≤ row.length := by
        have z := tw_le isL (row.drop col)
        rw [List.length_drop] at z
        omega
      have rd : readTok line col (row.drop col) = if (row.drop col).takeWhile isL ∈ kws then some ⟨.keyword, (row.drop col).takeWhile isL, line, col⟩
          else if 1 ≤ ((row.drop col).takeWhile isL).length ∧ ((row.drop col).takeWhile isL).length ≤ 8 then some ⟨.name, (row.drop col).takeWhile isL, line, col⟩ else none := by
        conv => lhs; rw [e0]
        simp only [readTok, if_neg h1, if_neg h2]
        rw [← e0]
      refine ⟨_, rfl, _, rfl, _, rfl, _, rfl, _, rfl, row, col, _, rfl, hl, Nat.le_of_lt hc, ?_⟩
      rw [ew]
      refine ⟨_, rfl, sx row, rfl, by rw [len_sx]; exact sz5 hl, ?_⟩
      rw [cut_sx hle, tw_take]
      have hz : (sx ((row.drop col).takeWhile isL)).length ≤ sizeLine := by
        rw [len_sx]
        exact sz5 (by omega)
      refine ⟨_, rfl, _, _, rfl, Or.inr (T.kws H), rfl, flat_sx kws, _, rfl, ?_⟩
      refine ite2 (fun h3 => ?_) (fun h3 => ?_)
      · have h3 : (row.drop col).takeWhile isL ∈ kws := by
          have h3 : inV (V.str (sx ((row.drop col).takeWhile isL))) (kws.map fun w => V.str (sx w)) = true := h3
          rw [inV_sx] at h3
          exact of_decide_eq_true h3
        exact ⟨_, rfl, _, rfl, _, rfl, mk_at rfl (fin .keyword _ "keyword" rfl (by rw [rd, if_pos h3]))⟩
      · have h3 : ¬ (row.drop col).takeWhile isL ∈ kws := fun q => h3 (by
          show inV (V.str (sx ((row.drop col).takeWhile isL))) (kws.map fun w => V.str (sx w)) = true
          rw [inV_sx]
          exact decide_eq_true q)
        refine ⟨_, rfl, _, rfl, hz, ?_⟩
        rw [len_sx]
        refine ⟨_, _, rfl, rfl, _, rfl, ?_⟩
        refine ite2 (fun h4 => ?_) (fun h4 => ?_)
        · have h4 := of_decide_eq_true h4
          refine ⟨_, _, rfl, rfl, _, rfl, ?_⟩
          refine ite2 (fun h5 => ?_) (fun h5 => ?_)
          · have h5 : ¬ ((((row.drop col).takeWhile isL).length : Nat) : Int) ≤ 8 := fun q => by
              rw [decide_eq_true q] at h5
              exact absurd h5 (by decide)
            exact ⟨_, rfl, _, rfl, fault_at rfl (by simp) (bad (by rw [rd, if_neg h3, if_neg (by omega)]))⟩
          · have h5 : ((((row.drop col).takeWhile isL).length : Nat) : Int) ≤ 8 := Decidable.byContradiction fun q => h5 (by rw [decide_eq_false q]; rfl)
            exact ⟨_, rfl, _, rfl, _, rfl, mk_at rfl (fin .name _ "name" rfl (by rw [rd, if_neg h3, if_pos (by omega)]))⟩
        · have h4 : ¬ (1 : Int) ≤ ((((row.drop col).takeWhile isL).length : Nat) : Int) := fun q => h4 (decide_eq_true q)
          exact ⟨_, rfl, iteT ⟨_, rfl, _, rfl, fault_at rfl (by simp) (bad (by rw [rd, if_neg h3, if_neg (by omega)]))⟩⟩
end
end Sw

end

section
set_option maxRecDepth 100000
set_option maxHeartbeats 4000000
namespace Sw
open PySem PySem.Spec PyProof.Rows L2 SwA
section
variable {P : Program} {w : World} {K : PySem.W.Frag} {mg : Str → Option Value} {base : Heap}
/-! ### the rows -/
theorem split_sx (text : Cs) : Txt.split (sx text) "\n" = (rowsOf text).map sx := by
  refine TL.map_tl_inj ?_
  have e : TL.tl ("\n" : Str) = [10] := by decide +kernel
  rw [TL.split_spl (sx text) "\n" (by rw [e]; simp) (TL.kind_ok (by decide +kernel)), e, List.map_map]
  show rowsOf text = (rowsOf text).map (fun l => l)
  rw [List.map_id']
theorem spl_sum : ∀ (l acc : Cs), ((TL.spl [10] 0 acc l).map List.length).sum ≤ acc.length + l.length
  | [], acc => by simp [TL.spl]
  | c :: r, acc => by
    unfold TL.spl
    split
    · have z := spl_sum r []
      simp only [List.map_cons, List.sum_cons, List.length_cons, List.length_nil] at z ⊢
      have z2 : ((TL.spl [10] (0 + 1 - 1) [] r).map List.length).sum ≤ 0 + r.length := z
      omega
    · have z := spl_sum r (acc ++ [c])
      simp only [List.length_append, List.length_cons, List.length_nil] at z ⊢
      omega
theorem rows_sum (text : Cs) : ((rowsOf text).map List.length).sum ≤ text.length := by
  have z := spl_sum text []
  rw [List.length_nil, Nat.zero_add] at z
  exact z
theorem sum_take : ∀ (l : List Nat) (i : Nat), (l.take i).sum ≤ l.sum
  | [], i => by simp
  | a :: r, 0 => by simp
  | a :: r, i + 1 => by
    have z := sum_take r i
    simp only [List.take_succ_cons, List.sum_cons]
    omega
theorem sum_take_succ {l : List Nat} {i a : Nat} (h : l[i]? = some a) : (l.take (i + 1)).sum = (l.take i).sum + a := by
  rw [List.take_succ, h]
  simp
theorem spl_ne (l acc : Cs) : TL.spl [10] 0 acc l ≠ [] := by
  cases l with
  | nil => simp [TL.spl]
  | cons c r =>
    unfold TL.spl
    split
    · simp
    · exact spl_ne r (acc ++ [c])
theorem spl_len : ∀ (l acc : Cs), (TL.spl [10] 0 acc l).length ≤ l.length + 1
  | [], acc => by simp [TL.spl]
  | c :: r, acc => by
    unfold TL.spl
    split
    · have z := spl_len r []
      have z2 : (TL.spl [10] ([10].length - 1) [] r).length ≤ r.length + 1 := z
      simp only [List.length_cons] at z2 ⊢
      omega
    · have z := spl_len r (acc ++ [c])
      simp only [List.length_cons]
      omega
/-! ### the tokens' objects -/
abbrev TksAt (K : PySem.W.Frag) (H : Hp) (tas : List Addr) (ts : List Tk) : Prop := Paired (fun a t => TokAt K H a t) tas ts
theorem TokAt.same {H H' : Hp} {a : Addr} {t : Tk} (s : Same H H') (h : TokAt K H a t) : TokAt K H' a t := let ⟨dx, e⟩ := h; ⟨dx, s _ _ e⟩
theorem TksAt.same {H H' : Hp} {tas : List Addr} {ts : List Tk} (s : Same H H') (h : TksAt K H tas ts) : TksAt K H' tas ts := Paired.mapP h fun _ _ x => x.same s
theorem TokAt.upd {H : Hp} {a l : Addr} {xs ys : List V} {t : Tk} (hl : H l = some (.lst xs)) (h : TokAt K H a t) : TokAt K (upd H l (.lst ys)) a t := by
  obtain ⟨dx, e⟩ := h
  exact ⟨dx, by rw [upd_ne (ne_of e hl (by intro z; cases z))]; exact e⟩
theorem TksAt.upd {H : Hp} {l : Addr} {xs ys : List V} {tas : List Addr} {ts : List Tk} (hl : H l = some (.lst xs)) (h : TksAt K H tas ts) : TksAt K (L2.upd H l (.lst ys)) tas ts := Paired.mapP h fun _ _ x => x.upd hl
theorem Paired_snoc {α β : Type} {F : α → β → Prop} : ∀ {l : List α} {m : List β} {a : α} {b : β}, Paired F l m → F a b → Paired F (l ++ [a]) (m ++ [b])
  | _, _, _, _, .nil, h => .cons h .nil
  | _, _, _, _, .cons x r, h => .cons x (Paired_snoc r h)
theorem sameUpd {H H' : Hp} {p : Addr} {o : HO} (s : Same H H') (h : H p = none) : Same H (upd H' p o) := fun b u e => by
  rw [upd_ne (ne_of_none e h)]
  exact s b u e
theorem Syn.mono {H H' : Hp} {E : XK} {l c : Nat} (h : Syn K H E l c) (s : Same H H') : Syn K H' E l c := fun d H2 s2 e => h d H2 (s.trans s2) e
theorem lk_text {a b c d : V} : List.lookup ("text" : Str) ([("kind", a), ("text", b), ("line", c), ("column", d)] : List (Str × V)) = some b := by kernel_rfl
theorem lk_kind {a b c d : V} : List.lookup ("kind" : Str) ([("kind", a), ("text", b), ("line", c), ("column", d)] : List (Str × V)) = some a := by kernel_rfl
theorem lk_line {a b c d : V} : List.lookup ("line" : Str) ([("kind", a), ("text", b), ("line", c), ("column", d)] : List (Str × V)) = some c := by kernel_rfl
theorem lk_col {a b c d : V} : List.lookup ("column" : Str) ([("kind", a), ("text", b), ("line", c), ("column", d)] : List (Str × V)) = some d := by kernel_rfl
theorem str_nil : ("" : Str) = sx [] := by decide +kernel
/-! ### tokenize -/
def spTokenize (K : PySem.W.Frag) : Sp := fun vs H Q E => ∃ text : Cs, vs = [.str (sx text)] ∧ text.length ≤ 90000 ∧
  (∀ ts, tokenize text = .ok ts → ∀ (a : Addr) (tas : List Addr) (H' : Hp), H a = none → Same H H' → H' a = some (.lst (tas.map V.ref)) → TksAt K H' tas ts → Q (.ref a) H') ∧
  (∀ l c, tokenize text = .error (l, c) → Syn K H E l c)
theorem sc_tokenize : FnScope ["source", "tokens", "rows", "line", "row", "column", "token"] ["source"] (defScope s_tokenize) := ⟨rfl, rfl, rfl, by decide +kernel, rfl, by decide +kernel, by decide +kernel⟩
/-- what is left of the rows, what is done -/
def RowsInv (rows : List Cs) (i : Nat) (done : List Tk) : Prop :=
  (∀ e, lexRows i (rows.drop i) = .error e → lexRows 0 rows = .error e) ∧ (∀ us, lexRows i (rows.drop i) = .ok us → lexRows 0 rows = .ok (done ++ us))
def RowInv (line : Nat) (row : Cs) (f c : Nat) (done : List Tk) : Prop :=
  (row.drop c).length ≤ f ∧ (∀ e, lexRow line f c (row.drop c) = .error e → lexRow line row.length 0 row = .error e) ∧ (∀ us, lexRow line f c (row.drop c) = .ok us → lexRow line row.length 0 row = .ok (done ++ us))
theorem readTok_len {line col : Nat} {rest : Cs} {t : Tk} (h : readTok line col rest = some t) : 1 ≤ t.text.length ∧ t.text.length ≤ rest.length := by
  unfold readTok at h
  split at h
  · cases h
  · rename_i c r
    split at h
    · cases h; simp
    · split at h
      · rename_i hd
        split at h
        · cases h
        · cases h
          have z := tw_le isD (c :: r)
          refine ⟨?_, z⟩
          simp [List.takeWhile_cons, hd]
      · split at h
        · rename_i hk
          cases h
          refine ⟨?_, tw_le isL (c :: r)⟩
          refine Nat.pos_of_ne_zero fun z => ?_
          have z' : (c :: r).takeWhile isL = [] := List.length_eq_zero_iff.mp z
          rw [z'] at hk
          exact absurd hk (by decide)
        · split at h
          · rename_i hk
            cases h
            exact ⟨hk.1, tw_le isL (c :: r)⟩
          · cases h
theorem ok_tokenize (T : LexT K mg) : FnE P w K mg base (L2.CX P w) 4 ("tokenize", none) ["source"] (spTokenize K) := by
  obtain ⟨fd, F⟩ := T.d_tokenize
  obtain ⟨fdR, GR, bR, kR⟩ := ok_read_token (P := P) (w := w) (base := base) T
  obtain ⟨fdT, GT, bT, kT⟩ := ok_tok (P := P) (w := w) (base := base) T
  obtain ⟨t1, mSPACES⟩ := T.SPACES
  obtain ⟨t2, mEND⟩ := T.END
  refine ⟨fd, F.ok sc_tokenize (fun vs H Q E h => ?_) (fun cdv A outer s H vs Q E hr h => ?_), F.bindsN fun _ _ _ _ _ _ us hl => match us, hl with | [_], _ => rfl, F.kp⟩
  · obtain ⟨text, rfl, _⟩ := h
    rfl
  · obtain ⟨text, rfl, hl, hT, hE⟩ := h
    have hr1 : Room 2 _ := hr.mono (by decide)
    refine ⟨_, (pss_cons (ps_set (i := 1) sc_tokenize.nd rfl (.inl rfl) (pe_lst pa_nil))
      (pss_cons (ps_set (i := 2) sc_tokenize.nd rfl (.inl rfl) (pe_split (pv 0) pe_str))
      (pss_cons (ps_for (passes_of rfl) rfl (pi_enum (by rfl) T.enumerate (pa_cons (pv 2) pa_nil)) (pg_tup rfl (pgs_cons (pg_name (i := 3) sc_tokenize.nd rfl (.inl rfl)) (pgs_cons (pg_name (i := 4) sc_tokenize.nd rfl (.inl rfl)) pgs_nil)))
        (pss_cons (ps_set (i := 5) sc_tokenize.nd rfl (.inl rfl) pe_int)
        (pss_one (ps_while (passes_of rfl) (pt_cmpR op_lt (pv 5) (pe_callB call_len_str (by rfl) T.len boot_len (pa_cons (pv 4) pa_nil)) (nomark _))
          (pss_one (ps_if (pt_cmpR op_in_sign (pe_item_str (pv 4) (pv 5) (fun _ _ => rfl)) (pe_glob (v := .str " \n") rfl mSPACES ⟨_, rfl⟩) rfl)
            (pss_one (ps_aug (i := 5) sc_tokenize.nd rfl (.inl rfl) pe_int ip_add))
            (pss_cons (ps_set (i := 6) sc_tokenize.nd rfl (.inl rfl) (pe_call GR hr rfl T.g_read_token kR bR .nil (passes_call (takes_of rfl rfl rfl rfl) (fun _ _ _ _ h => h)) (pa_cons (pv 4) (pa_cons (pv 3) (pa_cons (pv 5) pa_nil)))))
            (pss_cons (ps_expr (pe_bm PySem.F.plainAttrs_list PySem.F.slot_list_append PySem.F.type_list_append mt_append (pv 1) (pa_cons (pv 6) pa_nil)))
            (pss_one (ps_aug (i := 5) sc_tokenize.nd rfl (.inl rfl) (pe_callB call_len_str (by rfl) T.len boot_len (pa_cons (pe_fld (pv 6) rfl) pa_nil)) ip_add))))))))))
      (pss_one (ps_ret (pe_op op_cat (pv 1) (pe_lst (pa_cons (pe_make T.tok.m GT hr1 rfl T.tok.g bT .nil pass0 (pa_cons (pe_glob (v := .str "end") rfl mEND ⟨_, rfl⟩) (pa_cons pe_str (pa_cons (pe_callB call_len_seq (by rfl) T.len boot_len (pa_cons (pv 2) pa_nil)) (pa_cons pe_int pa_nil))))) pa_nil)))))))), ?_⟩
    refine ⟨by simp, fun tl ntl => ?_⟩
    refine ⟨_, rfl, ⟨_, rfl⟩, sx text, "\n", rfl, rfl, by decide +kernel, by rw [len_sx, sizeLine_eq]; omega, ?_⟩
    rw [split_sx]
    intro rl nrl
    have ntr : rl ≠ tl := by
      rintro rfl
      rw [upd_same] at nrl
      cases nrl
    have nrl' : H rl = none := by
      rw [upd_ne ntr] at nrl
      exact nrl
    refine ⟨_, rfl, rl, _, rfl, SqL.of upd_same, for_it (walk_enum (K := K) (a := rl) (xs := ((rowsOf text).map sx).map V.str)) (fun i σ H' => ∃ (done : List Tk) (tas : List Addr) (o3 o4 o5 o6 : Option V),
        σ = [some (.str (sx text)), some (.ref tl), some (.ref rl), o3, o4, o5, o6] ∧ Same H H' ∧ H' tl = some (.lst (tas.map V.ref)) ∧ H' rl = some (.lst (((rowsOf text).map sx).map V.str)) ∧
        TksAt K H' tas done ∧ done.length ≤ (((rowsOf text).map List.length).take i).sum ∧ RowsInv (rowsOf text) i done) ?_ ?_ ?_ ?_⟩
    · refine ⟨[], [], none, none, none, none, rfl, sameUpd (sameUpd (Same.refl H) ntl) nrl', by rw [upd_ne ntr.symm, upd_same]; rfl, upd_same, .nil, by simp, fun e h => h, fun us h => h⟩
    · rintro i σ H' hi ⟨done, tas, o3, o4, o5, o6, rfl, sm, h1, h2, _⟩
      exact SqL.of h2
    · rintro i x σ H1 H2 hi ⟨done, tas, o3, o4, o5, o6, rfl, sm, h1, h2, htk, hdl, hri⟩ ⟨T0, x1, y1, rfl, nT, rfl, e1, e2⟩
      cases e1
      rw [List.length_map, List.length_map] at hi
      have er : (rowsOf text)[i]? = some (rowsOf text)[i] := List.getElem?_eq_getElem hi
      have ey : y1 = .str (sx (rowsOf text)[i]) := by
        have e2 : (((rowsOf text).map sx).map V.str)[i]? = some y1 := e2
        rw [List.getElem?_map, List.getElem?_map, er] at e2
        exact (Option.some.inj e2).symm
      subst ey
      generalize hrow : (rowsOf text)[i] = row at er
      have hsum : (((rowsOf text).map List.length).take (i + 1)).sum = (((rowsOf text).map List.length).take i).sum + row.length := sum_take_succ (by rw [List.getElem?_map, er]; rfl)
      have htot : (((rowsOf text).map List.length).take (i + 1)).sum ≤ text.length := Nat.le_trans (sum_take _ _) (rows_sum text)
      have hdrop : (rowsOf text).drop i = row :: (rowsOf text).drop (i + 1) := by rw [List.drop_eq_getElem_cons hi, hrow]
      have hlr : row.length ≤ 100000 := by omega
      refine ⟨T0, _, rfl, SqT.of upd_same, rfl, _, _, rfl, _, _, rfl, rfl, ?_⟩
      have g1 : (upd H1 T0 (.tup [.int (i : Nat), .str (sx row)])) tl = some (.lst (tas.map V.ref)) := by rw [upd_ne (ne_of_none h1 nT)]; exact h1
      have g2 : (upd H1 T0 (.tup [.int (i : Nat), .str (sx row)])) rl = some (.lst (((rowsOf text).map sx).map V.str)) := by rw [upd_ne (ne_of_none h2 nT)]; exact h2
      have smT : Same H1 (upd H1 T0 (.tup [.int (i : Nat), .str (sx row)])) := sameUpd (Same.refl H1) nT
      refine ⟨fun m σ H3 => ∃ (c f : Nat) (doneR : List Tk) (tas : List Addr) (o6 : Option V), m + c = row.length ∧ σ = [some (.str (sx text)), some (.ref tl), some (.ref rl), some (.int (i : Nat)), some (.str (sx row)), some (.int (c : Nat)), o6] ∧
        Same H H3 ∧ H3 tl = some (.lst (tas.map V.ref)) ∧ H3 rl = some (.lst (((rowsOf text).map sx).map V.str)) ∧ TksAt K H3 tas (done ++ doneR) ∧ doneR.length ≤ c ∧ RowInv i row f c doneR,
        ⟨row.length, 0, row.length, [], tas, o6, rfl, rfl, sm.trans smT, g1, g2, by rw [List.append_nil]; exact htk.same smT, Nat.le_refl _, by unfold RowInv; rw [List.drop_zero]; exact ⟨Nat.le_refl _, fun e h => h, fun us h => h⟩⟩, ?_⟩
      rintro m σ H3 ⟨c, f, doneR, tas3, o6', hm, rfl, sm3, k1, k2, ktk, kdl, kin⟩
      refine ⟨_, rfl, _, rfl, _, rfl, by rw [len_sx]; exact sz5 hlr, _, _, rfl, rfl, _, rfl, ?_⟩
      refine ite2 (fun h => ?_) (fun h => ?_)
      · have hc : c < row.length := by
          have h := of_decide_eq_true h
          rw [len_sx] at h
          omega
        have e0 : row.drop c = row[c] :: row.drop (c + 1) := List.drop_eq_getElem_cons hc
        obtain ⟨kf, ke, ko⟩ := kin
        obtain ⟨f', rfl⟩ : ∃ f', f = f' + 1 := ⟨f - 1, by rw [e0] at kf; simp at kf; omega⟩
        refine ⟨_, fun _ _ n => n, ?_⟩
        refine ⟨_, rfl, _, rfl, sx row, (c : Int), row[c], rfl, rfl, by omega, by omega, by rw [len_sx]; omega, at_sx hc, row[c], _, rfl, rfl, _, rfl, ?_⟩
        refine ite2 (fun h5 => ?_) (fun h5 => ?_)
        · have h5 : isS row[c] = true := by
            have h5 := h5
            rw [mem_spaces] at h5
            exact h5
          refine ⟨_, rfl, _, _, rfl, rfl, m - 1, by omega, c + 1, f', doneR, tas3, o6', by omega, rfl, sm3, k1, k2, ktk, by omega, ?_⟩
          have es : lexRow i (f' + 1) c (row.drop c) = lexRow i f' (c + 1) (row.drop (c + 1)) := by
            rw [e0]
            simp only [lexRow, if_pos h5]
          refine ⟨?_, fun e q => ke e (by rw [es]; exact q), fun us q => ko us (by rw [es]; exact q)⟩
          rw [e0] at kf
          simp only [List.length_cons] at kf
          omega
        · have h5 : ¬ isS row[c] = true := by
            have h5 := h5
            rw [mem_spaces] at h5
            exact h5
          refine ⟨_, rfl, _, rfl, _, rfl, row, i, c, rfl, hlr, hc, fun t ht a H4 na sm4 hta => ?_, fun hn => ?_⟩
          · have j1 := sm4 _ _ k1
            have j2 := sm4 _ _ k2
            obtain ⟨l1, l2⟩ := readTok_len ht
            rw [List.length_drop] at l2
            have hcount : (tas3.map V.ref).length < sizeLine := by
              rw [List.length_map, ktk.length, List.length_append, sizeLine_eq]
              omega
            obtain ⟨dx, hdx⟩ := hta.upd (ys := tas3.map V.ref ++ [V.ref a]) j1
            refine ⟨_, rfl, .inl ⟨rfl, _, SqL.of j1⟩, _, rfl, tl, _, _, rfl, rfl, j1, hcount, ?_⟩
            refine ⟨_, rfl, _, rfl, a, _, dx, _, _, rfl, hdx, T.tok.c, T.tok.n _ (by simp), lk_text, _, rfl, by rw [len_sx]; exact sz5 (by omega), _, _, rfl, rfl, ?_⟩
            refine ⟨m - t.text.length, by omega, c + t.text.length, f', doneR ++ [t], tas3 ++ [a], _, by omega, by rw [len_sx]; rfl, sameUpd (sm3.trans sm4) ntl, by rw [upd_same, List.map_append]; rfl, by rw [upd_ne ntr]; exact j2, ?_, by simp; omega, ?_⟩
            · rw [← List.append_assoc]
              exact Paired_snoc ((ktk.same sm4).upd j1) ⟨dx, hdx⟩
            · have es : ∀ r, lexRow i f' (c + t.text.length) (row.drop (c + t.text.length)) = r → lexRow i (f' + 1) c (row.drop c) = (match r with | .error e => .error e | .ok ts => .ok (t :: ts)) := by
                intro r q
                have ed : (row[c] :: row.drop (c + 1)).drop t.text.length = row.drop (c + t.text.length) := by rw [← e0, List.drop_drop]
                conv => lhs; rw [e0]
                simp only [lexRow, if_neg h5]
                rw [← e0, ht]
                simp only
                rw [e0, ed, q]
                all_goals (cases r <;> rfl)
              refine ⟨?_, fun e q => ke e (by rw [es _ q]), fun us q => ?_⟩
              · rw [List.length_drop] at kf ⊢
                omega
              · have z := ko (t :: us) (by rw [es _ q])
                rw [z, List.append_assoc]
                rfl
          · have es : lexRow i (f' + 1) c (row.drop c) = .error (i, c) := by
              conv => lhs; rw [e0]
              simp only [lexRow, if_neg h5]
              rw [← e0, hn]
            have z1 := ke _ es
            have z2 : lexRows 0 (rowsOf text) = .error (i, c) := hri.1 _ (by rw [hdrop]; simp only [lexRows, z1])
            exact (hE i c (by simp only [tokenize, z2])).mono sm3
      · have hc : c = row.length := by
          have h : ¬ ((c : Nat) : Int) < ((sx row).length : Int) := fun q => h (decide_eq_true q)
          rw [len_sx] at h
          omega
        obtain ⟨kf, ke, ko⟩ := kin
        have ed : row.drop c = [] := by rw [hc]; exact List.drop_length
        have z1 : lexRow i row.length 0 row = .ok doneR := by
          have z := ko [] (by rw [ed]; cases f <;> rfl)
          rw [z, List.append_nil]
        refine ⟨done ++ doneR, tas3, _, _, _, _, rfl, sm3, k1, k2, ktk, by rw [hsum, List.length_append]; omega, fun e q => hri.1 e ?_, fun us q => ?_⟩
        · rw [hdrop]
          simp only [lexRows, z1, q]
        · have z := hri.2 (doneR ++ us) (by rw [hdrop]; simp only [lexRows, z1, q])
          rw [z, List.append_assoc]
    · rintro σ H1 ⟨done, tas, o3, o4, o5, o6, rfl, sm, h1, h2, htk, hdl, hri⟩
      rw [List.length_map, List.length_map] at hri hdl
      have hlen : (rowsOf text).length ≤ text.length + 1 := spl_len text []
      have hdn : done.length ≤ text.length := Nat.le_trans hdl (Nat.le_trans (sum_take _ _) (rows_sum text))
      have z1 : lexRows 0 (rowsOf text) = .ok done := by
        have z := hri.2 [] (by rw [List.drop_length]; rfl)
        rw [z, List.append_nil]
      refine ⟨_, rfl, _, rfl, rl, _, rfl, .inl (SqL.of h2), ?_⟩
      intro x dx0 nx ndx ne0
      refine init_at (names := tokF) rfl nx ndx fun H5 sm5 hx => ⟨rfl, ?_⟩
      refine ⟨(by show 1 ≤ sizeLine; decide), fun l nl => ?_⟩
      have nlt : tl ≠ l := ne_of_none (sm5 _ _ h1) nl
      refine ⟨tl, l, _, _, rfl, rfl, by rw [upd_ne nlt]; exact sm5 _ _ h1, upd_same, ?_, fun p np => ?_⟩
      · rw [List.length_map, htk.length, sizeLine_eq]
        simp
        omega
      · have npl : p ≠ l := by
          rintro rfl
          rw [upd_same] at np
          cases np
        rw [upd_ne npl] at np
        have s1 : Same H5 (upd (upd H5 l (.lst [.ref x])) p (.lst (tas.map V.ref ++ [.ref x]))) := sameUpd (sameUpd (Same.refl H5) nl) np
        have nH : H p = none := (sm.trans sm5).free np
        refine hT (done ++ [⟨.fin, [], (rowsOf text).length, 0⟩]) (by simp only [tokenize, z1]) p (tas ++ [x]) _ nH ((sm.trans sm5).trans s1) (by rw [upd_same, List.map_append]; rfl) ?_
        refine Paired_snoc (htk.same (sm5.trans s1)) ?_
        obtain ⟨dx, hdx⟩ := hx
        refine ⟨dx, ?_⟩
        rw [s1 _ _ hdx, List.length_map, List.length_map, str_nil]
        rfl
end
end Sw

end

section
set_option maxRecDepth 100000
set_option maxHeartbeats 4000000
/-! the parser's object -/
namespace Sw
open PySem PySem.Spec PyProof.Rows L2 SwA
abbrev sV (w : Cs) : V := .str (sx w)
/-- where the parser's parts stand -/
structure PLoc where
  tl : Addr
  fl : Addr
  sl : Addr
  ml : Addr
  rl : Addr
  rd : Addr
  pd : Addr
  sd : Addr
def parF (L : PLoc) (at_ : Nat) : List (Str × V) := [("tokens", .ref L.tl), ("at", .int at_), ("faults", .ref L.fl), ("signs", .ref L.sl), ("moods", .ref L.ml), ("robots", .ref L.rl), ("rules", .ref L.rd), ("pairs", .ref L.pd), ("spots", .ref L.sd)]
def FaultsAt (H : Hp) : Nat → List Addr → List (Nat × Nat × Cs) → Prop
  | _, [], [] => True
  | i, a :: as, f :: fs => H a = some (.tup [.int f.1, .int f.2.1, .int (i : Nat), sV f.2.2]) ∧ FaultsAt H (i + 1) as fs
  | _, _, _ => False
def keyT (q : Nat × Nat) : List Key := [.inl q.1, .inl q.2]
def RuleAt (H : Hp) (r : (Nat × Nat) × Rule) (kv : List Key × V) : Prop := kv.1 = keyT r.1 ∧ ∃ t, kv.2 = .ref t ∧ H t = some (.tup [.int r.2.left, sV r.2.move, .int r.2.later])
def RulesAt (H : Hp) (rd : Addr) (rules : List ((Nat × Nat) × Rule)) : Prop := ∃ kvs, H rd = some (.dT kvs) ∧ Paired (RuleAt H) rules kvs
def RobAt (H : Hp) (a : Addr) (r : Nat × Bool) : Prop := H a = some (.tup [.int r.1, .bl r.2])
def pairK (q : Cs × Cs) : List Key × V := ([.inr (sx q.1), .inr (sx q.2)], .bl true)
def spotK (q : Nat × Nat) : Key × V := (.inl q.1, .int q.2)
/-- the parser at p: its state -/
structure PA (K : PySem.W.Frag) (H0 H : Hp) (p : Addr) (L : PLoc) (tas : List Addr) (T : List Tk) (st : PSt) : Prop where
  same : Same H0 H
  ob : ∃ dx, H p = some (.ins (He.ga K "Parser") dx (parF L st.at_))
  tk : H L.tl = some (.lst (tas.map V.ref))
  tks : TksAt K H tas T
  fa : ∃ fas : List Addr, H L.fl = some (.lst (fas.map V.ref)) ∧ FaultsAt H 0 fas st.faults
  si : H L.sl = some (.lst (st.signs.map sV))
  mo : H L.ml = some (.lst (st.moods.map sV))
  ro : ∃ ras : List Addr, H L.rl = some (.lst (ras.map V.ref)) ∧ Paired (RobAt H) ras st.robots
  ru : RulesAt H L.rd st.rules
  pr : H L.pd = some (.dT (st.pairs.map pairK))
  sp : H L.sd = some (.dK (st.spots.map spotK))
  nd : [p, L.tl, L.fl, L.sl, L.ml, L.rl, L.rd, L.pd, L.sd].Nodup
  new : ∀ a ∈ [p, L.tl, L.fl, L.sl, L.ml, L.rl, L.rd, L.pd, L.sd], H0 a = none
theorem FaultsAt.mono {H H' : Hp} (s : ∀ a xs, H a = some (.tup xs) → H' a = some (.tup xs)) : ∀ {i : Nat} {as : List Addr} {fs : List (Nat × Nat × Cs)}, FaultsAt H i as fs → FaultsAt H' i as fs
  | _, [], [], h => h
  | _, a :: as, f :: fs, h => ⟨s _ _ h.1, FaultsAt.mono s h.2⟩
  | _, [], _ :: _, h => h.elim
  | _, _ :: _, [], h => h.elim
theorem FaultsAt.snoc {H : Hp} {a : Addr} {f : Nat × Nat × Cs} : ∀ {i : Nat} {as : List Addr} {fs : List (Nat × Nat × Cs)}, FaultsAt H i as fs → H a = some (.tup [.int f.1, .int f.2.1, .int ((i + fs.length : Nat) : Int), sV f.2.2]) → FaultsAt H i (as ++ [a]) (fs ++ [f])
  | _, [], [], _, e => ⟨e, trivial⟩
  | i, b :: as, g :: fs, h, e => ⟨h.1, FaultsAt.snoc h.2 (by
      have z : i + 1 + fs.length = i + (g :: fs).length := by simp only [List.length_cons]; omega
      rw [z]
      exact e)⟩
  | _, [], _ :: _, h, _ => h.elim
  | _, _ :: _, [], h, _ => h.elim
theorem FaultsAt.len {H : Hp} : ∀ {i : Nat} {as : List Addr} {fs : List (Nat × Nat × Cs)}, FaultsAt H i as fs → as.length = fs.length
  | _, [], [], _ => rfl
  | _, a :: as, f :: fs, h => by simp [FaultsAt.len h.2]
  | _, [], _ :: _, h => h.elim
  | _, _ :: _, [], h => h.elim
theorem RuleAt.mono {H H' : Hp} (s : ∀ a xs, H a = some (.tup xs) → H' a = some (.tup xs)) {r : (Nat × Nat) × Rule} {kv : List Key × V} (h : RuleAt H r kv) : RuleAt H' r kv :=
  let ⟨e, t, e1, e2⟩ := h
  ⟨e, t, e1, s _ _ e2⟩
section
variable {K : PySem.W.Frag} {H0 H H' : Hp} {p : Addr} {L : PLoc} {tas : List Addr} {T : List Tk} {st : PSt}
/-- more objects -/
theorem PA.mono (h : PA K H0 H p L tas T st) (s : Same H H') : PA K H0 H' p L tas T st where
  same := h.same.trans s
  ob := let ⟨dx, e⟩ := h.ob; ⟨dx, s _ _ e⟩
  tk := s _ _ h.tk
  tks := h.tks.same s
  fa := let ⟨fas, e1, e2⟩ := h.fa; ⟨fas, s _ _ e1, e2.mono fun _ _ z => s _ _ z⟩
  si := s _ _ h.si
  mo := s _ _ h.mo
  ro := let ⟨ras, e1, e2⟩ := h.ro; ⟨ras, s _ _ e1, Paired.mapP e2 fun _ _ z => s _ _ z⟩
  ru := let ⟨kvs, e1, e2⟩ := h.ru; ⟨kvs, s _ _ e1, Paired.mapP e2 fun _ _ z => z.mono fun _ _ z => s _ _ z⟩
  pr := s _ _ h.pr
  sp := s _ _ h.sp
  nd := h.nd
  new := h.new
/-- what is changed is neither a tuple nor an object of another kind: the rest -/
theorem keepT {x : Addr} {o o' : HO} (hx : H x = some o) (ht : ∀ xs, o ≠ .tup xs) : ∀ a xs, H a = some (.tup xs) → (upd H x o') a = some (.tup xs) := fun a xs e => by
  rw [upd_ne (ne_of e hx fun z => ht xs z.symm)]
  exact e
theorem keepK {x : Addr} {o o' : HO} (hx : H x = some o) (hi : ∀ C d fs, o = .ins C d fs → C ≠ He.ga K "Token") : ∀ a t, TokAt K H a t → TokAt K (upd H x o') a t := fun a t ⟨dx, e⟩ => by
  refine ⟨dx, ?_⟩
  rw [upd_ne (ne_of e hx fun z => hi _ _ _ z.symm rfl)]
  exact e
/-- self.at += 1 -/
theorem PA.setAt (h : PA K H0 H p L tas T st) (hPT : He.ga K "Parser" ≠ He.ga K "Token") {dx : Addr} {n : Nat} (e : H p = some (.ins (He.ga K "Parser") dx (parF L st.at_))) :
    PA K H0 (upd H p (.ins (He.ga K "Parser") dx (parF L n))) p L tas T { st with at_ := n } := by
  have z := h.nd
  simp only [List.nodup_cons, List.mem_cons, List.not_mem_nil, or_false, not_or] at z
  obtain ⟨⟨z1, z2, z3, z4, z5, z6, z7, z8⟩, _⟩ := z
  have kt := keepT (o' := .ins (He.ga K "Parser") dx (parF L n)) e (fun xs q => by cases q)
  have kk := keepK (K := K) (o' := .ins (He.ga K "Parser") dx (parF L n)) e (fun C d fs q => by cases q; exact hPT)
  refine ⟨sameUpd h.same (h.new _ (by simp)), ⟨dx, upd_same⟩, ?_, Paired.mapP h.tks fun a t q => kk a t q, ?_, ?_, ?_, ?_, ?_, ?_, ?_, h.nd, h.new⟩
  · rw [upd_ne (Ne.symm z1)]; exact h.tk
  · obtain ⟨fas, e1, e2⟩ := h.fa
    exact ⟨fas, by rw [upd_ne (Ne.symm z2)]; exact e1, e2.mono kt⟩
  · rw [upd_ne (Ne.symm z3)]; exact h.si
  · rw [upd_ne (Ne.symm z4)]; exact h.mo
  · obtain ⟨ras, e1, e2⟩ := h.ro
    exact ⟨ras, by rw [upd_ne (Ne.symm z5)]; exact e1, Paired.mapP e2 fun _ _ q => kt _ _ q⟩
  · obtain ⟨kvs, e1, e2⟩ := h.ru
    exact ⟨kvs, by rw [upd_ne (Ne.symm z6)]; exact e1, Paired.mapP e2 fun _ _ q => q.mono kt⟩
  · rw [upd_ne (Ne.symm z7)]; exact h.pr
  · rw [upd_ne (Ne.symm z8)]; exact h.sp
theorem PA.set_fl (h : PA K H0 H p L tas T st) {fas fas' : List Addr} {fs : List (Nat × Nat × Cs)} (e : H L.fl = some (.lst (fas.map V.ref))) (hn : FaultsAt (upd H L.fl (.lst (fas'.map V.ref))) 0 fas' fs) : PA K H0 (upd H L.fl (.lst (fas'.map V.ref))) p L tas T { st with faults := fs } := by
  have z := h.nd
  simp only [List.nodup_cons, List.mem_cons, List.not_mem_nil, or_false, not_or] at z
  obtain ⟨⟨n_p_tl, n_p_fl, n_p_sl, n_p_ml, n_p_rl, n_p_rd, n_p_pd, n_p_sd⟩, ⟨n_tl_fl, n_tl_sl, n_tl_ml, n_tl_rl, n_tl_rd, n_tl_pd, n_tl_sd⟩, ⟨n_fl_sl, n_fl_ml, n_fl_rl, n_fl_rd, n_fl_pd, n_fl_sd⟩, ⟨n_sl_ml, n_sl_rl, n_sl_rd, n_sl_pd, n_sl_sd⟩, ⟨n_ml_rl, n_ml_rd, n_ml_pd, n_ml_sd⟩, ⟨n_rl_rd, n_rl_pd, n_rl_sd⟩, ⟨n_rd_pd, n_rd_sd⟩, n_pd_sd, _⟩ := z
  have ne_p : p ≠ L.fl := n_p_fl
  have ne_tl : L.tl ≠ L.fl := n_tl_fl
  have ne_sl : L.sl ≠ L.fl := Ne.symm n_fl_sl
  have ne_ml : L.ml ≠ L.fl := Ne.symm n_fl_ml
  have ne_rl : L.rl ≠ L.fl := Ne.symm n_fl_rl
  have ne_rd : L.rd ≠ L.fl := Ne.symm n_fl_rd
  have ne_pd : L.pd ≠ L.fl := Ne.symm n_fl_pd
  have ne_sd : L.sd ≠ L.fl := Ne.symm n_fl_sd
  have kt := keepT (o' := .lst (fas'.map V.ref)) e (fun xs q => by cases q)
  have kk := keepK (K := K) (o' := .lst (fas'.map V.ref)) e (fun C d fs q => by cases q)
  exact ⟨sameUpd h.same (h.new _ (by simp)), (let ⟨dx, q⟩ := h.ob; ⟨dx, (upd_ne ne_p).trans q⟩), (upd_ne ne_tl).trans h.tk, Paired.mapP h.tks fun a t q => kk a t q,
    ⟨fas', upd_same, hn⟩,
    ((upd_ne (ne_sl)).trans h.si),
    ((upd_ne (ne_ml)).trans h.mo),
    (let ⟨ras, e1, e2⟩ := h.ro; ⟨ras, (upd_ne (ne_rl)).trans e1, Paired.mapP e2 fun _ _ q => kt _ _ q⟩),
    (let ⟨kvs, e1, e2⟩ := h.ru; ⟨kvs, (upd_ne (ne_rd)).trans e1, Paired.mapP e2 fun _ _ q => q.mono kt⟩),
    ((upd_ne (ne_pd)).trans h.pr),
    ((upd_ne (ne_sd)).trans h.sp), h.nd, h.new⟩
theorem PA.set_sl (h : PA K H0 H p L tas T st) {xs : List V} {ws : List Cs} (e : H L.sl = some (.lst xs)) (hn : True) : PA K H0 (upd H L.sl (.lst (ws.map sV))) p L tas T { st with signs := ws } := by
  have z := h.nd
  simp only [List.nodup_cons, List.mem_cons, List.not_mem_nil, or_false, not_or] at z
  obtain ⟨⟨n_p_tl, n_p_fl, n_p_sl, n_p_ml, n_p_rl, n_p_rd, n_p_pd, n_p_sd⟩, ⟨n_tl_fl, n_tl_sl, n_tl_ml, n_tl_rl, n_tl_rd, n_tl_pd, n_tl_sd⟩, ⟨n_fl_sl, n_fl_ml, n_fl_rl, n_fl_rd, n_fl_pd, n_fl_sd⟩, ⟨n_sl_ml, n_sl_rl, n_sl_rd, n_sl_pd, n_sl_sd⟩, ⟨n_ml_rl, n_ml_rd, n_ml_pd, n_ml_sd⟩, ⟨n_rl_rd, n_rl_pd, n_rl_sd⟩, ⟨n_rd_pd, n_rd_sd⟩, n_pd_sd, _⟩ := z
  have ne_p : p ≠ L.sl := n_p_sl
  have ne_tl : L.tl ≠ L.sl := n_tl_sl
  have ne_fl : L.fl ≠ L.sl := n_fl_sl
  have ne_ml : L.ml ≠ L.sl := Ne.symm n_sl_ml
  have ne_rl : L.rl ≠ L.sl := Ne.symm n_sl_rl
  have ne_rd : L.rd ≠ L.sl := Ne.symm n_sl_rd
  have ne_pd : L.pd ≠ L.sl := Ne.symm n_sl_pd
  have ne_sd : L.sd ≠ L.sl := Ne.symm n_sl_sd
  have kt := keepT (o' := .lst (ws.map sV)) e (fun xs q => by cases q)
  have kk := keepK (K := K) (o' := .lst (ws.map sV)) e (fun C d fs q => by cases q)
  exact ⟨sameUpd h.same (h.new _ (by simp)), (let ⟨dx, q⟩ := h.ob; ⟨dx, (upd_ne ne_p).trans q⟩), (upd_ne ne_tl).trans h.tk, Paired.mapP h.tks fun a t q => kk a t q,
    (let ⟨fas, e1, e2⟩ := h.fa; ⟨fas, (upd_ne (ne_fl)).trans e1, e2.mono kt⟩),
    upd_same,
    ((upd_ne (ne_ml)).trans h.mo),
    (let ⟨ras, e1, e2⟩ := h.ro; ⟨ras, (upd_ne (ne_rl)).trans e1, Paired.mapP e2 fun _ _ q => kt _ _ q⟩),
    (let ⟨kvs, e1, e2⟩ := h.ru; ⟨kvs, (upd_ne (ne_rd)).trans e1, Paired.mapP e2 fun _ _ q => q.mono kt⟩),
    ((upd_ne (ne_pd)).trans h.pr),
    ((upd_ne (ne_sd)).trans h.sp), h.nd, h.new⟩
theorem PA.set_ml (h : PA K H0 H p L tas T st) {xs : List V} {ws : List Cs} (e : H L.ml = some (.lst xs)) (hn : True) : PA K H0 (upd H L.ml (.lst (ws.map sV))) p L tas T { st with moods := ws } := by
  have z := h.nd
  simp only [List.nodup_cons, List.mem_cons, List.not_mem_nil, or_false, not_or] at z
  obtain ⟨⟨n_p_tl, n_p_fl, n_p_sl, n_p_ml, n_p_rl, n_p_rd, n_p_pd, n_p_sd⟩, ⟨n_tl_fl, n_tl_sl, n_tl_ml, n_tl_rl, n_tl_rd, n_tl_pd, n_tl_sd⟩, ⟨n_fl_sl, n_fl_ml, n_fl_rl, n_fl_rd, n_fl_pd, n_fl_sd⟩, ⟨n_sl_ml, n_sl_rl, n_sl_rd, n_sl_pd, n_sl_sd⟩, ⟨n_ml_rl, n_ml_rd, n_ml_pd, n_ml_sd⟩, ⟨n_rl_rd, n_rl_pd, n_rl_sd⟩, ⟨n_rd_pd, n_rd_sd⟩, n_pd_sd, _⟩ := z
  have ne_p : p ≠ L.ml := n_p_ml
  have ne_tl : L.tl ≠ L.ml := n_tl_ml
  have ne_fl : L.fl ≠ L.ml := n_fl_ml
  have ne_sl : L.sl ≠ L.ml := n_sl_ml
  have ne_rl : L.rl ≠ L.ml := Ne.symm n_ml_rl
  have ne_rd : L.rd ≠ L.ml := Ne.symm n_ml_rd
  have ne_pd : L.pd ≠ L.ml := Ne.symm n_ml_pd
  have ne_sd : L.sd ≠ L.ml := Ne.symm n_ml_sd
  have kt := keepT (o' := .lst (ws.map sV)) e (fun xs q => by cases q)
  have kk := keepK (K := K) (o' := .lst (ws.map sV)) e (fun C d fs q => by cases q)
  exact ⟨sameUpd h.same (h.new _ (by simp)), (let ⟨dx, q⟩ := h.ob; ⟨dx, (upd_ne ne_p).trans q⟩), (upd_ne ne_tl).trans h.tk, Paired.mapP h.tks fun a t q => kk a t q,
    (let ⟨fas, e1, e2⟩ := h.fa; ⟨fas, (upd_ne (ne_fl)).trans e1, e2.mono kt⟩),
    ((upd_ne (ne_sl)).trans h.si),
    upd_same,
    (let ⟨ras, e1, e2⟩ := h.ro; ⟨ras, (upd_ne (ne_rl)).trans e1, Paired.mapP e2 fun _ _ q => kt _ _ q⟩),
    (let ⟨kvs, e1, e2⟩ := h.ru; ⟨kvs, (upd_ne (ne_rd)).trans e1, Paired.mapP e2 fun _ _ q => q.mono kt⟩),
    ((upd_ne (ne_pd)).trans h.pr),
    ((upd_ne (ne_sd)).trans h.sp), h.nd, h.new⟩
theorem PA.set_rl (h : PA K H0 H p L tas T st) {xs : List V} {ras : List Addr} {rs : List (Nat × Bool)} (e : H L.rl = some (.lst xs)) (hn : Paired (RobAt (upd H L.rl (.lst (ras.map V.ref)))) ras rs) : PA K H0 (upd H L.rl (.lst (ras.map V.ref))) p L tas T { st with robots := rs } := by
  have z := h.nd
  simp only [List.nodup_cons, List.mem_cons, List.not_mem_nil, or_false, not_or] at z
  obtain ⟨⟨n_p_tl, n_p_fl, n_p_sl, n_p_ml, n_p_rl, n_p_rd, n_p_pd, n_p_sd⟩, ⟨n_tl_fl, n_tl_sl, n_tl_ml, n_tl_rl, n_tl_rd, n_tl_pd, n_tl_sd⟩, ⟨n_fl_sl, n_fl_ml, n_fl_rl, n_fl_rd, n_fl_pd, n_fl_sd⟩, ⟨n_sl_ml, n_sl_rl, n_sl_rd, n_sl_pd, n_sl_sd⟩, ⟨n_ml_rl, n_ml_rd, n_ml_pd, n_ml_sd⟩, ⟨n_rl_rd, n_rl_pd, n_rl_sd⟩, ⟨n_rd_pd, n_rd_sd⟩, n_pd_sd, _⟩ := z
  have ne_p : p ≠ L.rl := n_p_rl
  have ne_tl : L.tl ≠ L.rl := n_tl_rl
  have ne_fl : L.fl ≠ L.rl := n_fl_rl
  have ne_sl : L.sl ≠ L.rl := n_sl_rl
  have ne_ml : L.ml ≠ L.rl := n_ml_rl
  have ne_rd : L.rd ≠ L.rl := Ne.symm n_rl_rd
  have ne_pd : L.pd ≠ L.rl := Ne.symm n_rl_pd
  have ne_sd : L.sd ≠ L.rl := Ne.symm n_rl_sd
  have kt := keepT (o' := .lst (ras.map V.ref)) e (fun xs q => by cases q)
  have kk := keepK (K := K) (o' := .lst (ras.map V.ref)) e (fun C d fs q => by cases q)
  exact ⟨sameUpd h.same (h.new _ (by simp)), (let ⟨dx, q⟩ := h.ob; ⟨dx, (upd_ne ne_p).trans q⟩), (upd_ne ne_tl).trans h.tk, Paired.mapP h.tks fun a t q => kk a t q,
    (let ⟨fas, e1, e2⟩ := h.fa; ⟨fas, (upd_ne (ne_fl)).trans e1, e2.mono kt⟩),
    ((upd_ne (ne_sl)).trans h.si),
    ((upd_ne (ne_ml)).trans h.mo),
    ⟨ras, upd_same, hn⟩,
    (let ⟨kvs, e1, e2⟩ := h.ru; ⟨kvs, (upd_ne (ne_rd)).trans e1, Paired.mapP e2 fun _ _ q => q.mono kt⟩),
    ((upd_ne (ne_pd)).trans h.pr),
    ((upd_ne (ne_sd)).trans h.sp), h.nd, h.new⟩
theorem PA.set_rd (h : PA K H0 H p L tas T st) {kvs kvs' : List (List Key × V)} {rs : List ((Nat × Nat) × Rule)} (e : H L.rd = some (.dT kvs)) (hn : Paired (RuleAt (upd H L.rd (.dT kvs'))) rs kvs') : PA K H0 (upd H L.rd (.dT kvs')) p L tas T { st with rules := rs } := by
  have z := h.nd
  simp only [List.nodup_cons, List.mem_cons, List.not_mem_nil, or_false, not_or] at z
  obtain ⟨⟨n_p_tl, n_p_fl, n_p_sl, n_p_ml, n_p_rl, n_p_rd, n_p_pd, n_p_sd⟩, ⟨n_tl_fl, n_tl_sl, n_tl_ml, n_tl_rl, n_tl_rd, n_tl_pd, n_tl_sd⟩, ⟨n_fl_sl, n_fl_ml, n_fl_rl, n_fl_rd, n_fl_pd, n_fl_sd⟩, ⟨n_sl_ml, n_sl_rl, n_sl_rd, n_sl_pd, n_sl_sd⟩, ⟨n_ml_rl, n_ml_rd, n_ml_pd, n_ml_sd⟩, ⟨n_rl_rd, n_rl_pd, n_rl_sd⟩, ⟨n_rd_pd, n_rd_sd⟩, n_pd_sd, _⟩ := z
  have ne_p : p ≠ L.rd := n_p_rd
  have ne_tl : L.tl ≠ L.rd := n_tl_rd
  have ne_fl : L.fl ≠ L.rd := n_fl_rd
  have ne_sl : L.sl ≠ L.rd := n_sl_rd
  have ne_ml : L.ml ≠ L.rd := n_ml_rd
  have ne_rl : L.rl ≠ L.rd := n_rl_rd
  have ne_pd : L.pd ≠ L.rd := Ne.symm n_rd_pd
  have ne_sd : L.sd ≠ L.rd := Ne.symm n_rd_sd
  have kt := keepT (o' := .dT kvs') e (fun xs q => by cases q)
  have kk := keepK (K := K) (o' := .dT kvs') e (fun C d fs q => by cases q)
  exact ⟨sameUpd h.same (h.new _ (by simp)), (let ⟨dx, q⟩ := h.ob; ⟨dx, (upd_ne ne_p).trans q⟩), (upd_ne ne_tl).trans h.tk, Paired.mapP h.tks fun a t q => kk a t q,
    (let ⟨fas, e1, e2⟩ := h.fa; ⟨fas, (upd_ne (ne_fl)).trans e1, e2.mono kt⟩),
    ((upd_ne (ne_sl)).trans h.si),
    ((upd_ne (ne_ml)).trans h.mo),
    (let ⟨ras, e1, e2⟩ := h.ro; ⟨ras, (upd_ne (ne_rl)).trans e1, Paired.mapP e2 fun _ _ q => kt _ _ q⟩),
    ⟨kvs', upd_same, hn⟩,
    ((upd_ne (ne_pd)).trans h.pr),
    ((upd_ne (ne_sd)).trans h.sp), h.nd, h.new⟩
theorem PA.set_pd (h : PA K H0 H p L tas T st) {kvs : List (List Key × V)} {ps : List (Cs × Cs)} (e : H L.pd = some (.dT kvs)) (hn : True) : PA K H0 (upd H L.pd (.dT (ps.map pairK))) p L tas T { st with pairs := ps } := by
  have z := h.nd
  simp only [List.nodup_cons, List.mem_cons, List.not_mem_nil, or_false, not_or] at z
  obtain ⟨⟨n_p_tl, n_p_fl, n_p_sl, n_p_ml, n_p_rl, n_p_rd, n_p_pd, n_p_sd⟩, ⟨n_tl_fl, n_tl_sl, n_tl_ml, n_tl_rl, n_tl_rd, n_tl_pd, n_tl_sd⟩, ⟨n_fl_sl, n_fl_ml, n_fl_rl, n_fl_rd, n_fl_pd, n_fl_sd⟩, ⟨n_sl_ml, n_sl_rl, n_sl_rd, n_sl_pd, n_sl_sd⟩, ⟨n_ml_rl, n_ml_rd, n_ml_pd, n_ml_sd⟩, ⟨n_rl_rd, n_rl_pd, n_rl_sd⟩, ⟨n_rd_pd, n_rd_sd⟩, n_pd_sd, _⟩ := z
  have ne_p : p ≠ L.pd := n_p_pd
  have ne_tl : L.tl ≠ L.pd := n_tl_pd
  have ne_fl : L.fl ≠ L.pd := n_fl_pd
  have ne_sl : L.sl ≠ L.pd := n_sl_pd
  have ne_ml : L.ml ≠ L.pd := n_ml_pd
  have ne_rl : L.rl ≠ L.pd := n_rl_pd
  have ne_rd : L.rd ≠ L.pd := n_rd_pd
  have ne_sd : L.sd ≠ L.pd := Ne.symm n_pd_sd
  have kt := keepT (o' := .dT (ps.map pairK)) e (fun xs q => by cases q)
  have kk := keepK (K := K) (o' := .dT (ps.map pairK)) e (fun C d fs q => by cases q)
  exact ⟨sameUpd h.same (h.new _ (by simp)), (let ⟨dx, q⟩ := h.ob; ⟨dx, (upd_ne ne_p).trans q⟩), (upd_ne ne_tl).trans h.tk, Paired.mapP h.tks fun a t q => kk a t q,
    (let ⟨fas, e1, e2⟩ := h.fa; ⟨fas, (upd_ne (ne_fl)).trans e1, e2.mono kt⟩),
    ((upd_ne (ne_sl)).trans h.si),
    ((upd_ne (ne_ml)).trans h.mo),
    (let ⟨ras, e1, e2⟩ := h.ro; ⟨ras, (upd_ne (ne_rl)).trans e1, Paired.mapP e2 fun _ _ q => kt _ _ q⟩),
    (let ⟨kvs, e1, e2⟩ := h.ru; ⟨kvs, (upd_ne (ne_rd)).trans e1, Paired.mapP e2 fun _ _ q => q.mono kt⟩),
    upd_same,
    ((upd_ne (ne_sd)).trans h.sp), h.nd, h.new⟩
theorem PA.set_sd (h : PA K H0 H p L tas T st) {kvs : List (Key × V)} {ps : List (Nat × Nat)} (e : H L.sd = some (.dK kvs)) (hn : True) : PA K H0 (upd H L.sd (.dK (ps.map spotK))) p L tas T { st with spots := ps } := by
  have z := h.nd
  simp only [List.nodup_cons, List.mem_cons, List.not_mem_nil, or_false, not_or] at z
  obtain ⟨⟨n_p_tl, n_p_fl, n_p_sl, n_p_ml, n_p_rl, n_p_rd, n_p_pd, n_p_sd⟩, ⟨n_tl_fl, n_tl_sl, n_tl_ml, n_tl_rl, n_tl_rd, n_tl_pd, n_tl_sd⟩, ⟨n_fl_sl, n_fl_ml, n_fl_rl, n_fl_rd, n_fl_pd, n_fl_sd⟩, ⟨n_sl_ml, n_sl_rl, n_sl_rd, n_sl_pd, n_sl_sd⟩, ⟨n_ml_rl, n_ml_rd, n_ml_pd, n_ml_sd⟩, ⟨n_rl_rd, n_rl_pd, n_rl_sd⟩, ⟨n_rd_pd, n_rd_sd⟩, n_pd_sd, _⟩ := z
  have ne_p : p ≠ L.sd := n_p_sd
  have ne_tl : L.tl ≠ L.sd := n_tl_sd
  have ne_fl : L.fl ≠ L.sd := n_fl_sd
  have ne_sl : L.sl ≠ L.sd := n_sl_sd
  have ne_ml : L.ml ≠ L.sd := n_ml_sd
  have ne_rl : L.rl ≠ L.sd := n_rl_sd
  have ne_rd : L.rd ≠ L.sd := n_rd_sd
  have ne_pd : L.pd ≠ L.sd := n_pd_sd
  have kt := keepT (o' := .dK (ps.map spotK)) e (fun xs q => by cases q)
  have kk := keepK (K := K) (o' := .dK (ps.map spotK)) e (fun C d fs q => by cases q)
  exact ⟨sameUpd h.same (h.new _ (by simp)), (let ⟨dx, q⟩ := h.ob; ⟨dx, (upd_ne ne_p).trans q⟩), (upd_ne ne_tl).trans h.tk, Paired.mapP h.tks fun a t q => kk a t q,
    (let ⟨fas, e1, e2⟩ := h.fa; ⟨fas, (upd_ne (ne_fl)).trans e1, e2.mono kt⟩),
    ((upd_ne (ne_sl)).trans h.si),
    ((upd_ne (ne_ml)).trans h.mo),
    (let ⟨ras, e1, e2⟩ := h.ro; ⟨ras, (upd_ne (ne_rl)).trans e1, Paired.mapP e2 fun _ _ q => kt _ _ q⟩),
    (let ⟨kvs, e1, e2⟩ := h.ru; ⟨kvs, (upd_ne (ne_rd)).trans e1, Paired.mapP e2 fun _ _ q => q.mono kt⟩),
    ((upd_ne (ne_pd)).trans h.pr),
    upd_same, h.nd, h.new⟩
end
end Sw

end

section
set_option maxRecDepth 100000
set_option maxHeartbeats 4000000
/-! the parser's small methods -/
namespace Sw
open PySem PySem.Spec PyProof.Rows L2 SwA
/-- a method of a class -/
structure MeT (K : PySem.W.Frag) (C m q : Str) (st : Stmt) : Prop where
  d : FD K (C, some m) m q st
  m : Meth K (He.ga K C) m (He.ma K (He.ga K C) m)
structure ParT (K : PySem.W.Frag) (mg : Str → Option Value) : Prop where
  l : LexT K mg
  par : MkC K mg "Parser" parN
  ne : He.ga K "Parser" ≠ He.ga K "Token"
  int : mg "int" = none
  tuple : mg "tuple" = none
  range : mg "range" = none
  init : FD K ("Parser", some "__init__") "__init__" "Parser.__init__" s_Parser_init
  peek : MeT K "Parser" "peek" "Parser.peek" s_Parser_peek
  fail : MeT K "Parser" "fail" "Parser.fail" s_Parser_fail
  found : MeT K "Parser" "found" "Parser.found" s_Parser_found
  take : MeT K "Parser" "take" "Parser.take" s_Parser_take
  take_word : MeT K "Parser" "take_word" "Parser.take_word" s_Parser_take_word
  take_keyword : MeT K "Parser" "take_keyword" "Parser.take_keyword" s_Parser_take_keyword
  parse_names : MeT K "Parser" "parse_names" "Parser.parse_names" s_Parser_parse_names
  number_of : MeT K "Parser" "number_of" "Parser.number_of" s_Parser_number_of
  tile_of : MeT K "Parser" "tile_of" "Parser.tile_of" s_Parser_tile_of
  parse_robot : MeT K "Parser" "parse_robot" "Parser.parse_robot" s_Parser_parse_robot
  parse_put : MeT K "Parser" "parse_put" "Parser.parse_put" s_Parser_parse_put
  parse_rule : MeT K "Parser" "parse_rule" "Parser.parse_rule" s_Parser_parse_rule
  parse_plan : MeT K "Parser" "parse_plan" "Parser.parse_plan" s_Parser_parse_plan
  MAX_TILES : ∃ t, mg "MAX_TILES" = some (.int 16 t)
  MAX_SIGNS : ∃ t, mg "MAX_SIGNS" = some (.int 4 t)
  MAX_MOODS : ∃ t, mg "MAX_MOODS" = some (.int 6 t)
  MAX_ROBOTS : ∃ t, mg "MAX_ROBOTS" = some (.int 3 t)
  WAYS : mg nWays = some (.ref (He.ga K nWays))
  ways : ∀ H : Hp, SqT K H (He.ga K nWays) (ways.map fun w => V.str (sx w))
  MOVES : mg "MOVES" = some (.ref (He.ga K "MOVES"))
  moves : ∀ H : Hp, SqT K H (He.ga K "MOVES") (moves.map fun w => V.str (sx w))
/-- a token of the list -/
def TI (tas : List Addr) (T : List Tk) (a : Addr) (t : Tk) : Prop := ∃ i : Nat, tas[i]? = some a ∧ T[i]? = some t
theorem Paired_get {α β : Type} {F : α → β → Prop} : ∀ {l : List α} {m : List β} {i : Nat} {a : α} {b : β}, Paired F l m → l[i]? = some a → m[i]? = some b → F a b
  | _, _, i, _, _, .nil, h, _ => by simp at h
  | _, _, 0, _, _, .cons x r, h, h2 => by simp at h h2; subst h; subst h2; exact x
  | _, _, i + 1, _, _, .cons x r, h, h2 => Paired_get r (by simpa using h) (by simpa using h2)
section
variable {K : PySem.W.Frag} {H0 H H' : Hp} {p : Addr} {L : PLoc} {tas : List Addr} {T : List Tk} {st : PSt}
theorem PA.get (h : PA K H0 H p L tas T st) {a : Addr} {t : Tk} (q : TI tas T a t) : TokAt K H a t := let ⟨_, e1, e2⟩ := q; Paired_get h.tks e1 e2
theorem PA.here (h : PA K H0 H p L tas T st) (hi : st.at_ < T.length) : ∃ a, tas[st.at_]? = some a ∧ TI tas T a (peek T st) := by
  have hl := h.tks.length
  have h2 : st.at_ < tas.length := by omega
  refine ⟨tas[st.at_], List.getElem?_eq_getElem h2, st.at_, List.getElem?_eq_getElem h2, ?_⟩
  unfold peek
  rw [List.getD_eq_getElem?_getD, List.getElem?_eq_getElem hi]
  rfl
end
theorem lp_tokens {L : PLoc} {n : Nat} : (parF L n).lookup ("tokens" : Str) = some (V.ref L.tl) := by kernel_rfl
theorem lp_at {L : PLoc} {n : Nat} : (parF L n).lookup ("at" : Str) = some (V.int n) := by kernel_rfl
theorem lp_faults {L : PLoc} {n : Nat} : (parF L n).lookup ("faults" : Str) = some (V.ref L.fl) := by kernel_rfl
theorem lp_signs {L : PLoc} {n : Nat} : (parF L n).lookup ("signs" : Str) = some (V.ref L.sl) := by kernel_rfl
theorem lp_moods {L : PLoc} {n : Nat} : (parF L n).lookup ("moods" : Str) = some (V.ref L.ml) := by kernel_rfl
theorem lp_robots {L : PLoc} {n : Nat} : (parF L n).lookup ("robots" : Str) = some (V.ref L.rl) := by kernel_rfl
theorem lp_rules {L : PLoc} {n : Nat} : (parF L n).lookup ("rules" : Str) = some (V.ref L.rd) := by kernel_rfl
theorem lp_pairs {L : PLoc} {n : Nat} : (parF L n).lookup ("pairs" : Str) = some (V.ref L.pd) := by kernel_rfl
theorem lp_spots {L : PLoc} {n : Nat} : (parF L n).lookup ("spots" : Str) = some (V.ref L.sd) := by kernel_rfl
theorem lp_no_peek {L : PLoc} {n : Nat} : (parF L n).lookup ("peek" : Str) = none := by kernel_rfl
theorem lp_no_fail {L : PLoc} {n : Nat} : (parF L n).lookup ("fail" : Str) = none := by kernel_rfl
theorem lp_no_found {L : PLoc} {n : Nat} : (parF L n).lookup ("found" : Str) = none := by kernel_rfl
theorem lp_no_take {L : PLoc} {n : Nat} : (parF L n).lookup ("take" : Str) = none := by kernel_rfl
theorem lp_no_take_word {L : PLoc} {n : Nat} : (parF L n).lookup ("take_word" : Str) = none := by kernel_rfl
theorem lp_no_take_keyword {L : PLoc} {n : Nat} : (parF L n).lookup ("take_keyword" : Str) = none := by kernel_rfl
theorem put_at {L : PLoc} {n : Nat} {v : Int} (m : Nat) (e : v = m) : putF "at" (.int v) (parF L n) = parF L m := by subst e; kernel_rfl
section
variable {P : Program} {w : World} {K : PySem.W.Frag} {mg : Str → Option Value} {base : Heap}
/-! ### peek, fail -/
def spPeek (K : PySem.W.Frag) : Sp := fun vs H Q _ => ∃ (H0 : Hp) (p : Addr) (L : PLoc) (tas : List Addr) (T : List Tk) (st : PSt), vs = [.ref p] ∧ PA K H0 H p L tas T st ∧ st.at_ < T.length ∧
  ∀ a, TI tas T a (peek T st) → Q (.ref a) H
theorem sc_peek : FnScope ["self"] ["self"] (defScope s_Parser_peek) := ⟨rfl, rfl, rfl, by decide +kernel, rfl, by decide +kernel, by decide +kernel⟩
theorem ok_peek (T : ParT K mg) : FnE P w K mg base CX0 1 ("Parser", some "peek") ["self"] (spPeek K) := by
  obtain ⟨fd, F⟩ := T.peek.d
  refine ⟨fd, F.ok sc_peek (fun vs H Q E h => ?_) (fun cdv A outer s H vs Q E hr h => ?_), F.bindsN fun _ _ _ _ _ _ us hl => match us, hl with | [_], _ => rfl, F.kp⟩
  · obtain ⟨H0, p, L, tas, Ts, st, rfl, _⟩ := h
    rfl
  · obtain ⟨H0, p, L, tas, Ts, st, rfl, hP, hi, k⟩ := h
    refine ⟨_, PSs.nox (pss_one (ps_ret (pe_ix ix_list (pe_fld (pv 0) rfl) (pe_fld (pv 0) rfl) (fun _ _ => rfl)))), ?_⟩
    obtain ⟨dx, ob⟩ := hP.ob
    obtain ⟨a, ha, hta⟩ := hP.here hi
    exact ⟨_, rfl, p, _, dx, _, _, rfl, ob, T.par.c, T.par.n _ (by simp), lp_tokens, _, rfl, p, _, dx, _, _, rfl, ob, T.par.c, T.par.n _ (by simp), lp_at, L.tl, _, _, _, rfl, rfl, SqL.of hP.tk, atI_nat (by rw [List.getElem?_map, ha]; rfl), k a hta⟩
def spFail (K : PySem.W.Frag) : Sp := fun vs H _ E => ∃ (H0 : Hp) (p : Addr) (L : PLoc) (tas : List Addr) (T : List Tk) (st : PSt), vs = [.ref p] ∧ PA K H0 H p L tas T st ∧ st.at_ < T.length ∧
  Syn K H0 E (failAt T st).1 (failAt T st).2
theorem sc_fail : FnScope ["self", "token"] ["self"] (defScope s_Parser_fail) := ⟨rfl, rfl, rfl, by decide +kernel, rfl, by decide +kernel, by decide +kernel⟩
theorem ok_fail (T : ParT K mg) : FnE P w K mg base (L2.CX P w) 3 ("Parser", some "fail") ["self"] (spFail K) := by
  obtain ⟨fd, F⟩ := T.fail.d
  obtain ⟨fdP, GP, bP, kP⟩ := ok_peek (P := P) (w := w) (base := base) T
  obtain ⟨fdS, GS, bS, kS⟩ := ok_syn (P := P) (w := w) (base := base) T.l.e
  refine ⟨fd, F.ok sc_fail (fun vs H Q E h => ?_) (fun cdv A outer s H vs Q E hr h => ?_), F.bindsN fun _ _ _ _ _ _ us hl => match us, hl with | [_], _ => rfl, F.kp⟩
  · obtain ⟨H0, p, L, tas, Ts, st, rfl, _⟩ := h
    rfl
  · obtain ⟨H0, p, L, tas, Ts, st, rfl, hP, hi, k⟩ := h
    have hr1 : Room 1 _ := hr.mono (by decide)
    refine ⟨_, (pss_cons (ps_set (i := 1) sc_fail.nd rfl (.inl rfl) (pe_meth0 (pv 0) T.par.c T.peek.m GP hr1 bP .nil pass0))
      (pss_one (ps_raise rfl (takes_of rfl rfl rfl rfl) (pmk_oex T.l.e.syn.o T.l.e.syn.i T.l.e.syn.t GS hr bS .nil pass0 rfl T.l.e.syn.g (pa_cons (pe_fld (pv 1) rfl) (pa_cons (pe_fld (pv 1) rfl) pa_nil)))))), ?_⟩
    obtain ⟨dx, ob⟩ := hP.ob
    refine ⟨_, rfl, p, dx, _, rfl, ob, lp_no_peek, H0, p, L, tas, Ts, st, rfl, hP, hi, fun a hta => ?_⟩
    obtain ⟨dt, ht⟩ := hP.get hta
    refine ⟨_, rfl, a, _, dt, _, _, rfl, ht, T.l.tok.c, T.l.tok.n _ (by simp), lk_line, _, rfl, a, _, dt, _, _, rfl, ht, T.l.tok.c, T.l.tok.n _ (by simp), lk_col, fault_at rfl (by simp) fun d H2 _ sm hx => ?_⟩
    exact k d H2 (hP.same.trans sm) hx
end
end Sw

end

section
set_option maxRecDepth 100000
set_option maxHeartbeats 4000000
/-! the parser's small methods, further -/
namespace Sw
open PySem PySem.Spec PyProof.Rows L2 SwA
/-- what a method's end asks: a value and the parser's next state, or a SyntaxFault -/
structure Res {α : Type} (K : PySem.W.Frag) (H0 : Hp) (p : Addr) (L : PLoc) (tas : List Addr) (T : List Tk) (r : PR α) (Q : VK) (E : XK) (ret : α → V → Prop) : Prop where
  ok : ∀ x s1, r = .ok (x, s1) → ∀ (v : V) (H' : Hp), ret x v → PA K H0 H' p L tas T s1 → Q v H'
  er : ∀ l c, r = .error (l, c) → Syn K H0 E l c
def retT (tas : List Addr) (T : List Tk) (t : Tk) (v : V) : Prop := ∃ a, v = .ref a ∧ TI tas T a t
def retU (_ : Unit) (v : V) : Prop := v = .non
def retN (n : Nat) (v : V) : Prop := v = .int n
theorem kd_inj : ∀ {a b : Kd}, a.str = b.str → a = b := by
  intro a b
  cases a <;> cases b <;> first | exact fun _ => rfl | exact fun h => absurd h (by decide +kernel)
section
variable {P : Program} {w : World} {K : PySem.W.Frag} {mg : Str → Option Value} {base : Heap}
/-! ### found -/
def spFound (K : PySem.W.Frag) : Sp := fun vs H Q _ => ∃ (H0 : Hp) (p : Addr) (L : PLoc) (tas : List Addr) (T : List Tk) (st : PSt) (reason : Cs) (a : Addr) (t : Tk), vs = [.ref p, sV reason, .ref a] ∧ PA K H0 H p L tas T st ∧
  TI tas T a t ∧ st.faults.length ≤ 1000000 ∧ ∀ H', PA K H0 H' p L tas T (st.found reason t) → Q .non H'
theorem sc_found : FnScope ["self", "reason", "token"] ["self", "reason", "token"] (defScope s_Parser_found) := ⟨rfl, rfl, rfl, by decide +kernel, rfl, by decide +kernel, by decide +kernel⟩
theorem ok_found (T : ParT K mg) : FnE P w K mg base CX0 1 ("Parser", some "found") ["self", "reason", "token"] (spFound K) := by
  obtain ⟨fd, F⟩ := T.found.d
  refine ⟨fd, F.ok sc_found (fun vs H Q E h => ?_) (fun cdv A outer s H vs Q E hr h => ?_), F.bindsN fun _ _ _ _ _ _ us hl => match us, hl with | [_, _, _], _ => rfl, F.kp⟩
  · obtain ⟨H0, p, L, tas, Ts, st, reason, a, t, rfl, _⟩ := h
    rfl
  · obtain ⟨H0, p, L, tas, Ts, st, reason, a, t, rfl, hP, hta, hz, k⟩ := h
    refine ⟨_, PSs.nox (pss_one (ps_expr (pe_bm PySem.F.plainAttrs_list PySem.F.slot_list_append PySem.F.type_list_append mt_append (pe_fld (pv 0) rfl)
      (pa_cons (pe_tup (pa_cons (pe_fld (pv 2) rfl) (pa_cons (pe_fld (pv 2) rfl) (pa_cons (pe_callB call_len_seq (by rfl) T.l.len boot_len (pa_cons (pe_fld (pv 0) rfl) pa_nil)) (pa_cons (pv 1) pa_nil))))) pa_nil)))), ?_⟩
    obtain ⟨dx, ob⟩ := hP.ob
    obtain ⟨dt, ht⟩ := hP.get hta
    obtain ⟨fas, hf, hfs⟩ := hP.fa
    refine ⟨_, rfl, p, _, dx, _, _, rfl, ob, T.par.c, T.par.n _ (by simp), lp_faults, .inl ⟨rfl, _, SqL.of hf⟩, ?_⟩
    refine ⟨_, rfl, a, _, dt, _, _, rfl, ht, T.l.tok.c, T.l.tok.n _ (by simp), lk_line, _, rfl, a, _, dt, _, _, rfl, ht, T.l.tok.c, T.l.tok.n _ (by simp), lk_col, _, rfl, p, _, dx, _, _, rfl, ob, T.par.c, T.par.n _ (by simp), lp_faults, L.fl, _, rfl, .inl (SqL.of hf), _, rfl,
      (by show 4 ≤ sizeLine; decide), fun tu ntu => ?_⟩
    have nf : L.fl ≠ tu := ne_of_none hf ntu
    have hlen : (fas.map V.ref).length < sizeLine := by
      rw [List.length_map, hfs.len, sizeLine_eq]
      omega
    refine ⟨L.fl, fas.map V.ref, .ref tu, rfl, rfl, by rw [upd_ne nf]; exact hf, hlen, ?_⟩
    have s1 : Same H (upd H tu (.tup [.int t.line, .int t.col, .int ((fas.map V.ref).length : Nat), sV reason])) := sameUpd (Same.refl H) ntu
    have hP1 := hP.mono s1
    obtain ⟨fas1, hf1, hfs1⟩ := hP1.fa
    have e1 : (fas.map V.ref ++ [V.ref tu]) = (fas ++ [tu]).map V.ref := by rw [List.map_append]; rfl
    rw [e1]
    refine k _ (hP1.set_fl (s1 _ _ hf) ?_)
    have z : fas.length = st.faults.length := hfs.len
    refine FaultsAt.snoc (hfs.mono fun b xs q => ?_) ?_
    · have q1 := s1 _ _ q
      rw [upd_ne (ne_of q1 (s1 _ _ hf) (by intro z; cases z))]
      exact q1
    · rw [upd_ne (Ne.symm nf), upd_same, List.length_map, z, Nat.zero_add]
/-! ### take, take_word, take_keyword -/
def spTake (K : PySem.W.Frag) : Sp := fun vs H Q E => ∃ (H0 : Hp) (p : Addr) (L : PLoc) (tas : List Addr) (T : List Tk) (st : PSt) (kd : Kd), vs = [.ref p, .str kd.str] ∧ PA K H0 H p L tas T st ∧ st.at_ < T.length ∧
  Res K H0 p L tas T (take T kd st) Q E (retT tas T)
def spTakeWord (K : PySem.W.Frag) : Sp := fun vs H Q E => ∃ (H0 : Hp) (p : Addr) (L : PLoc) (tas : List Addr) (T : List Tk) (st : PSt) (wd : Cs), vs = [.ref p, sV wd] ∧ PA K H0 H p L tas T st ∧ st.at_ < T.length ∧
  Res K H0 p L tas T (takeWord T wd st) Q E (retT tas T)
def spTakeKw (K : PySem.W.Frag) : Sp := fun vs H Q E => ∃ (H0 : Hp) (p : Addr) (L : PLoc) (tas : List Addr) (T : List Tk) (st : PSt) (b : Addr) (ws : List Cs), vs = [.ref p, .ref b] ∧ PA K H0 H p L tas T st ∧ st.at_ < T.length ∧
  SqT K H b (ws.map fun w => V.str (sx w)) ∧ Res K H0 p L tas T (takeKw T ws st) Q E (retT tas T)
theorem sc_take : FnScope ["self", "kind", "token"] ["self", "kind"] (defScope s_Parser_take) := ⟨rfl, rfl, rfl, by decide +kernel, rfl, by decide +kernel, by decide +kernel⟩
theorem sc_take_word : FnScope ["self", "word", "token"] ["self", "word"] (defScope s_Parser_take_word) := ⟨rfl, rfl, rfl, by decide +kernel, rfl, by decide +kernel, by decide +kernel⟩
theorem sc_take_keyword : FnScope ["self", "words", "token"] ["self", "words"] (defScope s_Parser_take_keyword) := ⟨rfl, rfl, rfl, by decide +kernel, rfl, by decide +kernel, by decide +kernel⟩
theorem ok_take (T : ParT K mg) : FnE P w K mg base (L2.CX P w) 4 ("Parser", some "take") ["self", "kind"] (spTake K) := by
  obtain ⟨fd, F⟩ := T.take.d
  obtain ⟨fdP, GP, bP, kP⟩ := ok_peek (P := P) (w := w) (base := base) T
  obtain ⟨fdS, GS, bS, kS⟩ := ok_fail (P := P) (w := w) (base := base) T
  refine ⟨fd, F.ok sc_take (fun vs H Q E h => ?_) (fun cdv A outer s H vs Q E hr h => ?_), F.bindsN fun _ _ _ _ _ _ us hl => match us, hl with | [_, _], _ => rfl, F.kp⟩
  · obtain ⟨H0, p, L, tas, Ts, st, kd, rfl, _⟩ := h
    rfl
  · obtain ⟨H0, p, L, tas, Ts, st, kd, rfl, hP, hi, R⟩ := h
    have hr1 : Room 1 _ := hr.mono (by decide)
    refine ⟨_, (pss_cons (ps_set (i := 2) sc_take.nd rfl (.inl rfl) (pe_meth0 (pv 0) T.par.c T.peek.m GP hr1 bP .nil pass0))
      (pss_cons (ps_if (pt_cmpR op_ne (pe_fld (pv 2) rfl) (pv 1) (nomark _)) (pss_one (ps_expr (pe_meth0 (pv 0) T.par.c T.fail.m GS hr bS .nil (passes_call (takes_of rfl rfl rfl rfl) (fun _ _ _ _ h => h))))) pss_nil)
      (pss_cons (ps_fldaug (pv 0) pe_int in_add) (pss_one (ps_ret (pv 2)))))), ?_⟩
    obtain ⟨dx, ob⟩ := hP.ob
    refine ⟨_, rfl, p, dx, _, rfl, ob, lp_no_peek, H0, p, L, tas, Ts, st, rfl, hP, hi, fun a hta => ?_⟩
    obtain ⟨dt, ht⟩ := hP.get hta
    refine ⟨_, rfl, a, _, dt, _, _, rfl, ht, T.l.tok.c, T.l.tok.n _ (by simp), lk_kind, _, rfl, rfl, _, rfl, ?_⟩
    refine ite2 (fun h => ?_) (fun h => ?_)
    · have h : (peek Ts st).kind ≠ kd := fun q => by
        rw [decide_eq_true (by rw [q])] at h
        exact absurd h (by decide)
      refine ⟨_, rfl, p, dx, _, rfl, ob, lp_no_fail, H0, p, L, tas, Ts, st, rfl, hP, hi, R.er _ _ ?_⟩
      unfold take
      rw [if_neg h]
    · have h : (peek Ts st).kind = kd := Decidable.byContradiction fun q => h (by
        rw [decide_eq_false fun z => q (kd_inj (V.str.inj z))]
        rfl)
      refine ⟨_, rfl, p, _, dx, _, _, rfl, ob, T.par.c, T.par.n _ (by simp), lp_at, _, _, rfl, rfl, dx, _, ob, (by show 9 < 1000; decide), ?_⟩
      rw [put_at (st.at_ + 1) (by simp)]
      refine ⟨_, rfl, R.ok _ _ (by unfold take; rw [if_pos h]; rfl) _ _ ⟨a, rfl, hta⟩ (hP.setAt T.ne ob)⟩
theorem ok_take_word (T : ParT K mg) : FnE P w K mg base (L2.CX P w) 4 ("Parser", some "take_word") ["self", "word"] (spTakeWord K) := by
  obtain ⟨fd, F⟩ := T.take_word.d
  obtain ⟨fdP, GP, bP, kP⟩ := ok_peek (P := P) (w := w) (base := base) T
  obtain ⟨fdS, GS, bS, kS⟩ := ok_fail (P := P) (w := w) (base := base) T
  refine ⟨fd, F.ok sc_take_word (fun vs H Q E h => ?_) (fun cdv A outer s H vs Q E hr h => ?_), F.bindsN fun _ _ _ _ _ _ us hl => match us, hl with | [_, _], _ => rfl, F.kp⟩
  · obtain ⟨H0, p, L, tas, Ts, st, kd, rfl, _⟩ := h
    rfl
  · obtain ⟨H0, p, L, tas, Ts, st, wd, rfl, hP, hi, R⟩ := h
    have hr1 : Room 1 _ := hr.mono (by decide)
    refine ⟨_, (pss_cons (ps_set (i := 2) sc_take_word.nd rfl (.inl rfl) (pe_meth0 (pv 0) T.par.c T.peek.m GP hr1 bP .nil pass0))
      (pss_cons (ps_if (pt_cmpR op_ne (pe_fld (pv 2) rfl) (pv 1) (nomark _)) (pss_one (ps_expr (pe_meth0 (pv 0) T.par.c T.fail.m GS hr bS .nil (passes_call (takes_of rfl rfl rfl rfl) (fun _ _ _ _ h => h))))) pss_nil)
      (pss_cons (ps_fldaug (pv 0) pe_int in_add) (pss_one (ps_ret (pv 2)))))), ?_⟩
    obtain ⟨dx, ob⟩ := hP.ob
    refine ⟨_, rfl, p, dx, _, rfl, ob, lp_no_peek, H0, p, L, tas, Ts, st, rfl, hP, hi, fun a hta => ?_⟩
    obtain ⟨dt, ht⟩ := hP.get hta
    refine ⟨_, rfl, a, _, dt, _, _, rfl, ht, T.l.tok.c, T.l.tok.n _ (by simp), lk_text, _, rfl, rfl, _, rfl, ?_⟩
    refine ite2 (fun h => ?_) (fun h => ?_)
    · have h : (peek Ts st).text ≠ wd := fun q => by
        rw [decide_eq_true (by rw [q])] at h
        exact absurd h (by decide)
      refine ⟨_, rfl, p, dx, _, rfl, ob, lp_no_fail, H0, p, L, tas, Ts, st, rfl, hP, hi, R.er _ _ ?_⟩
      unfold takeWord
      rw [if_neg h]
    · have h : (peek Ts st).text = wd := Decidable.byContradiction fun q => h (by
        rw [decide_eq_false fun z => q (sx_inj (V.str.inj z))]
        rfl)
      refine ⟨_, rfl, p, _, dx, _, _, rfl, ob, T.par.c, T.par.n _ (by simp), lp_at, _, _, rfl, rfl, dx, _, ob, (by show 9 < 1000; decide), ?_⟩
      rw [put_at (st.at_ + 1) (by simp)]
      refine ⟨_, rfl, R.ok _ _ (by unfold takeWord; rw [if_pos h]; rfl) _ _ ⟨a, rfl, hta⟩ (hP.setAt T.ne ob)⟩
theorem ok_take_keyword (T : ParT K mg) : FnE P w K mg base (L2.CX P w) 4 ("Parser", some "take_keyword") ["self", "words"] (spTakeKw K) := by
  obtain ⟨fd, F⟩ := T.take_keyword.d
  obtain ⟨fdP, GP, bP, kP⟩ := ok_peek (P := P) (w := w) (base := base) T
  obtain ⟨fdS, GS, bS, kS⟩ := ok_fail (P := P) (w := w) (base := base) T
  obtain ⟨t1, mKW⟩ := T.l.KEYWORD
  refine ⟨fd, F.ok sc_take_keyword (fun vs H Q E h => ?_) (fun cdv A outer s H vs Q E hr h => ?_), F.bindsN fun _ _ _ _ _ _ us hl => match us, hl with | [_, _], _ => rfl, F.kp⟩
  · obtain ⟨H0, p, L, tas, Ts, st, b, ws, rfl, _⟩ := h
    rfl
  · obtain ⟨H0, p, L, tas, Ts, st, b, ws, rfl, hP, hi, hb, R⟩ := h
    have hr1 : Room 1 _ := hr.mono (by decide)
    refine ⟨_, (pss_cons (ps_set (i := 2) sc_take_keyword.nd rfl (.inl rfl) (pe_meth0 (pv 0) T.par.c T.peek.m GP hr1 bP .nil pass0))
      (pss_cons (ps_if (PW.pt (pw_or (pt_cmpR op_ne (pe_fld (pv 2) rfl) (pe_glob (v := .str "keyword") rfl mKW ⟨_, rfl⟩) (nomark _)) (pw_or1 (pt_cmpR op_notIn_seq (pe_fld (pv 2) rfl) (pv 1) rfl))))
        (pss_one (ps_expr (pe_meth0 (pv 0) T.par.c T.fail.m GS hr bS .nil (passes_call (takes_of rfl rfl rfl rfl) (fun _ _ _ _ h => h))))) pss_nil)
      (pss_cons (ps_fldaug (pv 0) pe_int in_add) (pss_one (ps_ret (pv 2)))))), ?_⟩
    obtain ⟨dx, ob⟩ := hP.ob
    refine ⟨_, rfl, p, dx, _, rfl, ob, lp_no_peek, H0, p, L, tas, Ts, st, rfl, hP, hi, fun a hta => ?_⟩
    obtain ⟨dt, ht⟩ := hP.get hta
    have bad : ¬ ((peek Ts st).kind = .keyword ∧ (peek Ts st).text ∈ ws) → Syn K H0 E (failAt Ts st).1 (failAt Ts st).2 := fun q => R.er _ _ (by
      unfold takeKw
      rw [if_neg q])
    refine ⟨_, rfl, a, _, dt, _, _, rfl, ht, T.l.tok.c, T.l.tok.n _ (by simp), lk_kind, rfl, _, rfl, ?_⟩
    refine ite2 (fun h => ?_) (fun h => ?_)
    · have h : (peek Ts st).kind ≠ .keyword := fun q => by
        rw [decide_eq_true (by rw [q]; rfl)] at h
        exact absurd h (by decide)
      exact iteT ⟨_, rfl, p, dx, _, rfl, ob, lp_no_fail, H0, p, L, tas, Ts, st, rfl, hP, hi, bad fun q => h q.1⟩
    · have h : (peek Ts st).kind = .keyword := Decidable.byContradiction fun q => h (by
        show (!decide (V.str (peek Ts st).kind.str = V.str Kd.keyword.str)) = true
        rw [decide_eq_false fun z => q (kd_inj (b := .keyword) (V.str.inj z))]
        rfl)
      refine ⟨_, rfl, a, _, dt, _, _, rfl, ht, T.l.tok.c, T.l.tok.n _ (by simp), lk_text, _, rfl, b, _, rfl, .inr hb, rfl, flat_sx ws, _, rfl, ?_⟩
      rw [inV_sx]
      refine ite2 (fun h2 => ?_) (fun h2 => ?_)
      · have h2 : (peek Ts st).text ∉ ws := fun q => by
          rw [decide_eq_true q] at h2
          exact absurd h2 (by decide)
        exact ⟨_, rfl, p, dx, _, rfl, ob, lp_no_fail, H0, p, L, tas, Ts, st, rfl, hP, hi, bad fun q => h2 q.2⟩
      · have h2 : (peek Ts st).text ∈ ws := Decidable.byContradiction fun q => h2 (by
          rw [decide_eq_false q]
          rfl)
        refine ⟨_, rfl, p, _, dx, _, _, rfl, ob, T.par.c, T.par.n _ (by simp), lp_at, _, _, rfl, rfl, dx, _, ob, (by show 9 < 1000; decide), ?_⟩
        rw [put_at (st.at_ + 1) (by simp)]
        refine ⟨_, rfl, R.ok _ _ (by unfold takeKw; rw [if_pos ⟨h, h2⟩]; rfl) _ _ ⟨a, rfl, hta⟩ (hP.setAt T.ne ob)⟩
end
end Sw

end

section
set_option maxRecDepth 100000
set_option maxHeartbeats 4000000
/-! number_of, tile_of, the names -/
namespace Sw
open PySem PySem.Spec PyProof.Rows L2 SwA
def PLoc.nm (L : PLoc) (b : Bool) : Addr := if b then L.ml else L.sl
theorem idx_spec : ∀ {l : List Cs} {w : Cs}, w ∈ l → l[l.idxOf w]? = some w ∧ ∀ (m : Nat) z, m < l.idxOf w → l[m]? = some z → z ≠ w
  | [], w, h => by cases h
  | a :: r, w, h => by
    by_cases e : a = w
    · subst e
      have z : (a :: r).idxOf a = 0 := by simp [List.idxOf_cons]
      rw [z]
      exact ⟨rfl, fun m z hm => absurd hm (Nat.not_lt_zero m)⟩
    · have z : (a :: r).idxOf w = r.idxOf w + 1 := by
        rw [List.idxOf_cons]
        have : (a == w) = false := by simpa using e
        rw [this]
        rfl
      have hr : w ∈ r := by
        rcases List.mem_cons.mp h with q | q
        · exact absurd q.symm e
        · exact q
      obtain ⟨h1, h2⟩ := idx_spec hr
      rw [z]
      refine ⟨by simpa using h1, fun m y hm hy => ?_⟩
      cases m with
      | zero =>
        have : a = y := by simpa using hy
        rw [← this]
        exact e
      | succ m => exact h2 m y (by omega) (by simpa using hy)
section
variable {K : PySem.W.Frag} {H0 H H' : Hp} {p : Addr} {L : PLoc} {tas : List Addr} {T : List Tk} {st : PSt}
theorem PA.nmH (h : PA K H0 H p L tas T st) (b : Bool) : H (L.nm b) = some (.lst ((st.names b).map sV)) := by
  cases b
  · exact h.si
  · exact h.mo
/-- an object beside the parser is kept in mind -/
theorem PA.frame (h : PA K H0 H p L tas T st) {q : Addr} {o : HO} (hq : H q = some o) (hne : q ∉ [p, L.tl, L.fl, L.sl, L.ml, L.rl, L.rd, L.pd, L.sd]) : PA K (upd H0 q o) H p L tas T st :=
  ⟨fun b u e => by
    by_cases hb : b = q
    · rw [hb, upd_same] at e
      cases e
      rw [hb]
      exact hq
    · rw [upd_ne hb] at e
      exact h.same _ _ e, h.ob, h.tk, h.tks, h.fa, h.si, h.mo, h.ro, h.ru, h.pr, h.sp, h.nd, fun a ha => by
    rw [upd_ne fun z => hne (by rw [← z]; exact ha)]
    exact h.new a ha⟩
theorem PA.unframe {q : Addr} {o : HO} (h : PA K (upd H0 q o) H p L tas T st) (nq : H0 q = none) : PA K H0 H p L tas T st ∧ H q = some o :=
  ⟨⟨(sameUpd (Same.refl H0) nq).trans h.same, h.ob, h.tk, h.tks, h.fa, h.si, h.mo, h.ro, h.ru, h.pr, h.sp, h.nd, fun a ha => (sameUpd (o := o) (Same.refl H0) nq).free (h.new a ha)⟩, h.same _ _ upd_same⟩
theorem PA.notin (h : PA K H0 H p L tas T st) {q : Addr} (hq : H q = none) : q ∉ [p, L.tl, L.fl, L.sl, L.ml, L.rl, L.rd, L.pd, L.sd] := by
  intro z
  simp only [List.mem_cons, List.not_mem_nil, or_false] at z
  obtain ⟨dx, ob⟩ := h.ob
  obtain ⟨fas, hf, _⟩ := h.fa
  obtain ⟨ras, hr, _⟩ := h.ro
  obtain ⟨kvs, hk, _⟩ := h.ru
  rcases z with z | z | z | z | z | z | z | z | z
  · rw [z, ob] at hq; cases hq
  · rw [z, h.tk] at hq; cases hq
  · rw [z, hf] at hq; cases hq
  · rw [z, h.si] at hq; cases hq
  · rw [z, h.mo] at hq; cases hq
  · rw [z, hr] at hq; cases hq
  · rw [z, hk] at hq; cases hq
  · rw [z, h.pr] at hq; cases hq
  · rw [z, h.sp] at hq; cases hq
/-- a list beside the parser is changed -/
theorem PA.updList (h : PA K H0 H p L tas T st) {q : Addr} {xs ys : List V} (hq : H q = some (.lst xs)) (nq : H0 q = none) (hne : q ∉ [p, L.tl, L.fl, L.sl, L.ml, L.rl, L.rd, L.pd, L.sd]) : PA K H0 (upd H q (.lst ys)) p L tas T st := by
  have ne : ∀ a ∈ [p, L.tl, L.fl, L.sl, L.ml, L.rl, L.rd, L.pd, L.sd], a ≠ q := fun a ha z => hne (by rw [← z]; exact ha)
  have kt := keepT (o' := .lst ys) hq (fun xs q => by cases q)
  have kk := keepK (K := K) (o' := .lst ys) hq (fun C d fs q => by cases q)
  exact ⟨sameUpd h.same nq, (let ⟨dx, e⟩ := h.ob; ⟨dx, (upd_ne (ne _ (by simp))).trans e⟩), (upd_ne (ne _ (by simp))).trans h.tk, Paired.mapP h.tks fun a t q => kk a t q,
    (let ⟨fas, e1, e2⟩ := h.fa; ⟨fas, (upd_ne (ne _ (by simp))).trans e1, e2.mono kt⟩), (upd_ne (ne _ (by simp))).trans h.si, (upd_ne (ne _ (by simp))).trans h.mo,
    (let ⟨ras, e1, e2⟩ := h.ro; ⟨ras, (upd_ne (ne _ (by simp))).trans e1, Paired.mapP e2 fun _ _ q => kt _ _ q⟩),
    (let ⟨kvs, e1, e2⟩ := h.ru; ⟨kvs, (upd_ne (ne _ (by simp))).trans e1, Paired.mapP e2 fun _ _ q => q.mono kt⟩), (upd_ne (ne _ (by simp))).trans h.pr, (upd_ne (ne _ (by simp))).trans h.sp, h.nd, h.new⟩
end
theorem lp_no_number_of {L : PLoc} {n : Nat} : (parF L n).lookup ("number_of" : Str) = none := by kernel_rfl
theorem lp_no_tile_of {L : PLoc} {n : Nat} : (parF L n).lookup ("tile_of" : Str) = none := by kernel_rfl
theorem e_unknown : ("unknown" : Str) = sx rUnknown := by decide +kernel
theorem e_tile : ("tile" : Str) = sx rTile := by decide +kernel
theorem e_duplicate : ("duplicate" : Str) = sx rDuplicate := by decide +kernel
theorem e_semi : (";" : Str) = sx wSemi := by decide +kernel
theorem e_robot : ("robot" : Str) = sx wRobot := by decide +kernel
theorem e_robots : ("robots" : Str) = sx rRobots := by decide +kernel
theorem e_right : ("right" : Str) = sx wRight := by decide +kernel
theorem e_put : ("put" : Str) = sx wPut := by decide +kernel
theorem e_again : ("again" : Str) = sx rAgain := by decide +kernel
theorem e_when : ("when" : Str) = sx wWhen := by decide +kernel
theorem e_leave : ("leave" : Str) = sx wLeave := by decide +kernel
theorem e_twice : ("twice" : Str) = sx rTwice := by decide +kernel
theorem e_corridor : ("corridor" : Str) = sx wCorridor := by decide +kernel
theorem e_signs : ("signs" : Str) = sx wSigns := by decide +kernel
theorem e_moods : ("moods" : Str) = sx wMoods := by decide +kernel
section
variable {P : Program} {w : World} {K : PySem.W.Frag} {mg : Str → Option Value} {base : Heap}
def spNumberOf (K : PySem.W.Frag) : Sp := fun vs H Q _ => ∃ (H0 : Hp) (p : Addr) (L : PLoc) (tas : List Addr) (T : List Tk) (st : PSt) (b : Bool) (a : Addr) (t : Tk), vs = [.ref p, .ref (L.nm b), .ref a] ∧ PA K H0 H p L tas T st ∧
  TI tas T a t ∧ st.faults.length ≤ 1000000 ∧ ∀ H', PA K H0 H' p L tas T (numberOf (st.names b) t st).2 → Q (.int (numberOf (st.names b) t st).1) H'
theorem sc_number_of : FnScope ["self", "names", "token"] ["self", "names", "token"] (defScope s_Parser_number_of) := ⟨rfl, rfl, rfl, by decide +kernel, rfl, by decide +kernel, by decide +kernel⟩
theorem ok_number_of (T : ParT K mg) : FnE P w K mg base CX0 2 ("Parser", some "number_of") ["self", "names", "token"] (spNumberOf K) := by
  obtain ⟨fd, F⟩ := T.number_of.d
  obtain ⟨fdF, GF, bF, kF⟩ := ok_found (P := P) (w := w) (base := base) T
  refine ⟨fd, F.ok sc_number_of (fun vs H Q E h => ?_) (fun cdv A outer s H vs Q E hr h => ?_), F.bindsN fun _ _ _ _ _ _ us hl => match us, hl with | [_, _, _], _ => rfl, F.kp⟩
  · obtain ⟨H0, p, L, tas, Ts, st, b, a, t, rfl, _⟩ := h
    rfl
  · obtain ⟨H0, p, L, tas, Ts, st, b, a, t, rfl, hP, hta, hz, k⟩ := h
    refine ⟨_, PSs.nox (pss_cons (ps_if (pt_cmpR op_in_seq (pe_fld (pv 2) rfl) (pv 1) rfl)
        (pss_one (ps_ret (pe_bm PySem.F.plainAttrs_list PySem.F.slot_list_index PySem.F.type_list_index mt_index (pv 1) (pa_cons (pe_fld (pv 2) rfl) pa_nil)))) pss_nil)
      (pss_cons (ps_expr (pe_meth (pv 0) T.par.c T.found.m GF hr bF .nil pass0 (pa_cons pe_str (pa_cons (pv 2) pa_nil)))) (pss_one (ps_ret pe_int)))), ?_⟩
    obtain ⟨dx, ob⟩ := hP.ob
    obtain ⟨dt, ht⟩ := hP.get hta
    have hn := hP.nmH b
    refine ⟨_, rfl, a, _, dt, _, _, rfl, ht, T.l.tok.c, T.l.tok.n _ (by simp), lk_text, _, rfl, L.nm b, _, rfl, .inl (SqL.of hn), rfl, flat_sx _, _, rfl, ?_⟩
    rw [inV_sx]
    refine ite2 (fun h => ?_) (fun h => ?_)
    · have h : t.text ∈ st.names b := of_decide_eq_true h
      obtain ⟨i1, i2⟩ := idx_spec h
      have k1 := k H (by unfold numberOf; rw [if_pos h]; exact hP)
      have e : (numberOf (st.names b) t st).1 = (st.names b).idxOf t.text := by unfold numberOf; rw [if_pos h]
      rw [e] at k1
      refine ⟨_, rfl, .inl ⟨rfl, _, SqL.of hn⟩, _, rfl, a, _, dt, _, _, rfl, ht, T.l.tok.c, T.l.tok.n _ (by simp), lk_text, L.nm b, _, _, (st.names b).idxOf t.text, sV t.text, rfl, rfl, SqL.of hn, rfl, flat_sx _, by rw [List.getElem?_map, i1]; rfl, by rw [eq_str_sx]; exact decide_eq_true rfl, fun m z' hm hz' => ?_, k1⟩
      rw [List.getElem?_map] at hz'
      cases q : (st.names b)[m]? with
      | none => rw [q] at hz'; cases hz'
      | some y =>
        rw [q] at hz'
        cases hz'
        rw [eq_str_sx]
        exact decide_eq_false (i2 m y hm q)
    · have h : t.text ∉ st.names b := fun q => h (decide_eq_true q)
      refine ⟨_, rfl, p, dx, _, rfl, ob, lp_no_found, _, rfl, H0, p, L, tas, Ts, st, rUnknown, a, t, by rw [e_unknown]; rfl, hP, hta, hz, fun H' hP' => ?_⟩
      have k1 := k H' (by unfold numberOf; rw [if_neg h]; exact hP')
      have e : (numberOf (st.names b) t st).1 = 0 := by unfold numberOf; rw [if_neg h]
      rw [e] at k1
      exact k1
def spTileOf (K : PySem.W.Frag) : Sp := fun vs H Q E => ∃ (H0 : Hp) (p : Addr) (L : PLoc) (tas : List Addr) (T : List Tk) (st : PSt) (tiles : Nat), vs = [.ref p, .int tiles] ∧ PA K H0 H p L tas T st ∧ GoodT T ∧ st.at_ < T.length ∧ st.faults.length ≤ 1000000 ∧
  Res K H0 p L tas T (tileOf T tiles st) Q E retN
theorem sc_tile_of : FnScope ["self", "tiles", "token"] ["self", "tiles"] (defScope s_Parser_tile_of) := ⟨rfl, rfl, rfl, by decide +kernel, rfl, by decide +kernel, by decide +kernel⟩
theorem TI.mem {tas : List Addr} {T : List Tk} {a : Addr} {t : Tk} (h : TI tas T a t) : t ∈ T := let ⟨_, _, e⟩ := h; List.mem_of_getElem? e
theorem int_sx {w : Cs} (h : w.all isD = true) (h1 : 1 ≤ w.length) (h2 : w.length ≤ 2) : intText? (sx w) = some (numVal w : Int) := by
  have e : (sx w).cps.toList = w := rfl
  have z := PySem.intText_digits (x := sx w) (by
    rw [e]
    intro c hc
    have q := List.all_eq_true.mp h c hc
    unfold isD at q
    rw [Bool.and_eq_true] at q
    exact ⟨Nat.le_of_ble_eq_true q.1, Nat.le_of_ble_eq_true q.2⟩) (by rw [e]; intro q; rw [q] at h1; simp at h1) (by rw [len_sx]; omega)
  rw [e] at z
  exact z
theorem ok_tile_of (T : ParT K mg) : FnE P w K mg base (L2.CX P w) 5 ("Parser", some "tile_of") ["self", "tiles"] (spTileOf K) := by
  obtain ⟨fd, F⟩ := T.tile_of.d
  obtain ⟨fdF, GF, bF, kF⟩ := ok_found (P := P) (w := w) (base := base) T
  obtain ⟨fdT, GT, bT, kT⟩ := ok_take (P := P) (w := w) (base := base) T
  obtain ⟨t1, mNUM⟩ := T.l.NUMBER
  refine ⟨fd, F.ok sc_tile_of (fun vs H Q E h => ?_) (fun cdv A outer s H vs Q E hr h => ?_), F.bindsN fun _ _ _ _ _ _ us hl => match us, hl with | [_, _], _ => rfl, F.kp⟩
  · obtain ⟨H0, p, L, tas, Ts, st, tiles, rfl, _⟩ := h
    rfl
  · obtain ⟨H0, p, L, tas, Ts, st, tiles, rfl, hP, hG, hi, hz, R⟩ := h
    have hr1 : Room 1 _ := hr.mono (by decide)
    refine ⟨_, (pss_cons (ps_set (i := 2) sc_tile_of.nd rfl (.inl rfl) (pe_meth (pv 0) T.par.c T.take.m GT hr bT .nil (passes_call (takes_of rfl rfl rfl rfl) (fun _ _ _ _ h => h)) (pa_cons (pe_glob (v := .str "number") rfl mNUM ⟨_, rfl⟩) pa_nil)))
      (pss_cons (ps_if (pt_cmpR op_ge (pe_callTy call_int_str (by rfl) T.int (by decide +kernel) (pa_cons (pe_fld (pv 2) rfl) pa_nil)) (pv 1) (nomark _))
        (pss_one (ps_expr (pe_meth (pv 0) T.par.c T.found.m GF hr1 bF .nil pass0 (pa_cons pe_str (pa_cons (pv 2) pa_nil))))) pss_nil)
      (pss_one (ps_ret (pe_callTy call_int_str (by rfl) T.int (by decide +kernel) (pa_cons (pe_fld (pv 2) rfl) pa_nil)))))), ?_⟩
    obtain ⟨dx, ob⟩ := hP.ob
    refine ⟨_, rfl, p, dx, _, rfl, ob, lp_no_take, H0, p, L, tas, Ts, st, .number, rfl, hP, hi, ⟨fun t s1 ht v H1 hv hP1 => ?_, fun l c he => R.er l c (by simp only [tileOf, he])⟩⟩
    obtain ⟨a, rfl, hta⟩ := hv
    have hk := (take_ok ht).2.2
    have hs1 := (take_ok ht).1
    obtain ⟨⟨n1, n2⟩, n3⟩ := hG.num t hta.mem hk
    have hint := int_sx n3 n1 n2
    obtain ⟨dt, htk⟩ := hP1.get hta
    obtain ⟨dx1, ob1⟩ := hP1.ob
    refine ⟨_, rfl, a, _, dt, _, _, rfl, htk, T.l.tok.c, T.l.tok.n _ (by simp), lk_text, _, _, rfl, hint, by rw [len_sx]; omega, _, rfl, _, _, rfl, rfl, _, rfl, ?_⟩
    refine ite2 (fun h => ?_) (fun h => ?_)
    · have h := of_decide_eq_true h
      refine ⟨_, rfl, p, dx1, _, rfl, ob1, lp_no_found, _, rfl, H0, p, L, tas, Ts, s1, rTile, a, t, by rw [e_tile]; rfl, hP1, hta, by rw [hs1]; exact hz, fun H2 hP2 => ?_⟩
      obtain ⟨dt2, htk2⟩ := hP2.get hta
      refine ⟨_, rfl, a, _, dt2, _, _, rfl, htk2, T.l.tok.c, T.l.tok.n _ (by simp), lk_text, _, _, rfl, hint, by rw [len_sx]; omega, ?_⟩
      exact R.ok (numVal t.text) _ (by simp only [tileOf, ht, if_pos (show tiles ≤ numVal t.text by omega)]) _ _ rfl hP2
    · have h : ¬ (tiles : Int) ≤ (numVal t.text : Nat) := fun q => h (decide_eq_true q)
      refine ⟨_, rfl, a, _, dt, _, _, rfl, htk, T.l.tok.c, T.l.tok.n _ (by simp), lk_text, _, _, rfl, hint, by rw [len_sx]; omega, ?_⟩
      exact R.ok (numVal t.text) _ (by simp only [tileOf, ht, if_neg (show ¬ tiles ≤ numVal t.text by omega)]) _ _ rfl hP1
end
end Sw

end

section
set_option maxRecDepth 100000
set_option maxHeartbeats 4000000
/-! parse_names -/
namespace Sw
open PySem PySem.Spec PyProof.Rows L2 SwA
theorem Paired_idx {α β : Type} {F : α → β → Prop} : ∀ {l : List α} {m : List β} {i : Nat} {a : α}, Paired F l m → l[i]? = some a → ∃ b, m[i]? = some b ∧ F a b
  | _, _, i, _, .nil, h => by simp at h
  | _, _, 0, _, .cons x r, h => by simp at h; subst h; exact ⟨_, rfl, x⟩
  | _, _, i + 1, _, .cons x r, h => by
    obtain ⟨b, e, f⟩ := Paired_idx r (i := i) (by simpa using h)
    exact ⟨b, by simpa using e, f⟩
section
variable {P : Program} {w : World} {K : PySem.W.Frag} {mg : Str → Option Value} {base : Heap}
def spParseNames (K : PySem.W.Frag) : Sp := fun vs H Q E => ∃ (H0 : Hp) (p : Addr) (L : PLoc) (tas : List Addr) (T : List Tk) (st : PSt) (b : Bool), vs = [.ref p, sV (wordOf b), .ref (L.nm b), .int (mostOf b)] ∧ PA K H0 H p L tas T st ∧ GoodT T ∧ Bd T st ∧
  Res K H0 p L tas T (parseNames T b st) Q E retU
theorem sc_parse_names : FnScope ["self", "word", "names", "most", "tokens", "token"] ["self", "word", "names", "most"] (defScope s_Parser_parse_names) := ⟨rfl, rfl, rfl, by decide +kernel, rfl, by decide +kernel, by decide +kernel⟩
theorem ok_parse_names (T : ParT K mg) : FnE P w K mg base (L2.CX P w) 5 ("Parser", some "parse_names") ["self", "word", "names", "most"] (spParseNames K) := by
  obtain ⟨fd, F⟩ := T.parse_names.d
  obtain ⟨fdP, GP, bP, kP⟩ := ok_peek (P := P) (w := w) (base := base) T
  obtain ⟨fdF, GF, bF, kF⟩ := ok_found (P := P) (w := w) (base := base) T
  obtain ⟨fdT, GT, bT, kT⟩ := ok_take (P := P) (w := w) (base := base) T
  obtain ⟨fdW, GW, bW, kW⟩ := ok_take_word (P := P) (w := w) (base := base) T
  obtain ⟨t1, mNAME⟩ := T.l.NAME
  refine ⟨fd, F.ok sc_parse_names (fun vs H Q E h => ?_) (fun cdv A outer s H vs Q E hr h => ?_), F.bindsN fun _ _ _ _ _ _ us hl => match us, hl with | [_, _, _, _], _ => rfl, F.kp⟩
  · obtain ⟨H0, p, L, tas, Ts, st, b, rfl, _⟩ := h
    rfl
  · obtain ⟨H0, p, L, tas, Ts, st, b, rfl, hP, hG, hB, R⟩ := h
    have hr1 : Room 1 _ := hr.mono (by decide)
    refine ⟨_, (pss_cons (ps_expr (pe_meth (pv 0) T.par.c T.take_word.m GW hr bW .nil (passes_call (takes_of rfl rfl rfl rfl) (fun _ _ _ _ h => h)) (pa_cons (pv 1) pa_nil)))
      (pss_cons (ps_set (i := 4) sc_parse_names.nd rfl (.inl rfl) (pe_lst (pa_cons (pe_meth (pv 0) T.par.c T.take.m GT hr bT .nil (passes_call (takes_of rfl rfl rfl rfl) (fun _ _ _ _ h => h)) (pa_cons (pe_glob (v := .str "name") rfl mNAME ⟨_, rfl⟩) pa_nil)) pa_nil)))
      (pss_cons (ps_while (passes_of rfl) (pt_cmpR op_eq (pe_fld (pe_meth0 (pv 0) T.par.c T.peek.m GP hr1 bP .nil pass0) rfl) (pe_glob (v := .str "name") rfl mNAME ⟨_, rfl⟩) (nomark _))
        (pss_one (ps_expr (pe_bm PySem.F.plainAttrs_list PySem.F.slot_list_append PySem.F.type_list_append mt_append (pv 4) (pa_cons (pe_meth (pv 0) T.par.c T.take.m GT hr bT .nil (passes_call (takes_of rfl rfl rfl rfl) (fun _ _ _ _ h => h)) (pa_cons (pe_glob (v := .str "name") rfl mNAME ⟨_, rfl⟩) pa_nil)) pa_nil)))))
      (pss_cons (ps_expr (pe_meth (pv 0) T.par.c T.take_word.m GW hr bW .nil (passes_call (takes_of rfl rfl rfl rfl) (fun _ _ _ _ h => h)) (pa_cons pe_str pa_nil)))
      (pss_one (ps_for (passes_of rfl) rfl (pi_list (pv 4)) (pg_name (i := 5) sc_parse_names.nd rfl (.inl rfl))
        (pss_one (ps_if (pt_cmpR op_in_seq (pe_fld (pv 5) rfl) (pv 2) rfl)
          (pss_one (ps_expr (pe_meth (pv 0) T.par.c T.found.m GF hr1 bF .nil pass0 (pa_cons pe_str (pa_cons (pv 5) pa_nil)))))
          (pss_one (ps_if (pt_cmpR op_eq (pe_callB call_len_seq (by rfl) T.l.len boot_len (pa_cons (pv 2) pa_nil)) (pv 3) (nomark _))
            (pss_one (ps_expr (pe_meth (pv 0) T.par.c T.found.m GF hr1 bF .nil pass0 (pa_cons (pv 1) (pa_cons (pv 5) pa_nil)))))
            (pss_one (ps_expr (pe_bm PySem.F.plainAttrs_list PySem.F.slot_list_append PySem.F.type_list_append mt_append (pv 2) (pa_cons (pe_fld (pv 5) rfl) pa_nil)))))))))))))), ?_⟩
    obtain ⟨dx, ob⟩ := hP.ob
    refine ⟨_, rfl, p, dx, _, rfl, ob, lp_no_take_word, _, rfl, H0, p, L, tas, Ts, st, wordOf b, rfl, hP, hB.at_, ⟨fun t0 s1 h1 v H1 hv hP1 => ?_, fun l c he => R.er l c (by simp only [parseNames, he])⟩⟩
    clear hv
    obtain ⟨B1, f1, e1⟩ := bd_word hG hB h1 (wordOf_ne b)
    obtain ⟨dx1, ob1⟩ := hP1.ob
    refine ⟨_, rfl, p, dx1, _, rfl, ob1, lp_no_take, H0, p, L, tas, Ts, s1, .name, rfl, hP1, B1.at_, ⟨fun t s2 h2 v H2 hv hP2 => ?_, fun l c he => R.er l c (by simp only [parseNames, h1, he])⟩⟩
    obtain ⟨a, rfl, hta⟩ := hv
    obtain ⟨B2, f2, e2, _⟩ := bd_take hG B1 h2 (by decide)
    have hk2 := (take_ok h2).2.2
    refine ⟨(by show 1 ≤ sizeLine; decide), fun q nq => ?_⟩
    have hne := hP2.notin nq
    have nq0 : H0 q = none := hP2.same.free nq
    have hP2' := hP2.mono (sameUpd (o := .lst [.ref a]) (Same.refl H2) nq)
    have as2 : 2 ≤ s2.at_ := by
      rw [e2, e1]
      show 2 ≤ st.at_ + 1 + 1
      omega
    refine ⟨fun m σ H => ∃ (f : Nat) (acc : List Tk) (aas : List Addr) (s : PSt), m + s.at_ = Ts.length ∧ σ = [some (.ref p), some (sV (wordOf b)), some (.ref (L.nm b)), some (.int (mostOf b)), some (.ref q), none] ∧
      H q = some (.lst (aas.map V.ref)) ∧ Paired (TI tas Ts) aas acc ∧ PA K H0 H p L tas Ts s ∧ Bd Ts s ∧ Ts.length ≤ f + s.at_ ∧ moreNames Ts Ts.length s2 [t] = moreNames Ts f s acc ∧ acc.length + 1 ≤ s.at_,
      ⟨Ts.length - s2.at_, Ts.length, [t], [a], s2, Nat.sub_add_cancel (Nat.le_of_lt B2.at_), rfl, upd_same, .cons hta .nil, hP2', B2, Nat.le_add_right _ _, rfl, as2⟩, ?_⟩
    rintro m σ H3 ⟨f, acc, aas, s, hm, rfl, hq, hpa, hP3, B3, hf, hmn, hac⟩
    obtain ⟨dx3, ob3⟩ := hP3.ob
    have hlen := hG.len
    have B3at := B3.at_
    refine ⟨_, rfl, p, dx3, _, rfl, ob3, lp_no_peek, H0, p, L, tas, Ts, s, rfl, hP3, B3.at_, fun a3 hta3 => ?_⟩
    obtain ⟨dt3, ht3⟩ := hP3.get hta3
    refine ⟨a3, _, dt3, _, _, rfl, ht3, T.l.tok.c, T.l.tok.n _ (by simp), lk_kind, rfl, _, rfl, ?_⟩
    obtain ⟨f', rfl⟩ : ∃ f', f = f' + 1 := ⟨f - 1, by omega⟩
    refine ite2 (fun h => ?_) (fun h => ?_)
    · have h : (peek Ts s).kind = .name := kd_inj (b := .name) (V.str.inj (of_decide_eq_true h))
      refine ⟨_, fun _ _ n => n, ?_⟩
      refine ⟨_, rfl, .inl ⟨rfl, _, SqL.of hq⟩, _, rfl, p, dx3, _, rfl, ob3, lp_no_take, upd H0 q (.lst (aas.map V.ref)), p, L, tas, Ts, s, .name, rfl, hP3.frame hq hne, B3.at_, ⟨fun t' s' h' v H' hv hP' => ?_, fun l c he => ?_⟩⟩
      · obtain ⟨a', rfl, hta'⟩ := hv
        obtain ⟨hP'', hq'⟩ := hP'.unframe nq0
        obtain ⟨B', f'', e', _⟩ := bd_take hG B3 h' (by decide)
        have ht' := (take_ok h').2.1
        have hlt : (aas.map V.ref).length < sizeLine := by
          rw [List.length_map, hpa.length, sizeLine_eq]
          omega
        have ea : s'.at_ = s.at_ + 1 := by rw [e']; rfl
        refine ⟨q, _, _, rfl, rfl, hq', hlt, m - 1, by omega, f', acc ++ [t'], aas ++ [a'], s', by omega, rfl, by rw [upd_same, List.map_append]; rfl, Paired_snoc hpa hta', hP''.updList hq' nq0 hne, B', by omega, ?_, by simp; omega⟩
        rw [hmn]
        conv => lhs; unfold moreNames
        rw [if_pos h, e', ht']
      · exfalso
        unfold take at he
        rw [if_pos h] at he
        cases he
    · have h : ¬ (peek Ts s).kind = .name := fun q => h (decide_eq_true (by rw [q]; rfl))
      have hmn2 : moreNames Ts Ts.length s2 [t] = (acc, s) := by
        rw [hmn]
        unfold moreNames
        rw [if_neg h]
      have em1 : (moreNames Ts Ts.length s2 [t]).1 = acc := by rw [hmn2]
      have em2 : (moreNames Ts Ts.length s2 [t]).2 = s := by rw [hmn2]
      refine ⟨_, rfl, p, dx3, _, rfl, ob3, lp_no_take_word, upd H0 q (.lst (aas.map V.ref)), p, L, tas, Ts, s, wSemi, by rw [e_semi]; rfl, hP3.frame hq hne, B3.at_, ⟨fun t4 s4 h4 v H4 hv hP4 => ?_, fun l c he => ?_⟩⟩
      · clear hv
        obtain ⟨hP4', hq4⟩ := hP4.unframe nq0
        obtain ⟨B4, f4, e4⟩ := bd_word hG B3 h4 (by decide)
        have hfin : parseNames Ts b st = .ok ((), acc.foldl (addName b) s4) := by
          simp only [parseNames, h1, h2, em1, em2, h4]
        refine ⟨_, rfl, q, rfl, ⟨_, SqL.of hq4⟩, for_list (K := K) (a := q) (xs := aas.map V.ref) (fun i σ H => ∃ o5 : Option V, σ = [some (.ref p), some (sV (wordOf b)), some (.ref (L.nm b)), some (.int (mostOf b)), some (.ref q), o5] ∧
          H q = some (.lst (aas.map V.ref)) ∧ PA K H0 H p L tas Ts ((acc.take i).foldl (addName b) s4)) ⟨none, rfl, hq4, hP4'⟩ (fun i σ H _ hh => ?_) ?_ ?_⟩
        · obtain ⟨o5, rfl, hq5, _⟩ := hh
          exact SqL.of hq5
        · rintro i x σ H5 hx ⟨o5, rfl, hq5, hP5⟩
          rw [List.getElem?_map] at hx
          cases hai : aas[i]? with
          | none => rw [hai] at hx; cases hx
          | some ai =>
            rw [hai] at hx
            cases hx
            obtain ⟨ti, hti, hTI⟩ := Paired_idx hpa hai
            have hstep : (acc.take (i + 1)).foldl (addName b) s4 = addName b ((acc.take i).foldl (addName b) s4) ti := by
              rw [List.take_succ, hti, List.foldl_append]
              rfl
            rw [hstep]
            obtain ⟨c1, c2, c3, _⟩ := adds_spec b (acc.take i) s4 (B4.names b)
            generalize hs5 : (acc.take i).foldl (addName b) s4 = s5 at *
            have hfl : s5.faults.length ≤ 1000000 := by
              have z1 := B4.fa
              have z2 := B4.at_
              have z3 : (acc.take i).length ≤ acc.length := by rw [List.length_take]; omega
              omega
            obtain ⟨dx5, ob5⟩ := hP5.ob
            obtain ⟨dt5, ht5⟩ := hP5.get hTI
            have hn5 := hP5.nmH b
            refine ⟨_, rfl, ai, _, dt5, _, _, rfl, ht5, T.l.tok.c, T.l.tok.n _ (by simp), lk_text, _, rfl, L.nm b, _, rfl, .inl (SqL.of hn5), rfl, flat_sx _, _, rfl, ?_⟩
            rw [inV_sx]
            refine ite2 (fun h => ?_) (fun h => ?_)
            · have h : ti.text ∈ s5.names b := of_decide_eq_true h
              refine ⟨_, rfl, p, dx5, _, rfl, ob5, lp_no_found, _, rfl, upd H0 q (.lst (aas.map V.ref)), p, L, tas, Ts, s5, rDuplicate, ai, ti, by rw [e_duplicate]; rfl, hP5.frame hq5 hne, hTI, hfl, fun H6 hP6 => ?_⟩
              obtain ⟨hP6', hq6⟩ := hP6.unframe nq0
              refine ⟨_, rfl, hq6, ?_⟩
              unfold addName
              rw [if_pos h]
              exact hP6'
            · have h : ti.text ∉ s5.names b := fun q => h (decide_eq_true q)
              refine ⟨_, rfl, L.nm b, _, rfl, .inl (SqL.of hn5), _, rfl, rfl, _, rfl, ?_⟩
              rw [List.length_map]
              refine ite2 (fun h2 => ?_) (fun h2 => ?_)
              · have h2 : (s5.names b).length = mostOf b := by
                  have z := V.int.inj (of_decide_eq_true h2)
                  exact Int.ofNat_inj.mp z
                refine ⟨_, rfl, p, dx5, _, rfl, ob5, lp_no_found, _, rfl, _, rfl, upd H0 q (.lst (aas.map V.ref)), p, L, tas, Ts, s5, wordOf b, ai, ti, rfl, hP5.frame hq5 hne, hTI, hfl, fun H6 hP6 => ?_⟩
                obtain ⟨hP6', hq6⟩ := hP6.unframe nq0
                refine ⟨_, rfl, hq6, ?_⟩
                unfold addName
                rw [if_neg h, if_pos h2]
                exact hP6'
              · have h2 : ¬ (s5.names b).length = mostOf b := fun q => h2 (decide_eq_true (by rw [q]))
                have hlt : ((s5.names b).map sV).length < sizeLine := by
                  rw [List.length_map, sizeLine_eq]
                  have : mostOf b ≤ 6 := by cases b <;> decide
                  omega
                have hqn : q ≠ L.nm b := fun z => hne (by
                  rw [z]
                  cases b
                  · simp [PLoc.nm]
                  · simp [PLoc.nm])
                refine ⟨_, rfl, .inl ⟨rfl, _, SqL.of hn5⟩, _, rfl, ai, _, dt5, _, _, rfl, ht5, T.l.tok.c, T.l.tok.n _ (by simp), lk_text, L.nm b, _, _, rfl, rfl, hn5, hlt, ?_⟩
                have em : ((s5.names b).map sV ++ [sV ti.text]) = (s5.names b ++ [ti.text]).map sV := by rw [List.map_append]; rfl
                refine ⟨_, rfl, by rw [upd_ne hqn]; exact hq5, ?_⟩
                rw [em]
                unfold addName
                rw [if_neg h, if_neg h2]
                cases b
                · exact hP5.set_sl hn5 trivial
                · exact hP5.set_ml hn5 trivial
        · rintro σ H6 ⟨o5, rfl, hq6, hP6⟩
          rw [List.length_map] at hP6
          have ea : aas.length = acc.length := hpa.length
          rw [ea, List.take_length] at hP6
          exact R.ok () _ hfin _ _ rfl hP6
      · refine (R.er l c ?_).mono (sameUpd (Same.refl H0) nq0)
        simp only [parseNames, h1, h2, em2, he]
end
end Sw

end

section
set_option maxRecDepth 100000
set_option maxHeartbeats 4000000
/-! parse_robot, parse_put, parse_rule -/
namespace Sw
open PySem PySem.Spec PyProof.Rows L2 SwA
/-! ### the dicts -/
theorem key_inl {a b : Nat} : ((.inl (a : Int) : Key) = .inl (b : Int)) ↔ a = b := ⟨fun h => by injection h with h; omega, fun h => by rw [h]⟩
theorem keyT_inj {a b : Nat × Nat} : keyT a = keyT b ↔ a = b := by
  constructor
  · intro h
    unfold keyT at h
    injection h with h1 h2
    injection h2 with h2 _
    have e1 := key_inl.mp h1
    have e2 := key_inl.mp h2
    exact Prod.ext e1 e2
  · intro h; rw [h]
theorem pairK_inj {a b : Cs × Cs} : (pairK a).1 = (pairK b).1 ↔ a = b := by
  constructor
  · intro h
    unfold pairK at h
    injection h with h1 h2
    injection h2 with h2 _
    injection h1 with h1
    injection h2 with h2
    exact Prod.ext (sx_inj h1) (sx_inj h2)
  · intro h; rw [h]
theorem spots_any (l : List (Nat × Nat)) (n : Nat) : (valV (l.map spotK) (.inl (n : Int) : Key)).isSome = l.any fun kv => decide (kv.1 = n) := by
  rw [← valV_any]
  rw [List.any_map]
  congr 1
  funext kv
  show decide ((.inl (kv.1 : Int) : Key) = .inl (n : Int)) = decide (kv.1 = n)
  rw [Bool.eq_iff_iff, decide_eq_true_iff, decide_eq_true_iff, key_inl]
theorem spots_put (l : List (Nat × Nat)) (n v : Nat) : putK (l.map spotK) (.inl (n : Int) : Key) (.int v) = (putA l n v).map spotK := by
  unfold putK putA
  rw [valV_any, spots_any]
  split
  · rw [List.map_map, List.map_map]
    refine List.map_congr_left fun kv _ => ?_
    show (if (spotK kv).1 = .inl (n : Int) then ((spotK kv).1, V.int v) else spotK kv) = spotK (if kv.1 = n then (kv.1, v) else kv)
    by_cases e : kv.1 = n
    · rw [if_pos e, if_pos (by show (.inl (kv.1 : Int) : Key) = _; rw [e])]
      rfl
    · rw [if_neg e, if_neg (show ¬ (spotK kv).1 = .inl (n : Int) from fun q => e (key_inl.mp q))]
  · rw [List.map_append]
    rfl
theorem pairs_some (l : List (Cs × Cs)) (q : Cs × Cs) : (valV (l.map pairK) (pairK q).1).isSome = decide (q ∈ l) := by
  rw [← valV_any, List.any_map]
  rw [Bool.eq_iff_iff, List.any_eq_true, decide_eq_true_iff]
  constructor
  · rintro ⟨x, hx, e⟩
    have e := of_decide_eq_true e
    have e2 : (pairK x).1 = (pairK q).1 := e
    rw [pairK_inj] at e2
    rw [← e2]
    exact hx
  · intro h
    exact ⟨q, h, decide_eq_true rfl⟩
theorem pairs_put (l : List (Cs × Cs)) (q : Cs × Cs) : putK (l.map pairK) (pairK q).1 (.bl true) = (if q ∈ l then l else l ++ [q]).map pairK := by
  unfold putK
  rw [valV_any, pairs_some]
  by_cases h : q ∈ l
  · rw [if_pos (decide_eq_true h), if_pos h, List.map_map]
    refine List.map_congr_left fun x _ => ?_
    show (if (pairK x).1 = (pairK q).1 then ((pairK x).1, V.bl true) else pairK x) = pairK x
    split <;> rfl
  · rw [if_neg (fun z => h (of_decide_eq_true z)), if_neg h, List.map_append]
    rfl
theorem rules_any {H : Hp} {k : Nat × Nat} : ∀ {rs : List ((Nat × Nat) × Rule)} {kvs : List (List Key × V)}, Paired (RuleAt H) rs kvs → (kvs.any fun kv => decide (kv.1 = keyT k)) = rs.any fun kv => decide (kv.1 = k)
  | _, _, .nil => rfl
  | _, _, .cons (a := r) (b := kv) h t => by
    rw [List.any_cons, List.any_cons, rules_any t]
    congr 1
    rw [h.1, Bool.eq_iff_iff, decide_eq_true_iff, decide_eq_true_iff, keyT_inj]
theorem rules_put {H : Hp} {k : Nat × Nat} {r : Rule} {t : Addr} (ht : H t = some (.tup [.int r.left, sV r.move, .int r.later])) {rs : List ((Nat × Nat) × Rule)} {kvs : List (List Key × V)} (h : Paired (RuleAt H) rs kvs) :
    Paired (RuleAt H) (putA rs k r) (putK kvs (keyT k) (.ref t)) := by
  unfold putA putK
  rw [rules_any h]
  split
  · rename_i hany
    clear hany
    induction h with
    | nil => exact .nil
    | @cons r0 kv l m h t ih =>
      refine .cons ?_ ih
      dsimp only
      by_cases e : r0.1 = k
      · rw [if_pos e, if_pos (by rw [h.1, e])]
        exact ⟨h.1, _, rfl, ht⟩
      · rw [if_neg e, if_neg (by rw [h.1]; exact fun q => e (keyT_inj.mp q))]
        exact h
  · exact Paired_snoc h ⟨rfl, t, rfl, ht⟩
theorem Paired_len {α β : Type} {F : α → β → Prop} {l : List α} {m : List β} (h : Paired F l m) : l.length = m.length := h.length
theorem lp_no_parse_names {L : PLoc} {n : Nat} : (parF L n).lookup ("parse_names" : Str) = none := by kernel_rfl
theorem lp_no_parse_robot {L : PLoc} {n : Nat} : (parF L n).lookup ("parse_robot" : Str) = none := by kernel_rfl
theorem lp_no_parse_put {L : PLoc} {n : Nat} : (parF L n).lookup ("parse_put" : Str) = none := by kernel_rfl
theorem lp_no_parse_rule {L : PLoc} {n : Nat} : (parF L n).lookup ("parse_rule" : Str) = none := by kernel_rfl
theorem lp_no_parse_plan {L : PLoc} {n : Nat} : (parF L n).lookup ("parse_plan" : Str) = none := by kernel_rfl
section
variable {P : Program} {w : World} {K : PySem.W.Frag} {mg : Str → Option Value} {base : Heap}
def spParseRobot (K : PySem.W.Frag) : Sp := fun vs H Q E => ∃ (H0 : Hp) (p : Addr) (L : PLoc) (tas : List Addr) (T : List Tk) (st : PSt) (tiles : Nat), vs = [.ref p, .int tiles] ∧ PA K H0 H p L tas T st ∧ GoodT T ∧ Bd T st ∧
  Res K H0 p L tas T (parseRobot T tiles st) Q E retU
theorem sc_parse_robot : FnScope ["self", "tiles", "keyword", "tile", "way"] ["self", "tiles"] (defScope s_Parser_parse_robot) := ⟨rfl, rfl, rfl, by decide +kernel, rfl, by decide +kernel, by decide +kernel⟩
theorem ok_parse_robot (T : ParT K mg) : FnE P w K mg base (L2.CX P w) 6 ("Parser", some "parse_robot") ["self", "tiles"] (spParseRobot K) := by
  obtain ⟨fd, F⟩ := T.parse_robot.d
  obtain ⟨fdF, GF, bF, kF⟩ := ok_found (P := P) (w := w) (base := base) T
  obtain ⟨fdT, GT, bT, kT⟩ := ok_tile_of (P := P) (w := w) (base := base) T
  obtain ⟨fdW, GW, bW, kW⟩ := ok_take_word (P := P) (w := w) (base := base) T
  obtain ⟨fdK, GK, bK, kK⟩ := ok_take_keyword (P := P) (w := w) (base := base) T
  obtain ⟨t1, mMAX⟩ := T.MAX_ROBOTS
  refine ⟨fd, F.ok sc_parse_robot (fun vs H Q E h => ?_) (fun cdv A outer s H vs Q E hr h => ?_), F.bindsN fun _ _ _ _ _ _ us hl => match us, hl with | [_, _], _ => rfl, F.kp⟩
  · obtain ⟨H0, p, L, tas, Ts, st, tiles, rfl, _⟩ := h
    rfl
  · obtain ⟨H0, p, L, tas, Ts, st, tiles, rfl, hP, hG, hB, R⟩ := h
    have hr1 : Room 1 _ := hr.mono (by decide)
    have hr4 : Room 4 _ := hr.mono (by decide)
    refine ⟨_, (pss_cons (ps_set (i := 2) sc_parse_robot.nd rfl (.inl rfl) (pe_meth (pv 0) T.par.c T.take_word.m GW hr4 bW .nil (passes_call (takes_of rfl rfl rfl rfl) (fun _ _ _ _ h => h)) (pa_cons pe_str pa_nil)))
      (C8.pss_cut (ps_if (pt_cmpR op_eq (pe_callB call_len_seq (by rfl) T.l.len boot_len (pa_cons (pe_fld (pv 0) rfl) pa_nil)) (pe_glob (v := .int 3) rfl mMAX ⟨_, rfl⟩) (nomark _))
        (pss_one (ps_expr (pe_meth (pv 0) T.par.c T.found.m GF hr1 bF .nil pass0 (pa_cons pe_str (pa_cons (pv 2) pa_nil))))) pss_nil)
      (pss_cons (ps_set (i := 3) sc_parse_robot.nd rfl (.inl rfl) (pe_meth (pv 0) T.par.c T.tile_of.m GT hr bT .nil (passes_call (takes_of rfl rfl rfl rfl) (fun _ _ _ _ h => h)) (pa_cons (pv 1) pa_nil)))
      (pss_cons (ps_set (i := 4) sc_parse_robot.nd rfl (.inl rfl) (pe_meth (pv 0) T.par.c T.take_keyword.m GK hr4 bK .nil (passes_call (takes_of rfl rfl rfl rfl) (fun _ _ _ _ h => h)) (pa_cons (pe_glob (v := .ref (He.ga K nWays)) rfl T.WAYS rfl) pa_nil)))
      (pss_cons (ps_expr (pe_meth (pv 0) T.par.c T.take_word.m GW hr4 bW .nil (passes_call (takes_of rfl rfl rfl rfl) (fun _ _ _ _ h => h)) (pa_cons pe_str pa_nil)))
      (pss_one (ps_expr (pe_bm PySem.F.plainAttrs_list PySem.F.slot_list_append PySem.F.type_list_append mt_append (pe_fld (pv 0) rfl)
        (pa_cons (pe_tup (pa_cons (pv 3) (pa_cons (pe_cmpR op_eq (pe_fld (pv 4) rfl) pe_str (nomark _)) pa_nil))) pa_nil))))))))), ?_⟩
    obtain ⟨dx, ob⟩ := hP.ob
    refine ⟨_, rfl, p, dx, _, rfl, ob, lp_no_take_word, H0, p, L, tas, Ts, st, wRobot, by rw [e_robot]; rfl, hP, hB.at_, ⟨fun kw s1 h1 v H1 hv hP1 => ?_, fun l c he => R.er l c (by simp only [parseRobot, he])⟩⟩
    obtain ⟨a1, rfl, hta1⟩ := hv
    obtain ⟨B1, f1, e1⟩ := bd_word hG hB h1 (by decide)
    have hlen := hG.len
    have hat := B1.at_
    have hB1f := B1.fa
    obtain ⟨ras, hra, hras⟩ := hP1.ro
    obtain ⟨dx1, ob1⟩ := hP1.ob
    have B2 : Bd Ts (if s1.robots.length = 3 then s1.found rRobots kw else s1) := by
      split
      · exact B1.found (by omega)
      · exact B1
    refine ⟨fun σ' H' => σ' = [some (.ref p), some (.int tiles), some (.ref a1), none, none] ∧ PA K H0 H' p L tas Ts (if s1.robots.length = 3 then s1.found rRobots kw else s1), ?_, ?_⟩
    · refine ⟨_, rfl, p, _, dx1, _, _, rfl, ob1, T.par.c, T.par.n _ (by simp), lp_robots, L.rl, _, rfl, .inl (SqL.of hra), rfl, _, rfl, ?_⟩
      rw [List.length_map, hras.length]
      refine ite2 (fun h => ?_) (fun h => ?_)
      · have h : s1.robots.length = 3 := Int.ofNat_inj.mp (V.int.inj (of_decide_eq_true h))
        refine ⟨_, rfl, p, dx1, _, rfl, ob1, lp_no_found, _, rfl, H0, p, L, tas, Ts, s1, rRobots, a1, kw, by rw [e_robots]; rfl, hP1, hta1, by omega, fun H2 hP2 => ⟨rfl, ?_⟩⟩
        rw [if_pos h]
        exact hP2
      · have h : ¬ s1.robots.length = 3 := fun q => h (decide_eq_true (by rw [q]; rfl))
        refine ⟨rfl, ?_⟩
        rw [if_neg h]
        exact hP1
    · rintro σ' H2 ⟨rfl, hP2⟩
      generalize hs2 : (if s1.robots.length = 3 then s1.found rRobots kw else s1) = s2 at *
      obtain ⟨dx2, ob2⟩ := hP2.ob
      have B2f := B2.fa
      have B2a := B2.at_
      refine ⟨_, rfl, p, dx2, _, rfl, ob2, lp_no_tile_of, _, rfl, H0, p, L, tas, Ts, s2, tiles, rfl, hP2, hG, B2.at_, by omega, ⟨fun n s3 h3 v H3 hv hP3 => ?_, fun l c he => R.er l c (by simp only [parseRobot, h1, hs2, he])⟩⟩
      obtain rfl : v = .int n := hv
      obtain ⟨B3, f3, a3, r3, _⟩ := bd_tile hG B2 h3
      obtain ⟨dx3, ob3⟩ := hP3.ob
      refine ⟨_, rfl, p, dx3, _, rfl, ob3, lp_no_take_keyword, H0, p, L, tas, Ts, s3, He.ga K nWays, ways, rfl, hP3, B3.at_, T.ways H3, ⟨fun wy s4 h4 v H4 hv hP4 => ?_, fun l c he => R.er l c (by simp only [parseRobot, h1, hs2, h3, he])⟩⟩
      obtain ⟨a4, rfl, hta4⟩ := hv
      obtain ⟨B4, f4, e4⟩ := bd_kw hG B3 h4
      obtain ⟨dx4, ob4⟩ := hP4.ob
      refine ⟨_, rfl, p, dx4, _, rfl, ob4, lp_no_take_word, H0, p, L, tas, Ts, s4, wSemi, by rw [e_semi]; rfl, hP4, B4.at_, ⟨fun t5 s5 h5 v H5 hv hP5 => ?_, fun l c he => R.er l c (by simp only [parseRobot, h1, hs2, h3, h4, he])⟩⟩
      clear hv
      obtain ⟨B5, f5, e5⟩ := bd_word hG B4 h5 (by decide)
      obtain ⟨dx5, ob5⟩ := hP5.ob
      obtain ⟨dt, ht⟩ := hP5.get hta4
      obtain ⟨ras5, hra5, hras5⟩ := hP5.ro
      have B5r := B5.ro
      have B5a := B5.at_
      refine ⟨_, rfl, p, _, dx5, _, _, rfl, ob5, T.par.c, T.par.n _ (by simp), lp_robots, .inl ⟨rfl, _, SqL.of hra5⟩, _, rfl, _, rfl, a4, _, dt, _, _, rfl, ht, T.l.tok.c, T.l.tok.n _ (by simp), lk_text, rfl, (by show 2 ≤ sizeLine; decide), fun tu ntu => ?_⟩
      have nrl : L.rl ≠ tu := ne_of_none hra5 ntu
      have ed : decide (V.str (sx wy.text) = V.str "right") = decide (wy.text = wRight) := by
        rw [e_right, Bool.eq_iff_iff, decide_eq_true_iff, decide_eq_true_iff]
        exact ⟨fun q => sx_inj (V.str.inj q), fun q => by rw [q]⟩
      rw [ed]
      refine ⟨L.rl, _, _, rfl, rfl, by rw [upd_ne nrl]; exact hra5, by rw [List.length_map, hras5.length, sizeLine_eq]; omega, ?_⟩
      have sm := sameUpd (o := .tup [.int n, .bl (decide (wy.text = wRight))]) (Same.refl H5) ntu
      have hP6 := hP5.mono sm
      have em : (ras5.map V.ref ++ [V.ref tu]) = (ras5 ++ [tu]).map V.ref := by rw [List.map_append]; rfl
      rw [em]
      have hP7 := hP6.set_rl (ras := ras5 ++ [tu]) (rs := s5.robots ++ [(n, decide (wy.text = wRight))]) (sm _ _ hra5) (Paired_snoc (Paired.mapP hras5 fun a r q => keepT (sm _ _ hra5) (fun xs q => by cases q) _ _ (sm _ _ q)) (by
        show (upd _ L.rl _) tu = _
        rw [upd_ne (Ne.symm nrl), upd_same]))
      exact R.ok () _ (by simp only [parseRobot, h1, hs2, h3, h4, h5]) _ _ rfl hP7
end
end Sw

end

section
set_option maxRecDepth 100000
set_option maxHeartbeats 4000000
/-! parse_put, parse_rule -/
namespace Sw
open PySem PySem.Spec PyProof.Rows L2 SwA
section
variable {P : Program} {w : World} {K : PySem.W.Frag} {mg : Str → Option Value} {base : Heap}
def spParsePut (K : PySem.W.Frag) : Sp := fun vs H Q E => ∃ (H0 : Hp) (p : Addr) (L : PLoc) (tas : List Addr) (T : List Tk) (st : PSt) (tiles : Nat), vs = [.ref p, .int tiles] ∧ PA K H0 H p L tas T st ∧ GoodT T ∧ Bd T st ∧
  Res K H0 p L tas T (parsePut T tiles st) Q E retU
theorem sc_parse_put : FnScope ["self", "tiles", "sign", "token", "tile"] ["self", "tiles"] (defScope s_Parser_parse_put) := ⟨rfl, rfl, rfl, by decide +kernel, rfl, by decide +kernel, by decide +kernel⟩
theorem ok_parse_put (T : ParT K mg) : FnE P w K mg base (L2.CX P w) 6 ("Parser", some "parse_put") ["self", "tiles"] (spParsePut K) := by
  obtain ⟨fd, F⟩ := T.parse_put.d
  obtain ⟨fdP, GP, bP, kP⟩ := ok_peek (P := P) (w := w) (base := base) T
  obtain ⟨fdF, GF, bF, kF⟩ := ok_found (P := P) (w := w) (base := base) T
  obtain ⟨fdN, GN, bN, kN⟩ := ok_number_of (P := P) (w := w) (base := base) T
  obtain ⟨fdA, GA, bA, kA⟩ := ok_take (P := P) (w := w) (base := base) T
  obtain ⟨fdT, GT, bT, kT⟩ := ok_tile_of (P := P) (w := w) (base := base) T
  obtain ⟨fdW, GW, bW, kW⟩ := ok_take_word (P := P) (w := w) (base := base) T
  obtain ⟨t1, mNAME⟩ := T.l.NAME
  refine ⟨fd, F.ok sc_parse_put (fun vs H Q E h => ?_) (fun cdv A outer s H vs Q E hr h => ?_), F.bindsN fun _ _ _ _ _ _ us hl => match us, hl with | [_, _], _ => rfl, F.kp⟩
  · obtain ⟨H0, p, L, tas, Ts, st, tiles, rfl, _⟩ := h
    rfl
  · obtain ⟨H0, p, L, tas, Ts, st, tiles, rfl, hP, hG, hB, R⟩ := h
    have hr1 : Room 1 _ := hr.mono (by decide)
    have hr2 : Room 2 _ := hr.mono (by decide)
    have hr4 : Room 4 _ := hr.mono (by decide)
    have hu := hu_of hr
    refine ⟨_, (pss_cons (ps_expr (pe_meth (pv 0) T.par.c T.take_word.m GW hr4 bW .nil (passes_call (takes_of rfl rfl rfl rfl) (fun _ _ _ _ h => h)) (pa_cons pe_str pa_nil)))
      (pss_cons (ps_set (i := 2) sc_parse_put.nd rfl (.inl rfl) (pe_meth (pv 0) T.par.c T.number_of.m GN hr2 bN .nil pass0 (pa_cons (pe_fld (pv 0) rfl)
        (pa_cons (pe_meth (pv 0) T.par.c T.take.m GA hr4 bA .nil (passes_call (takes_of rfl rfl rfl rfl) (fun _ _ _ _ h => h)) (pa_cons (pe_glob (v := .str "name") rfl mNAME ⟨_, rfl⟩) pa_nil)) pa_nil))))
      (pss_cons (ps_set (i := 3) sc_parse_put.nd rfl (.inl rfl) (pe_meth0 (pv 0) T.par.c T.peek.m GP hr1 bP .nil pass0))
      (pss_cons (ps_set (i := 4) sc_parse_put.nd rfl (.inl rfl) (pe_meth (pv 0) T.par.c T.tile_of.m GT hr bT .nil (passes_call (takes_of rfl rfl rfl rfl) (fun _ _ _ _ h => h)) (pa_cons (pv 1) pa_nil)))
      (pss_cons (ps_expr (pe_meth (pv 0) T.par.c T.take_word.m GW hr4 bW .nil (passes_call (takes_of rfl rfl rfl rfl) (fun _ _ _ _ h => h)) (pa_cons pe_str pa_nil)))
      (C8.pss_cut (ps_if (pt_cmp (pc_din hu (pv 4) (pe_fld (pv 0) rfl)))
        (pss_one (ps_expr (pe_meth (pv 0) T.par.c T.found.m GF hr1 bF .nil pass0 (pa_cons pe_str (pa_cons (pv 3) pa_nil))))) pss_nil)
      (pss_one (ps_dput hu (pe_fld (pv 0) rfl) (pv 4) (pv 2) rfl)))))))), ?_⟩
    obtain ⟨dx, ob⟩ := hP.ob
    have hlen := hG.len
    refine ⟨_, rfl, p, dx, _, rfl, ob, lp_no_take_word, H0, p, L, tas, Ts, st, wPut, by rw [e_put]; rfl, hP, hB.at_, ⟨fun kw s1 h1 v H1 hv hP1 => ?_, fun l c he => R.er l c (by simp only [parsePut, he])⟩⟩
    clear hv
    obtain ⟨B1, f1, e1⟩ := bd_word hG hB h1 (by decide)
    obtain ⟨dx1, ob1⟩ := hP1.ob
    have B1a := B1.at_
    refine ⟨_, rfl, p, dx1, _, rfl, ob1, lp_no_number_of, _, rfl, p, _, dx1, _, _, rfl, ob1, T.par.c, T.par.n _ (by simp), lp_signs, _, rfl, p, dx1, _, rfl, ob1, lp_no_take, H0, p, L, tas, Ts, s1, .name, rfl, hP1, B1.at_,
      ⟨fun nm s2 h2 v H2 hv hP2 => ?_, fun l c he => R.er l c (by simp only [parsePut, h1, he])⟩⟩
    obtain ⟨a2, rfl, hta2⟩ := hv
    obtain ⟨B2, f2, e2, _⟩ := bd_take hG B1 h2 (by decide)
    have B2f := B2.fa
    have B2a := B2.at_
    refine ⟨H0, p, L, tas, Ts, s2, false, a2, nm, rfl, hP2, hta2, by omega, fun H3 hP3 => ?_⟩
    have en : (s2.names false) = s2.signs := rfl
    rw [en] at hP3
    rw [en]
    obtain ⟨B3, a3, f3⟩ := bd_number B2 (names := s2.signs) (t := nm) (by omega)
    generalize hs3 : (numberOf s2.signs nm s2).2 = s3 at *
    generalize hn3 : (numberOf s2.signs nm s2).1 = n3 at *
    obtain ⟨dx3, ob3⟩ := hP3.ob
    refine ⟨_, rfl, p, dx3, _, rfl, ob3, lp_no_peek, H0, p, L, tas, Ts, s3, rfl, hP3, B3.at_, fun a4 hta4 => ?_⟩
    have B3f := B3.fa
    have B3a := B3.at_
    refine ⟨_, rfl, p, dx3, _, rfl, ob3, lp_no_tile_of, _, rfl, H0, p, L, tas, Ts, s3, tiles, rfl, hP3, hG, B3.at_, by omega, ⟨fun n s5 h5 v H5 hv hP5 => ?_, fun l c he => R.er l c (by simp only [parsePut, h1, h2, hs3, he])⟩⟩
    obtain rfl : v = .int n := hv
    obtain ⟨B5, f5, a5, r5, sp5⟩ := bd_tile hG B3 h5
    obtain ⟨dx5, ob5⟩ := hP5.ob
    refine ⟨_, rfl, p, dx5, _, rfl, ob5, lp_no_take_word, H0, p, L, tas, Ts, s5, wSemi, by rw [e_semi]; rfl, hP5, B5.at_, ⟨fun t6 s6 h6 v H6 hv hP6 => ?_, fun l c he => R.er l c (by simp only [parsePut, h1, h2, hs3, h5, he])⟩⟩
    clear hv
    obtain ⟨B6, f6, e6⟩ := bd_word hG B5 h6 (by decide)
    obtain ⟨dx6, ob6⟩ := hP6.ob
    have B6f := B6.fa
    have B6a := B6.at_
    have hfin : parsePut Ts tiles st = .ok ((), { (if (s6.spots.any fun kv => decide (kv.1 = n)) = true then s6.found rAgain (peek Ts s3) else s6) with
        spots := putA (if (s6.spots.any fun kv => decide (kv.1 = n)) = true then s6.found rAgain (peek Ts s3) else s6).spots n n3 }) := by
      simp only [parsePut, h1, h2, hs3, h5, h6, hn3]
    refine ⟨fun σ' H' => σ' = [some (.ref p), some (.int tiles), some (.int n3), some (.ref a4), some (.int n)] ∧ PA K H0 H' p L tas Ts (if (s6.spots.any fun kv => decide (kv.1 = n)) = true then s6.found rAgain (peek Ts s3) else s6), ?_, ?_⟩
    · refine ⟨_, rfl, _, rfl, p, _, dx6, _, _, rfl, ob6, T.par.c, T.par.n _ (by simp), lp_spots, L.sd, _, rfl, DGet.k (k := Sum.inl (n : Int)) hP6.sp, _, rfl, ?_⟩
      rw [spots_any]
      refine ite2 (fun h => ?_) (fun h => ?_)
      · refine ⟨_, rfl, p, dx6, _, rfl, ob6, lp_no_found, _, rfl, H0, p, L, tas, Ts, s6, rAgain, a4, _, by rw [e_again]; rfl, hP6, hta4, by omega, fun H7 hP7 => ⟨rfl, ?_⟩⟩
        rw [if_pos h]
        exact hP7
      · refine ⟨rfl, ?_⟩
        rw [if_neg h]
        exact hP6
    · rintro σ' H7 ⟨rfl, hP7⟩
      have hsp : (if (s6.spots.any fun kv => decide (kv.1 = n)) = true then s6.found rAgain (peek Ts s3) else s6).spots = s6.spots := by split <;> rfl
      generalize hs7 : (if (s6.spots.any fun kv => decide (kv.1 = n)) = true then s6.found rAgain (peek Ts s3) else s6) = s7 at *
      obtain ⟨dx7, ob7⟩ := hP7.ob
      have B6s := B6.sp
      refine ⟨_, rfl, _, rfl, p, _, dx7, _, _, rfl, ob7, T.par.c, T.par.n _ (by simp), lp_spots, _, rfl, L.sd, _, rfl, DPut.k (k := Sum.inl (n : Int)) hP7.sp (by rw [List.length_map, hsp, sizeLine_eq]; omega), ?_⟩
      rw [spots_put]
      exact R.ok () _ hfin _ _ rfl (hP7.set_sd hP7.sp trivial)
def spParseRule (K : PySem.W.Frag) : Sp := fun vs H Q E => ∃ (H0 : Hp) (p : Addr) (L : PLoc) (tas : List Addr) (T : List Tk) (st : PSt), vs = [.ref p] ∧ PA K H0 H p L tas T st ∧ GoodT T ∧ Bd T st ∧
  Res K H0 p L tas T (parseRule T st) Q E retU
theorem sc_parse_rule : FnScope ["self", "keyword", "first", "mood", "second", "sign", "left", "move", "later"] ["self"] (defScope s_Parser_parse_rule) := ⟨rfl, rfl, rfl, by decide +kernel, rfl, by decide +kernel, by decide +kernel⟩
theorem ok_parse_rule (T : ParT K mg) : FnE P w K mg base (L2.CX P w) 6 ("Parser", some "parse_rule") ["self"] (spParseRule K) := by
  obtain ⟨fd, F⟩ := T.parse_rule.d
  obtain ⟨fdF, GF, bF, kF⟩ := ok_found (P := P) (w := w) (base := base) T
  obtain ⟨fdN, GN, bN, kN⟩ := ok_number_of (P := P) (w := w) (base := base) T
  obtain ⟨fdA, GA, bA, kA⟩ := ok_take (P := P) (w := w) (base := base) T
  obtain ⟨fdW, GW, bW, kW⟩ := ok_take_word (P := P) (w := w) (base := base) T
  obtain ⟨fdK, GK, bK, kK⟩ := ok_take_keyword (P := P) (w := w) (base := base) T
  obtain ⟨t1, mNAME⟩ := T.l.NAME
  refine ⟨fd, F.ok sc_parse_rule (fun vs H Q E h => ?_) (fun cdv A outer s H vs Q E hr h => ?_), F.bindsN fun _ _ _ _ _ _ us hl => match us, hl with | [_], _ => rfl, F.kp⟩
  · obtain ⟨H0, p, L, tas, Ts, st, rfl, _⟩ := h
    rfl
  · obtain ⟨H0, p, L, tas, Ts, st, rfl, hP, hG, hB, R⟩ := h
    have hr1 : Room 1 _ := hr.mono (by decide)
    have hr2 : Room 2 _ := hr.mono (by decide)
    have hr4 : Room 4 _ := hr.mono (by decide)
    have hu := hu_of hr
    refine ⟨_, (pss_cons (ps_set (i := 1) sc_parse_rule.nd rfl (.inl rfl) (pe_meth (pv 0) T.par.c T.take_word.m GW hr4 bW .nil (passes_call (takes_of rfl rfl rfl rfl) (fun _ _ _ _ h => h)) (pa_cons pe_str pa_nil)))
      (pss_cons (ps_set (i := 2) sc_parse_rule.nd rfl (.inl rfl) (pe_meth (pv 0) T.par.c T.take.m GA hr4 bA .nil (passes_call (takes_of rfl rfl rfl rfl) (fun _ _ _ _ h => h)) (pa_cons (pe_glob (v := .str "name") rfl mNAME ⟨_, rfl⟩) pa_nil)))
      (pss_cons (ps_set (i := 3) sc_parse_rule.nd rfl (.inl rfl) (pe_meth (pv 0) T.par.c T.number_of.m GN hr2 bN .nil pass0 (pa_cons (pe_fld (pv 0) rfl) (pa_cons (pv 2) pa_nil))))
      (pss_cons (ps_set (i := 4) sc_parse_rule.nd rfl (.inl rfl) (pe_meth (pv 0) T.par.c T.take.m GA hr4 bA .nil (passes_call (takes_of rfl rfl rfl rfl) (fun _ _ _ _ h => h)) (pa_cons (pe_glob (v := .str "name") rfl mNAME ⟨_, rfl⟩) pa_nil)))
      (pss_cons (ps_set (i := 5) sc_parse_rule.nd rfl (.inl rfl) (pe_meth (pv 0) T.par.c T.number_of.m GN hr2 bN .nil pass0 (pa_cons (pe_fld (pv 0) rfl) (pa_cons (pv 4) pa_nil))))
      (pss_cons (ps_expr (pe_meth (pv 0) T.par.c T.take_word.m GW hr4 bW .nil (passes_call (takes_of rfl rfl rfl rfl) (fun _ _ _ _ h => h)) (pa_cons pe_str pa_nil)))
      (pss_cons (ps_set (i := 6) sc_parse_rule.nd rfl (.inl rfl) (pe_meth (pv 0) T.par.c T.number_of.m GN hr2 bN .nil pass0 (pa_cons (pe_fld (pv 0) rfl)
        (pa_cons (pe_meth (pv 0) T.par.c T.take.m GA hr4 bA .nil (passes_call (takes_of rfl rfl rfl rfl) (fun _ _ _ _ h => h)) (pa_cons (pe_glob (v := .str "name") rfl mNAME ⟨_, rfl⟩) pa_nil)) pa_nil))))
      (pss_cons (ps_set (i := 7) sc_parse_rule.nd rfl (.inl rfl) (pe_meth (pv 0) T.par.c T.take_keyword.m GK hr4 bK .nil (passes_call (takes_of rfl rfl rfl rfl) (fun _ _ _ _ h => h)) (pa_cons (pe_glob (v := .ref (He.ga K "MOVES")) rfl T.MOVES rfl) pa_nil)))
      (pss_cons (ps_set (i := 8) sc_parse_rule.nd rfl (.inl rfl) (pe_meth (pv 0) T.par.c T.number_of.m GN hr2 bN .nil pass0 (pa_cons (pe_fld (pv 0) rfl)
        (pa_cons (pe_meth (pv 0) T.par.c T.take.m GA hr4 bA .nil (passes_call (takes_of rfl rfl rfl rfl) (fun _ _ _ _ h => h)) (pa_cons (pe_glob (v := .str "name") rfl mNAME ⟨_, rfl⟩) pa_nil)) pa_nil))))
      (pss_cons (ps_expr (pe_meth (pv 0) T.par.c T.take_word.m GW hr4 bW .nil (passes_call (takes_of rfl rfl rfl rfl) (fun _ _ _ _ h => h)) (pa_cons pe_str pa_nil)))
      (C8.pss_cut (ps_if (pt_cmp (pc_din hu (pe_tup (pa_cons (pe_fld (pv 2) rfl) (pa_cons (pe_fld (pv 4) rfl) pa_nil))) (pe_fld (pv 0) rfl)))
        (pss_one (ps_expr (pe_meth (pv 0) T.par.c T.found.m GF hr1 bF .nil pass0 (pa_cons pe_str (pa_cons (pv 1) pa_nil))))) pss_nil)
      (pss_cons (ps_dput hu (pe_fld (pv 0) rfl) (pe_tup (pa_cons (pe_fld (pv 2) rfl) (pa_cons (pe_fld (pv 4) rfl) pa_nil))) pe_bl rfl)
      (pss_one (ps_dput hu (pe_fld (pv 0) rfl) (pe_tup (pa_cons (pv 3) (pa_cons (pv 5) pa_nil))) (pe_tup (pa_cons (pv 6) (pa_cons (pe_fld (pv 7) rfl) (pa_cons (pv 8) pa_nil)))) rfl)))))))))))))), ?_⟩
    obtain ⟨dx, ob⟩ := hP.ob
    have hlen := hG.len
    refine ⟨_, rfl, p, dx, _, rfl, ob, lp_no_take_word, H0, p, L, tas, Ts, st, wWhen, by rw [e_when]; rfl, hP, hB.at_, ⟨fun kw s1 h1 v H1 hv hP1 => ?_, fun l c he => R.er l c (by simp only [parseRule, he])⟩⟩
    obtain ⟨akw, rfl, htakw⟩ := hv
    obtain ⟨B1, f1, e1⟩ := bd_word hG hB h1 (by decide)
    obtain ⟨dx1, ob1⟩ := hP1.ob
    refine ⟨_, rfl, p, dx1, _, rfl, ob1, lp_no_take, H0, p, L, tas, Ts, s1, .name, rfl, hP1, B1.at_, ⟨fun first s2 h2 v H2 hv hP2 => ?_, fun l c he => R.er l c (by simp only [parseRule, h1, he])⟩⟩
    obtain ⟨af, rfl, htaf⟩ := hv
    obtain ⟨B2, f2, e2, _⟩ := bd_take hG B1 h2 (by decide)
    obtain ⟨dx2, ob2⟩ := hP2.ob
    have B2f := B2.fa
    have B2a := B2.at_
    refine ⟨_, rfl, p, dx2, _, rfl, ob2, lp_no_number_of, _, rfl, p, _, dx2, _, _, rfl, ob2, T.par.c, T.par.n _ (by simp), lp_moods, _, rfl, H0, p, L, tas, Ts, s2, true, af, first, rfl, hP2, htaf, by omega, fun H3 hP3 => ?_⟩
    have en2 : (s2.names true) = s2.moods := rfl
    rw [en2] at hP3
    rw [en2]
    obtain ⟨B3, a3, f3⟩ := bd_number B2 (names := s2.moods) (t := first) (by omega)
    generalize hs3 : (numberOf s2.moods first s2).2 = s3 at *
    generalize hmood : (numberOf s2.moods first s2).1 = mood at *
    obtain ⟨dx3, ob3⟩ := hP3.ob
    refine ⟨_, rfl, p, dx3, _, rfl, ob3, lp_no_take, H0, p, L, tas, Ts, s3, .name, rfl, hP3, B3.at_, ⟨fun second s4 h4 v H4 hv hP4 => ?_, fun l c he => R.er l c (by simp only [parseRule, h1, h2, hs3, he])⟩⟩
    obtain ⟨as, rfl, htas⟩ := hv
    obtain ⟨B4, f4, e4, _⟩ := bd_take hG B3 h4 (by decide)
    obtain ⟨dx4, ob4⟩ := hP4.ob
    have B4f := B4.fa
    have B4a := B4.at_
    refine ⟨_, rfl, p, dx4, _, rfl, ob4, lp_no_number_of, _, rfl, p, _, dx4, _, _, rfl, ob4, T.par.c, T.par.n _ (by simp), lp_signs, _, rfl, H0, p, L, tas, Ts, s4, false, as, second, rfl, hP4, htas, by omega, fun H5 hP5 => ?_⟩
    have en4 : (s4.names false) = s4.signs := rfl
    rw [en4] at hP5
    rw [en4]
    obtain ⟨B5, a5, f5⟩ := bd_number B4 (names := s4.signs) (t := second) (by omega)
    generalize hs5 : (numberOf s4.signs second s4).2 = s5 at *
    generalize hsign : (numberOf s4.signs second s4).1 = sign at *
    obtain ⟨dx5, ob5⟩ := hP5.ob
    refine ⟨_, rfl, p, dx5, _, rfl, ob5, lp_no_take_word, H0, p, L, tas, Ts, s5, wLeave, by rw [e_leave]; rfl, hP5, B5.at_, ⟨fun t6 s6 h6 v H6 hv hP6 => ?_, fun l c he => R.er l c (by simp only [parseRule, h1, h2, hs3, h4, hs5, he])⟩⟩
    clear hv
    obtain ⟨B6, f6, e6⟩ := bd_word hG B5 h6 (by decide)
    obtain ⟨dx6, ob6⟩ := hP6.ob
    refine ⟨_, rfl, p, dx6, _, rfl, ob6, lp_no_number_of, _, rfl, p, _, dx6, _, _, rfl, ob6, T.par.c, T.par.n _ (by simp), lp_signs, _, rfl, p, dx6, _, rfl, ob6, lp_no_take, H0, p, L, tas, Ts, s6, .name, rfl, hP6, B6.at_,
      ⟨fun lf s7 h7 v H7 hv hP7 => ?_, fun l c he => R.er l c (by simp only [parseRule, h1, h2, hs3, h4, hs5, h6, he])⟩⟩
    obtain ⟨alf, rfl, htalf⟩ := hv
    obtain ⟨B7, f7, e7, _⟩ := bd_take hG B6 h7 (by decide)
    have B7f := B7.fa
    have B7a := B7.at_
    refine ⟨H0, p, L, tas, Ts, s7, false, alf, lf, rfl, hP7, htalf, by omega, fun H8 hP8 => ?_⟩
    have en7 : (s7.names false) = s7.signs := rfl
    rw [en7] at hP8
    rw [en7]
    obtain ⟨B8, a8, f8⟩ := bd_number B7 (names := s7.signs) (t := lf) (by omega)
    generalize hs8 : (numberOf s7.signs lf s7).2 = s8 at *
    generalize hleft : (numberOf s7.signs lf s7).1 = left at *
    obtain ⟨dx8, ob8⟩ := hP8.ob
    refine ⟨_, rfl, p, dx8, _, rfl, ob8, lp_no_take_keyword, H0, p, L, tas, Ts, s8, He.ga K "MOVES", moves, rfl, hP8, B8.at_, T.moves H8, ⟨fun mv s9 h9 v H9 hv hP9 => ?_, fun l c he => R.er l c (by simp only [parseRule, h1, h2, hs3, h4, hs5, h6, h7, hs8, he])⟩⟩
    obtain ⟨amv, rfl, htamv⟩ := hv
    obtain ⟨B9, f9, e9⟩ := bd_kw hG B8 h9
    obtain ⟨dx9, ob9⟩ := hP9.ob
    refine ⟨_, rfl, p, dx9, _, rfl, ob9, lp_no_number_of, _, rfl, p, _, dx9, _, _, rfl, ob9, T.par.c, T.par.n _ (by simp), lp_moods, _, rfl, p, dx9, _, rfl, ob9, lp_no_take, H0, p, L, tas, Ts, s9, .name, rfl, hP9, B9.at_,
      ⟨fun la s10 h10 v H10 hv hP10 => ?_, fun l c he => R.er l c (by simp only [parseRule, h1, h2, hs3, h4, hs5, h6, h7, hs8, h9, he])⟩⟩
    obtain ⟨ala, rfl, htala⟩ := hv
    obtain ⟨B10, f10, e10, _⟩ := bd_take hG B9 h10 (by decide)
    have B10f := B10.fa
    have B10a := B10.at_
    refine ⟨H0, p, L, tas, Ts, s10, true, ala, la, rfl, hP10, htala, by omega, fun H11 hP11 => ?_⟩
    have en10 : (s10.names true) = s10.moods := rfl
    rw [en10] at hP11
    rw [en10]
    obtain ⟨B11, a11, f11⟩ := bd_number B10 (names := s10.moods) (t := la) (by omega)
    generalize hs11 : (numberOf s10.moods la s10).2 = s11 at *
    generalize hlater : (numberOf s10.moods la s10).1 = later at *
    obtain ⟨dx11, ob11⟩ := hP11.ob
    refine ⟨_, rfl, p, dx11, _, rfl, ob11, lp_no_take_word, H0, p, L, tas, Ts, s11, wSemi, by rw [e_semi]; rfl, hP11, B11.at_, ⟨fun t12 s12 h12 v H12 hv hP12 => ?_, fun l c he => R.er l c (by simp only [parseRule, h1, h2, hs3, h4, hs5, h6, h7, hs8, h9, h10, hs11, he])⟩⟩
    clear hv
    obtain ⟨B12, f12, e12⟩ := bd_word hG B11 h12 (by decide)
    have B12f := B12.fa
    have B12a := B12.at_
    have B12p := B12.pr
    have B12r := B12.ru
    have hfin := fun (r : PR Unit) (e : parseRule Ts st = r) => e
    obtain ⟨dx12, ob12⟩ := hP12.ob
    obtain ⟨dtf, htf⟩ := hP12.get htaf
    obtain ⟨dts, hts⟩ := hP12.get htas
    generalize hz : (if (first.text, second.text) ∈ s12.pairs then s12.found rTwice kw else s12) = z
    have hfin : parseRule Ts st = .ok ((), { ({ z with pairs := if (first.text, second.text) ∈ z.pairs then z.pairs else z.pairs ++ [(first.text, second.text)] } : PSt) with
        rules := putA z.rules (mood, sign) ⟨left, mv.text, later⟩ }) := by
      simp only [parseRule, h1, h2, hs3, h4, hs5, h6, h7, hs8, h9, h10, hs11, h12, hmood, hsign, hleft, hlater, hz]
    have zp : z.pairs = s12.pairs ∧ z.rules = s12.rules := by rw [← hz]; split <;> exact ⟨rfl, rfl⟩
    refine ⟨fun σ' H' => σ' = [some (.ref p), some (.ref akw), some (.ref af), some (.int mood), some (.ref as), some (.int sign), some (.int left), some (.ref amv), some (.int later)] ∧ PA K H0 H' p L tas Ts z, ?_, ?_⟩
    · refine ⟨_, rfl, af, _, dtf, _, _, rfl, htf, T.l.tok.c, T.l.tok.n _ (by simp), lk_text, _, rfl, as, _, dts, _, _, rfl, hts, T.l.tok.c, T.l.tok.n _ (by simp), lk_text, (by show 2 ≤ sizeLine; decide), fun tu ntu => ?_⟩
      have sm := sameUpd (o := .tup [sV first.text, sV second.text]) (Same.refl H12) ntu
      have hP13 := hP12.mono sm
      refine ⟨_, rfl, p, _, dx12, _, _, rfl, sm _ _ ob12, T.par.c, T.par.n _ (by simp), lp_pairs, L.pd, _, rfl, DGet.t (k := (pairK (first.text, second.text)).1) hP13.pr upd_same, _, rfl, ?_⟩
      rw [pairs_some]
      refine ite2 (fun h => ?_) (fun h => ?_)
      · have h := of_decide_eq_true h
        refine ⟨_, rfl, p, dx12, _, rfl, sm _ _ ob12, lp_no_found, _, rfl, H0, p, L, tas, Ts, s12, rTwice, akw, kw, by rw [e_twice]; rfl, hP13, htakw, by omega, fun H14 hP14 => ⟨rfl, ?_⟩⟩
        rw [← hz, if_pos h]
        exact hP14
      · have h : ¬ (first.text, second.text) ∈ s12.pairs := fun q => h (decide_eq_true q)
        refine ⟨rfl, ?_⟩
        rw [← hz, if_neg h]
        exact hP13
    · rintro σ' H13 ⟨rfl, hP13⟩
      obtain ⟨dx13, ob13⟩ := hP13.ob
      obtain ⟨dtf, htf⟩ := hP13.get htaf
      obtain ⟨dts, hts⟩ := hP13.get htas
      refine ⟨_, rfl, p, _, dx13, _, _, rfl, ob13, T.par.c, T.par.n _ (by simp), lp_pairs, _, rfl, af, _, dtf, _, _, rfl, htf, T.l.tok.c, T.l.tok.n _ (by simp), lk_text, _, rfl, as, _, dts, _, _, rfl, hts, T.l.tok.c, T.l.tok.n _ (by simp), lk_text, (by show 2 ≤ sizeLine; decide), fun tu ntu => ?_⟩
      have sm := sameUpd (o := .tup [sV first.text, sV second.text]) (Same.refl H13) ntu
      have hP14 := hP13.mono sm
      refine ⟨L.pd, _, rfl, DPut.t (k := (pairK (first.text, second.text)).1) hP14.pr upd_same (by rw [List.length_map, zp.1, sizeLine_eq]; omega), ?_⟩
      rw [pairs_put]
      have hP15 := hP14.set_pd (ps := if (first.text, second.text) ∈ z.pairs then z.pairs else z.pairs ++ [(first.text, second.text)]) hP14.pr trivial
      generalize hH15 : upd (upd H13 tu (.tup [sV first.text, sV second.text])) L.pd (.dT ((if (first.text, second.text) ∈ z.pairs then z.pairs else z.pairs ++ [(first.text, second.text)]).map pairK)) = H15 at *
      obtain ⟨dx15, ob15⟩ := hP15.ob
      obtain ⟨dtm, htm⟩ := hP15.get htamv
      refine ⟨_, rfl, _, rfl, amv, _, dtm, _, _, rfl, htm, T.l.tok.c, T.l.tok.n _ (by simp), lk_text, _, rfl, (by show 3 ≤ sizeLine; decide), fun tv ntv => ?_⟩
      have sm2 := sameUpd (o := .tup [.int left, sV mv.text, .int later]) (Same.refl H15) ntv
      refine ⟨_, rfl, p, _, dx15, _, _, rfl, sm2 _ _ ob15, T.par.c, T.par.n _ (by simp), lp_rules, _, rfl, _, rfl, (by show 2 ≤ sizeLine; decide), fun tk ntk => ?_⟩
      have sm3 := sm2.trans (sameUpd (o := .tup [.int mood, .int sign]) (Same.refl _) ntk)
      have hP16 := hP15.mono sm3
      obtain ⟨kvs, hkv, hkvs⟩ := hP16.ru
      have htv : (upd (upd H15 tv (.tup [.int left, sV mv.text, .int later])) tk (.tup [.int mood, .int sign])) tv = some (.tup [.int left, sV mv.text, .int later]) := by
        rw [upd_ne (ne_of_none upd_same ntk), upd_same]
      have hkl : z.rules.length = kvs.length := hkvs.length
      refine ⟨L.rd, _, rfl, DPut.t (k := keyT (mood, sign)) hkv upd_same (by rw [← hkl, zp.2, sizeLine_eq]; omega), ?_⟩
      refine R.ok () _ hfin _ _ rfl (hP16.set_rd hkv ?_)
      have z1 := rules_put (k := (mood, sign)) (r := ⟨left, mv.text, later⟩) htv hkvs
      exact Paired.mapP z1 fun r kv q => q.mono (keepT hkv fun xs q => by cases q)
end
end Sw

end

section
set_option maxRecDepth 100000
set_option maxHeartbeats 4000000
/-! Parser.__init__ -/
namespace Sw
open PySem PySem.Spec PyProof.Rows L2 SwA
theorem put_par (L : PLoc) : putF "spots" (.ref L.sd) (putF "pairs" (.ref L.pd) (putF "rules" (.ref L.rd) (putF "robots" (.ref L.rl) (putF "moods" (.ref L.ml) (putF "signs" (.ref L.sl) (putF "faults" (.ref L.fl) (putF "at" (.int 0) (putF "tokens" (.ref L.tl) [])))))))) = parF L 0 := by kernel_rfl
section
variable {P : Program} {w : World} {K : PySem.W.Frag} {mg : Str → Option Value} {base : Heap}
def spParInit (K : PySem.W.Frag) : Sp := fun vs H Q _ => ∃ (H0 : Hp) (p dx tl : Addr) (tas : List Addr) (T : List Tk), vs = [.ref p, .ref tl] ∧ H p = some (.ins (He.ga K "Parser") dx []) ∧ H tl = some (.lst (tas.map V.ref)) ∧ TksAt K H tas T ∧
  Same H0 H ∧ H0 p = none ∧ H0 tl = none ∧ ∀ (L : PLoc) (H' : Hp), PA K H0 H' p L tas T st0 → Q .non H'
theorem sc_par_init : FnScope ["self", "tokens"] ["self", "tokens"] (defScope s_Parser_init) := ⟨rfl, rfl, rfl, by decide +kernel, rfl, by decide +kernel, by decide +kernel⟩
theorem ok_par_init (T : ParT K mg) : FnE P w K mg base CX0 1 ("Parser", some "__init__") ["self", "tokens"] (spParInit K) := by
  obtain ⟨fd, F⟩ := T.init
  refine ⟨fd, F.ok sc_par_init (fun vs H Q E h => ?_) (fun cdv A outer s H vs Q E hr h => ?_), F.bindsN fun _ _ _ _ _ _ us hl => match us, hl with | [_, _], _ => rfl, F.kp⟩
  · obtain ⟨H0, p, dx, tl, tas, Ts, rfl, _⟩ := h
    rfl
  · obtain ⟨H0, p, dx, tl, tas, Ts, rfl, hp, htl, htk, sm, n0p, n0t, k⟩ := h
    refine ⟨_, PSs.nox (pss_cons (ps_fld (pv 0) (pv 1) rfl) (pss_cons (ps_fld (pv 0) pe_int rfl) (pss_cons (ps_fld (pv 0) (pe_lst pa_nil) rfl) (pss_cons (ps_fld (pv 0) (pe_lst pa_nil) rfl) (pss_cons (ps_fld (pv 0) (pe_lst pa_nil) rfl)
      (pss_cons (ps_fld (pv 0) (pe_lst pa_nil) rfl) (pss_cons (ps_fld (pv 0) pe_dnewT rfl) (pss_cons (ps_fld (pv 0) pe_dnewT rfl) (pss_one (ps_fld (pv 0) pe_dnewK rfl)))))))))), ?_⟩
    have kk0 : ∀ (Hc : Hp) (fs fs' : List (Str × V)), Hc p = some (.ins (He.ga K "Parser") dx fs) → TksAt K Hc tas Ts → TksAt K (upd Hc p (.ins (He.ga K "Parser") dx fs')) tas Ts := fun Hc fs fs' e h => Paired.mapP h fun a t q => keepK (K := K) e (fun C d gs z => by cases z; exact T.ne) a t q
    have ptl : tl ≠ p := ne_of htl hp (by intro z; cases z)
    refine ⟨_, rfl, _, rfl, p, _, dx, _, rfl, hp, T.par.c, T.par.n _ (by simp), lnZ ln0, ?_⟩
    refine ⟨_, rfl, p, _, dx, _, rfl, upd_same, T.par.c, T.par.n _ (by simp), lnZ (lnS ln0), ?_⟩
    rw [upd_upd]
    have at_p := @upd_same H p (.ins (He.ga K "Parser") dx (putF "at" (.int 0) (putF "tokens" (.ref tl) [])))
    have at_tl : (upd H p (.ins (He.ga K "Parser") dx (putF "at" (.int 0) (putF "tokens" (.ref tl) [])))) tl = some (.lst (tas.map V.ref)) := by rw [upd_ne ptl]; exact htl
    have tks := kk0 H _ (putF "at" (.int 0) (putF "tokens" (.ref tl) [])) hp htk
    have sm1 : Same H0 (upd H p (.ins (He.ga K "Parser") dx (putF "at" (.int 0) (putF "tokens" (.ref tl) [])))) := sameUpd sm n0p
    generalize upd H p (.ins (He.ga K "Parser") dx (putF "at" (.int 0) (putF "tokens" (.ref tl) []))) = H2 at *
    refine ⟨(by show 0 ≤ sizeLine; decide), fun fl n_fl => ?_⟩
    have n0_fl : H0 fl = none := sm1.free n_fl
    have p_fl : p ≠ fl := ne_of_none at_p n_fl
    have tl_fl : tl ≠ fl := ne_of_none at_tl n_fl
    refine ⟨_, rfl, p, _, dx, _, rfl, (upd_ne p_fl).trans at_p, T.par.c, T.par.n _ (by simp), lnZ (lnS (lnS ln0)), ?_⟩
    replace tks := kk0 _ _ (putF "faults" (.ref fl) (putF "at" (.int 0) (putF "tokens" (.ref tl) []))) ((upd_ne (o := .lst []) p_fl).trans at_p) (tks.same (sameUpd (o := .lst []) (Same.refl _) n_fl))
    replace at_p := @upd_same (upd H2 fl (.lst [])) p (.ins (He.ga K "Parser") dx (putF "faults" (.ref fl) (putF "at" (.int 0) (putF "tokens" (.ref tl) []))))
    replace at_tl := ((upd_ne (H := upd H2 fl (.lst [])) (o := .ins (He.ga K "Parser") dx (putF "faults" (.ref fl) (putF "at" (.int 0) (putF "tokens" (.ref tl) [])))) ptl).trans (upd_ne (o := .lst []) tl_fl)).trans at_tl
    have at_fl : (upd (upd H2 fl (.lst [])) p (.ins (He.ga K "Parser") dx (putF "faults" (.ref fl) (putF "at" (.int 0) (putF "tokens" (.ref tl) []))))) fl = some (.lst []) := (upd_ne (Ne.symm p_fl)).trans upd_same
    replace sm1 : Same H0 (upd (upd H2 fl (.lst [])) p (.ins (He.ga K "Parser") dx (putF "faults" (.ref fl) (putF "at" (.int 0) (putF "tokens" (.ref tl) []))))) := sameUpd (sameUpd sm1 n0_fl) n0p
    generalize upd (upd H2 fl (.lst [])) p (.ins (He.ga K "Parser") dx (putF "faults" (.ref fl) (putF "at" (.int 0) (putF "tokens" (.ref tl) [])))) = H3 at *
    refine ⟨(by show 0 ≤ sizeLine; decide), fun sl n_sl => ?_⟩
    have n0_sl : H0 sl = none := sm1.free n_sl
    have p_sl : p ≠ sl := ne_of_none at_p n_sl
    have tl_sl : tl ≠ sl := ne_of_none at_tl n_sl
    have fl_sl : fl ≠ sl := ne_of_none at_fl n_sl
    refine ⟨_, rfl, p, _, dx, _, rfl, (upd_ne p_sl).trans at_p, T.par.c, T.par.n _ (by simp), lnZ (lnS (lnS (lnS ln0))), ?_⟩
    replace tks := kk0 _ _ (putF "signs" (.ref sl) (putF "faults" (.ref fl) (putF "at" (.int 0) (putF "tokens" (.ref tl) [])))) ((upd_ne (o := .lst []) p_sl).trans at_p) (tks.same (sameUpd (o := .lst []) (Same.refl _) n_sl))
    replace at_p := @upd_same (upd H3 sl (.lst [])) p (.ins (He.ga K "Parser") dx (putF "signs" (.ref sl) (putF "faults" (.ref fl) (putF "at" (.int 0) (putF "tokens" (.ref tl) [])))))
    replace at_tl := ((upd_ne (H := upd H3 sl (.lst [])) (o := .ins (He.ga K "Parser") dx (putF "signs" (.ref sl) (putF "faults" (.ref fl) (putF "at" (.int 0) (putF "tokens" (.ref tl) []))))) ptl).trans (upd_ne (o := .lst []) tl_sl)).trans at_tl
    replace at_fl := ((upd_ne (H := upd H3 sl (.lst [])) (o := .ins (He.ga K "Parser") dx (putF "signs" (.ref sl) (putF "faults" (.ref fl) (putF "at" (.int 0) (putF "tokens" (.ref tl) []))))) (Ne.symm p_fl)).trans (upd_ne (o := .lst []) fl_sl)).trans at_fl
    have at_sl : (upd (upd H3 sl (.lst [])) p (.ins (He.ga K "Parser") dx (putF "signs" (.ref sl) (putF "faults" (.ref fl) (putF "at" (.int 0) (putF "tokens" (.ref tl) [])))))) sl = some (.lst []) := (upd_ne (Ne.symm p_sl)).trans upd_same
    replace sm1 : Same H0 (upd (upd H3 sl (.lst [])) p (.ins (He.ga K "Parser") dx (putF "signs" (.ref sl) (putF "faults" (.ref fl) (putF "at" (.int 0) (putF "tokens" (.ref tl) [])))))) := sameUpd (sameUpd sm1 n0_sl) n0p
    generalize upd (upd H3 sl (.lst [])) p (.ins (He.ga K "Parser") dx (putF "signs" (.ref sl) (putF "faults" (.ref fl) (putF "at" (.int 0) (putF "tokens" (.ref tl) []))))) = H4 at *
    refine ⟨(by show 0 ≤ sizeLine; decide), fun ml n_ml => ?_⟩
    have n0_ml : H0 ml = none := sm1.free n_ml
    have p_ml : p ≠ ml := ne_of_none at_p n_ml
    have tl_ml : tl ≠ ml := ne_of_none at_tl n_ml
    have fl_ml : fl ≠ ml := ne_of_none at_fl n_ml
    have sl_ml : sl ≠ ml := ne_of_none at_sl n_ml
    refine ⟨_, rfl, p, _, dx, _, rfl, (upd_ne p_ml).trans at_p, T.par.c, T.par.n _ (by simp), lnZ (lnS (lnS (lnS (lnS ln0)))), ?_⟩
    replace tks := kk0 _ _ (putF "moods" (.ref ml) (putF "signs" (.ref sl) (putF "faults" (.ref fl) (putF "at" (.int 0) (putF "tokens" (.ref tl) []))))) ((upd_ne (o := .lst []) p_ml).trans at_p) (tks.same (sameUpd (o := .lst []) (Same.refl _) n_ml))
    replace at_p := @upd_same (upd H4 ml (.lst [])) p (.ins (He.ga K "Parser") dx (putF "moods" (.ref ml) (putF "signs" (.ref sl) (putF "faults" (.ref fl) (putF "at" (.int 0) (putF "tokens" (.ref tl) []))))))
    replace at_tl := ((upd_ne (H := upd H4 ml (.lst [])) (o := .ins (He.ga K "Parser") dx (putF "moods" (.ref ml) (putF "signs" (.ref sl) (putF "faults" (.ref fl) (putF "at" (.int 0) (putF "tokens" (.ref tl) [])))))) ptl).trans (upd_ne (o := .lst []) tl_ml)).trans at_tl
    replace at_fl := ((upd_ne (H := upd H4 ml (.lst [])) (o := .ins (He.ga K "Parser") dx (putF "moods" (.ref ml) (putF "signs" (.ref sl) (putF "faults" (.ref fl) (putF "at" (.int 0) (putF "tokens" (.ref tl) [])))))) (Ne.symm p_fl)).trans (upd_ne (o := .lst []) fl_ml)).trans at_fl
    replace at_sl := ((upd_ne (H := upd H4 ml (.lst [])) (o := .ins (He.ga K "Parser") dx (putF "moods" (.ref ml) (putF "signs" (.ref sl) (putF "faults" (.ref fl) (putF "at" (.int 0) (putF "tokens" (.ref tl) [])))))) (Ne.symm p_sl)).trans (upd_ne (o := .lst []) sl_ml)).trans at_sl
    have at_ml : (upd (upd H4 ml (.lst [])) p (.ins (He.ga K "Parser") dx (putF "moods" (.ref ml) (putF "signs" (.ref sl) (putF "faults" (.ref fl) (putF "at" (.int 0) (putF "tokens" (.ref tl) []))))))) ml = some (.lst []) := (upd_ne (Ne.symm p_ml)).trans upd_same
    replace sm1 : Same H0 (upd (upd H4 ml (.lst [])) p (.ins (He.ga K "Parser") dx (putF "moods" (.ref ml) (putF "signs" (.ref sl) (putF "faults" (.ref fl) (putF "at" (.int 0) (putF "tokens" (.ref tl) []))))))) := sameUpd (sameUpd sm1 n0_ml) n0p
    generalize upd (upd H4 ml (.lst [])) p (.ins (He.ga K "Parser") dx (putF "moods" (.ref ml) (putF "signs" (.ref sl) (putF "faults" (.ref fl) (putF "at" (.int 0) (putF "tokens" (.ref tl) [])))))) = H5 at *
    refine ⟨(by show 0 ≤ sizeLine; decide), fun rl n_rl => ?_⟩
    have n0_rl : H0 rl = none := sm1.free n_rl
    have p_rl : p ≠ rl := ne_of_none at_p n_rl
    have tl_rl : tl ≠ rl := ne_of_none at_tl n_rl
    have fl_rl : fl ≠ rl := ne_of_none at_fl n_rl
    have sl_rl : sl ≠ rl := ne_of_none at_sl n_rl
    have ml_rl : ml ≠ rl := ne_of_none at_ml n_rl
    refine ⟨_, rfl, p, _, dx, _, rfl, (upd_ne p_rl).trans at_p, T.par.c, T.par.n _ (by simp), lnZ (lnS (lnS (lnS (lnS (lnS ln0))))), ?_⟩
    replace tks := kk0 _ _ (putF "robots" (.ref rl) (putF "moods" (.ref ml) (putF "signs" (.ref sl) (putF "faults" (.ref fl) (putF "at" (.int 0) (putF "tokens" (.ref tl) [])))))) ((upd_ne (o := .lst []) p_rl).trans at_p) (tks.same (sameUpd (o := .lst []) (Same.refl _) n_rl))
    replace at_p := @upd_same (upd H5 rl (.lst [])) p (.ins (He.ga K "Parser") dx (putF "robots" (.ref rl) (putF "moods" (.ref ml) (putF "signs" (.ref sl) (putF "faults" (.ref fl) (putF "at" (.int 0) (putF "tokens" (.ref tl) [])))))))
    replace at_tl := ((upd_ne (H := upd H5 rl (.lst [])) (o := .ins (He.ga K "Parser") dx (putF "robots" (.ref rl) (putF "moods" (.ref ml) (putF "signs" (.ref sl) (putF "faults" (.ref fl) (putF "at" (.int 0) (putF "tokens" (.ref tl) []))))))) ptl).trans (upd_ne (o := .lst []) tl_rl)).trans at_tl
    replace at_fl := ((upd_ne (H := upd H5 rl (.lst [])) (o := .ins (He.ga K "Parser") dx (putF "robots" (.ref rl) (putF "moods" (.ref ml) (putF "signs" (.ref sl) (putF "faults" (.ref fl) (putF "at" (.int 0) (putF "tokens" (.ref tl) []))))))) (Ne.symm p_fl)).trans (upd_ne (o := .lst []) fl_rl)).trans at_fl
    replace at_sl := ((upd_ne (H := upd H5 rl (.lst [])) (o := .ins (He.ga K "Parser") dx (putF "robots" (.ref rl) (putF "moods" (.ref ml) (putF "signs" (.ref sl) (putF "faults" (.ref fl) (putF "at" (.int 0) (putF "tokens" (.ref tl) []))))))) (Ne.symm p_sl)).trans (upd_ne (o := .lst []) sl_rl)).trans at_sl
    replace at_ml := ((upd_ne (H := upd H5 rl (.lst [])) (o := .ins (He.ga K "Parser") dx (putF "robots" (.ref rl) (putF "moods" (.ref ml) (putF "signs" (.ref sl) (putF "faults" (.ref fl) (putF "at" (.int 0) (putF "tokens" (.ref tl) []))))))) (Ne.symm p_ml)).trans (upd_ne (o := .lst []) ml_rl)).trans at_ml
    have at_rl : (upd (upd H5 rl (.lst [])) p (.ins (He.ga K "Parser") dx (putF "robots" (.ref rl) (putF "moods" (.ref ml) (putF "signs" (.ref sl) (putF "faults" (.ref fl) (putF "at" (.int 0) (putF "tokens" (.ref tl) [])))))))) rl = some (.lst []) := (upd_ne (Ne.symm p_rl)).trans upd_same
    replace sm1 : Same H0 (upd (upd H5 rl (.lst [])) p (.ins (He.ga K "Parser") dx (putF "robots" (.ref rl) (putF "moods" (.ref ml) (putF "signs" (.ref sl) (putF "faults" (.ref fl) (putF "at" (.int 0) (putF "tokens" (.ref tl) [])))))))) := sameUpd (sameUpd sm1 n0_rl) n0p
    generalize upd (upd H5 rl (.lst [])) p (.ins (He.ga K "Parser") dx (putF "robots" (.ref rl) (putF "moods" (.ref ml) (putF "signs" (.ref sl) (putF "faults" (.ref fl) (putF "at" (.int 0) (putF "tokens" (.ref tl) []))))))) = H6 at *
    intro rd n_rd
    have n0_rd : H0 rd = none := sm1.free n_rd
    have p_rd : p ≠ rd := ne_of_none at_p n_rd
    have tl_rd : tl ≠ rd := ne_of_none at_tl n_rd
    have fl_rd : fl ≠ rd := ne_of_none at_fl n_rd
    have sl_rd : sl ≠ rd := ne_of_none at_sl n_rd
    have ml_rd : ml ≠ rd := ne_of_none at_ml n_rd
    have rl_rd : rl ≠ rd := ne_of_none at_rl n_rd
    refine ⟨_, rfl, p, _, dx, _, rfl, (upd_ne p_rd).trans at_p, T.par.c, T.par.n _ (by simp), lnZ (lnS (lnS (lnS (lnS (lnS (lnS ln0)))))), ?_⟩
    replace tks := kk0 _ _ (putF "rules" (.ref rd) (putF "robots" (.ref rl) (putF "moods" (.ref ml) (putF "signs" (.ref sl) (putF "faults" (.ref fl) (putF "at" (.int 0) (putF "tokens" (.ref tl) []))))))) ((upd_ne (o := .dT []) p_rd).trans at_p) (tks.same (sameUpd (o := .dT []) (Same.refl _) n_rd))
    replace at_p := @upd_same (upd H6 rd (.dT [])) p (.ins (He.ga K "Parser") dx (putF "rules" (.ref rd) (putF "robots" (.ref rl) (putF "moods" (.ref ml) (putF "signs" (.ref sl) (putF "faults" (.ref fl) (putF "at" (.int 0) (putF "tokens" (.ref tl) []))))))))
    replace at_tl := ((upd_ne (H := upd H6 rd (.dT [])) (o := .ins (He.ga K "Parser") dx (putF "rules" (.ref rd) (putF "robots" (.ref rl) (putF "moods" (.ref ml) (putF "signs" (.ref sl) (putF "faults" (.ref fl) (putF "at" (.int 0) (putF "tokens" (.ref tl) [])))))))) ptl).trans (upd_ne (o := .dT []) tl_rd)).trans at_tl
    replace at_fl := ((upd_ne (H := upd H6 rd (.dT [])) (o := .ins (He.ga K "Parser") dx (putF "rules" (.ref rd) (putF "robots" (.ref rl) (putF "moods" (.ref ml) (putF "signs" (.ref sl) (putF "faults" (.ref fl) (putF "at" (.int 0) (putF "tokens" (.ref tl) [])))))))) (Ne.symm p_fl)).trans (upd_ne (o := .dT []) fl_rd)).trans at_fl
    replace at_sl := ((upd_ne (H := upd H6 rd (.dT [])) (o := .ins (He.ga K "Parser") dx (putF "rules" (.ref rd) (putF "robots" (.ref rl) (putF "moods" (.ref ml) (putF "signs" (.ref sl) (putF "faults" (.ref fl) (putF "at" (.int 0) (putF "tokens" (.ref tl) [])))))))) (Ne.symm p_sl)).trans (upd_ne (o := .dT []) sl_rd)).trans at_sl
    replace at_ml := ((upd_ne (H := upd H6 rd (.dT [])) (o := .ins (He.ga K "Parser") dx (putF "rules" (.ref rd) (putF "robots" (.ref rl) (putF "moods" (.ref ml) (putF "signs" (.ref sl) (putF "faults" (.ref fl) (putF "at" (.int 0) (putF "tokens" (.ref tl) [])))))))) (Ne.symm p_ml)).trans (upd_ne (o := .dT []) ml_rd)).trans at_ml
    replace at_rl := ((upd_ne (H := upd H6 rd (.dT [])) (o := .ins (He.ga K "Parser") dx (putF "rules" (.ref rd) (putF "robots" (.ref rl) (putF "moods" (.ref ml) (putF "signs" (.ref sl) (putF "faults" (.ref fl) (putF "at" (.int 0) (putF "tokens" (.ref tl) [])))))))) (Ne.symm p_rl)).trans (upd_ne (o := .dT []) rl_rd)).trans at_rl
    have at_rd : (upd (upd H6 rd (.dT [])) p (.ins (He.ga K "Parser") dx (putF "rules" (.ref rd) (putF "robots" (.ref rl) (putF "moods" (.ref ml) (putF "signs" (.ref sl) (putF "faults" (.ref fl) (putF "at" (.int 0) (putF "tokens" (.ref tl) []))))))))) rd = some (.dT []) := (upd_ne (Ne.symm p_rd)).trans upd_same
    replace sm1 : Same H0 (upd (upd H6 rd (.dT [])) p (.ins (He.ga K "Parser") dx (putF "rules" (.ref rd) (putF "robots" (.ref rl) (putF "moods" (.ref ml) (putF "signs" (.ref sl) (putF "faults" (.ref fl) (putF "at" (.int 0) (putF "tokens" (.ref tl) []))))))))) := sameUpd (sameUpd sm1 n0_rd) n0p
    generalize upd (upd H6 rd (.dT [])) p (.ins (He.ga K "Parser") dx (putF "rules" (.ref rd) (putF "robots" (.ref rl) (putF "moods" (.ref ml) (putF "signs" (.ref sl) (putF "faults" (.ref fl) (putF "at" (.int 0) (putF "tokens" (.ref tl) [])))))))) = H7 at *
    intro pd n_pd
    have n0_pd : H0 pd = none := sm1.free n_pd
    have p_pd : p ≠ pd := ne_of_none at_p n_pd
    have tl_pd : tl ≠ pd := ne_of_none at_tl n_pd
    have fl_pd : fl ≠ pd := ne_of_none at_fl n_pd
    have sl_pd : sl ≠ pd := ne_of_none at_sl n_pd
    have ml_pd : ml ≠ pd := ne_of_none at_ml n_pd
    have rl_pd : rl ≠ pd := ne_of_none at_rl n_pd
    have rd_pd : rd ≠ pd := ne_of_none at_rd n_pd
    refine ⟨_, rfl, p, _, dx, _, rfl, (upd_ne p_pd).trans at_p, T.par.c, T.par.n _ (by simp), lnZ (lnS (lnS (lnS (lnS (lnS (lnS (lnS ln0))))))), ?_⟩
    replace tks := kk0 _ _ (putF "pairs" (.ref pd) (putF "rules" (.ref rd) (putF "robots" (.ref rl) (putF "moods" (.ref ml) (putF "signs" (.ref sl) (putF "faults" (.ref fl) (putF "at" (.int 0) (putF "tokens" (.ref tl) [])))))))) ((upd_ne (o := .dT []) p_pd).trans at_p) (tks.same (sameUpd (o := .dT []) (Same.refl _) n_pd))
    replace at_p := @upd_same (upd H7 pd (.dT [])) p (.ins (He.ga K "Parser") dx (putF "pairs" (.ref pd) (putF "rules" (.ref rd) (putF "robots" (.ref rl) (putF "moods" (.ref ml) (putF "signs" (.ref sl) (putF "faults" (.ref fl) (putF "at" (.int 0) (putF "tokens" (.ref tl) [])))))))))
    replace at_tl := ((upd_ne (H := upd H7 pd (.dT [])) (o := .ins (He.ga K "Parser") dx (putF "pairs" (.ref pd) (putF "rules" (.ref rd) (putF "robots" (.ref rl) (putF "moods" (.ref ml) (putF "signs" (.ref sl) (putF "faults" (.ref fl) (putF "at" (.int 0) (putF "tokens" (.ref tl) []))))))))) ptl).trans (upd_ne (o := .dT []) tl_pd)).trans at_tl
    replace at_fl := ((upd_ne (H := upd H7 pd (.dT [])) (o := .ins (He.ga K "Parser") dx (putF "pairs" (.ref pd) (putF "rules" (.ref rd) (putF "robots" (.ref rl) (putF "moods" (.ref ml) (putF "signs" (.ref sl) (putF "faults" (.ref fl) (putF "at" (.int 0) (putF "tokens" (.ref tl) []))))))))) (Ne.symm p_fl)).trans (upd_ne (o := .dT []) fl_pd)).trans at_fl
    replace at_sl := ((upd_ne (H := upd H7 pd (.dT [])) (o := .ins (He.ga K "Parser") dx (putF "pairs" (.ref pd) (putF "rules" (.ref rd) (putF "robots" (.ref rl) (putF "moods" (.ref ml) (putF "signs" (.ref sl) (putF "faults" (.ref fl) (putF "at" (.int 0) (putF "tokens" (.ref tl) []))))))))) (Ne.symm p_sl)).trans (upd_ne (o := .dT []) sl_pd)).trans at_sl
    replace at_ml := ((upd_ne (H := upd H7 pd (.dT [])) (o := .ins (He.ga K "Parser") dx (putF "pairs" (.ref pd) (putF "rules" (.ref rd) (putF "robots" (.ref rl) (putF "moods" (.ref ml) (putF "signs" (.ref sl) (putF "faults" (.ref fl) (putF "at" (.int 0) (putF "tokens" (.ref tl) []))))))))) (Ne.symm p_ml)).trans (upd_ne (o := .dT []) ml_pd)).trans at_ml
    replace at_rl := ((upd_ne (H := upd H7 pd (.dT [])) (o := .ins (He.ga K "Parser") dx (putF "pairs" (.ref pd) (putF "rules" (.ref rd) (putF "robots" (.ref rl) (putF "moods" (.ref ml) (putF "signs" (.ref sl) (putF "faults" (.ref fl) (putF "at" (.int 0) (putF "tokens" (.ref tl) []))))))))) (Ne.symm p_rl)).trans (upd_ne (o := .dT []) rl_pd)).trans at_rl
    replace at_rd := ((upd_ne (H := upd H7 pd (.dT [])) (o := .ins (He.ga K "Parser") dx (putF "pairs" (.ref pd) (putF "rules" (.ref rd) (putF "robots" (.ref rl) (putF "moods" (.ref ml) (putF "signs" (.ref sl) (putF "faults" (.ref fl) (putF "at" (.int 0) (putF "tokens" (.ref tl) []))))))))) (Ne.symm p_rd)).trans (upd_ne (o := .dT []) rd_pd)).trans at_rd
    have at_pd : (upd (upd H7 pd (.dT [])) p (.ins (He.ga K "Parser") dx (putF "pairs" (.ref pd) (putF "rules" (.ref rd) (putF "robots" (.ref rl) (putF "moods" (.ref ml) (putF "signs" (.ref sl) (putF "faults" (.ref fl) (putF "at" (.int 0) (putF "tokens" (.ref tl) [])))))))))) pd = some (.dT []) := (upd_ne (Ne.symm p_pd)).trans upd_same
    replace sm1 : Same H0 (upd (upd H7 pd (.dT [])) p (.ins (He.ga K "Parser") dx (putF "pairs" (.ref pd) (putF "rules" (.ref rd) (putF "robots" (.ref rl) (putF "moods" (.ref ml) (putF "signs" (.ref sl) (putF "faults" (.ref fl) (putF "at" (.int 0) (putF "tokens" (.ref tl) [])))))))))) := sameUpd (sameUpd sm1 n0_pd) n0p
    generalize upd (upd H7 pd (.dT [])) p (.ins (He.ga K "Parser") dx (putF "pairs" (.ref pd) (putF "rules" (.ref rd) (putF "robots" (.ref rl) (putF "moods" (.ref ml) (putF "signs" (.ref sl) (putF "faults" (.ref fl) (putF "at" (.int 0) (putF "tokens" (.ref tl) []))))))))) = H8 at *
    intro sd n_sd
    have n0_sd : H0 sd = none := sm1.free n_sd
    have p_sd : p ≠ sd := ne_of_none at_p n_sd
    have tl_sd : tl ≠ sd := ne_of_none at_tl n_sd
    have fl_sd : fl ≠ sd := ne_of_none at_fl n_sd
    have sl_sd : sl ≠ sd := ne_of_none at_sl n_sd
    have ml_sd : ml ≠ sd := ne_of_none at_ml n_sd
    have rl_sd : rl ≠ sd := ne_of_none at_rl n_sd
    have rd_sd : rd ≠ sd := ne_of_none at_rd n_sd
    have pd_sd : pd ≠ sd := ne_of_none at_pd n_sd
    refine ⟨_, rfl, p, _, dx, _, rfl, (upd_ne p_sd).trans at_p, T.par.c, T.par.n _ (by simp), lnZ (lnS (lnS (lnS (lnS (lnS (lnS (lnS (lnS ln0)))))))), ?_⟩
    replace tks := kk0 _ _ (putF "spots" (.ref sd) (putF "pairs" (.ref pd) (putF "rules" (.ref rd) (putF "robots" (.ref rl) (putF "moods" (.ref ml) (putF "signs" (.ref sl) (putF "faults" (.ref fl) (putF "at" (.int 0) (putF "tokens" (.ref tl) []))))))))) ((upd_ne (o := .dK []) p_sd).trans at_p) (tks.same (sameUpd (o := .dK []) (Same.refl _) n_sd))
    replace at_p := @upd_same (upd H8 sd (.dK [])) p (.ins (He.ga K "Parser") dx (putF "spots" (.ref sd) (putF "pairs" (.ref pd) (putF "rules" (.ref rd) (putF "robots" (.ref rl) (putF "moods" (.ref ml) (putF "signs" (.ref sl) (putF "faults" (.ref fl) (putF "at" (.int 0) (putF "tokens" (.ref tl) []))))))))))
    replace at_tl := ((upd_ne (H := upd H8 sd (.dK [])) (o := .ins (He.ga K "Parser") dx (putF "spots" (.ref sd) (putF "pairs" (.ref pd) (putF "rules" (.ref rd) (putF "robots" (.ref rl) (putF "moods" (.ref ml) (putF "signs" (.ref sl) (putF "faults" (.ref fl) (putF "at" (.int 0) (putF "tokens" (.ref tl) [])))))))))) ptl).trans (upd_ne (o := .dK []) tl_sd)).trans at_tl
    replace at_fl := ((upd_ne (H := upd H8 sd (.dK [])) (o := .ins (He.ga K "Parser") dx (putF "spots" (.ref sd) (putF "pairs" (.ref pd) (putF "rules" (.ref rd) (putF "robots" (.ref rl) (putF "moods" (.ref ml) (putF "signs" (.ref sl) (putF "faults" (.ref fl) (putF "at" (.int 0) (putF "tokens" (.ref tl) [])))))))))) (Ne.symm p_fl)).trans (upd_ne (o := .dK []) fl_sd)).trans at_fl
    replace at_sl := ((upd_ne (H := upd H8 sd (.dK [])) (o := .ins (He.ga K "Parser") dx (putF "spots" (.ref sd) (putF "pairs" (.ref pd) (putF "rules" (.ref rd) (putF "robots" (.ref rl) (putF "moods" (.ref ml) (putF "signs" (.ref sl) (putF "faults" (.ref fl) (putF "at" (.int 0) (putF "tokens" (.ref tl) [])))))))))) (Ne.symm p_sl)).trans (upd_ne (o := .dK []) sl_sd)).trans at_sl
    replace at_ml := ((upd_ne (H := upd H8 sd (.dK [])) (o := .ins (He.ga K "Parser") dx (putF "spots" (.ref sd) (putF "pairs" (.ref pd) (putF "rules" (.ref rd) (putF "robots" (.ref rl) (putF "moods" (.ref ml) (putF "signs" (.ref sl) (putF "faults" (.ref fl) (putF "at" (.int 0) (putF "tokens" (.ref tl) [])))))))))) (Ne.symm p_ml)).trans (upd_ne (o := .dK []) ml_sd)).trans at_ml
    replace at_rl := ((upd_ne (H := upd H8 sd (.dK [])) (o := .ins (He.ga K "Parser") dx (putF "spots" (.ref sd) (putF "pairs" (.ref pd) (putF "rules" (.ref rd) (putF "robots" (.ref rl) (putF "moods" (.ref ml) (putF "signs" (.ref sl) (putF "faults" (.ref fl) (putF "at" (.int 0) (putF "tokens" (.ref tl) [])))))))))) (Ne.symm p_rl)).trans (upd_ne (o := .dK []) rl_sd)).trans at_rl
    replace at_rd := ((upd_ne (H := upd H8 sd (.dK [])) (o := .ins (He.ga K "Parser") dx (putF "spots" (.ref sd) (putF "pairs" (.ref pd) (putF "rules" (.ref rd) (putF "robots" (.ref rl) (putF "moods" (.ref ml) (putF "signs" (.ref sl) (putF "faults" (.ref fl) (putF "at" (.int 0) (putF "tokens" (.ref tl) [])))))))))) (Ne.symm p_rd)).trans (upd_ne (o := .dK []) rd_sd)).trans at_rd
    replace at_pd := ((upd_ne (H := upd H8 sd (.dK [])) (o := .ins (He.ga K "Parser") dx (putF "spots" (.ref sd) (putF "pairs" (.ref pd) (putF "rules" (.ref rd) (putF "robots" (.ref rl) (putF "moods" (.ref ml) (putF "signs" (.ref sl) (putF "faults" (.ref fl) (putF "at" (.int 0) (putF "tokens" (.ref tl) [])))))))))) (Ne.symm p_pd)).trans (upd_ne (o := .dK []) pd_sd)).trans at_pd
    have at_sd : (upd (upd H8 sd (.dK [])) p (.ins (He.ga K "Parser") dx (putF "spots" (.ref sd) (putF "pairs" (.ref pd) (putF "rules" (.ref rd) (putF "robots" (.ref rl) (putF "moods" (.ref ml) (putF "signs" (.ref sl) (putF "faults" (.ref fl) (putF "at" (.int 0) (putF "tokens" (.ref tl) []))))))))))) sd = some (.dK []) := (upd_ne (Ne.symm p_sd)).trans upd_same
    replace sm1 : Same H0 (upd (upd H8 sd (.dK [])) p (.ins (He.ga K "Parser") dx (putF "spots" (.ref sd) (putF "pairs" (.ref pd) (putF "rules" (.ref rd) (putF "robots" (.ref rl) (putF "moods" (.ref ml) (putF "signs" (.ref sl) (putF "faults" (.ref fl) (putF "at" (.int 0) (putF "tokens" (.ref tl) []))))))))))) := sameUpd (sameUpd sm1 n0_sd) n0p
    generalize upd (upd H8 sd (.dK [])) p (.ins (He.ga K "Parser") dx (putF "spots" (.ref sd) (putF "pairs" (.ref pd) (putF "rules" (.ref rd) (putF "robots" (.ref rl) (putF "moods" (.ref ml) (putF "signs" (.ref sl) (putF "faults" (.ref fl) (putF "at" (.int 0) (putF "tokens" (.ref tl) [])))))))))) = H9 at *
    refine k ⟨tl, fl, sl, ml, rl, rd, pd, sd⟩ H9 ⟨sm1, ⟨dx, at_p.trans (congrArg (fun z => some (HO.ins (He.ga K "Parser") dx z)) (put_par ⟨tl, fl, sl, ml, rl, rd, pd, sd⟩))⟩, at_tl, tks, ⟨[], at_fl, trivial⟩, at_sl, at_ml, ⟨[], at_rl, .nil⟩, ⟨[], at_rd, .nil⟩, at_pd, at_sd, ?_, ?_⟩
    · simp only [List.nodup_cons, List.mem_cons, List.not_mem_nil, or_false, not_or]
      exact ⟨⟨Ne.symm ptl, p_fl, p_sl, p_ml, p_rl, p_rd, p_pd, p_sd⟩, ⟨tl_fl, tl_sl, tl_ml, tl_rl, tl_rd, tl_pd, tl_sd⟩, ⟨fl_sl, fl_ml, fl_rl, fl_rd, fl_pd, fl_sd⟩, ⟨sl_ml, sl_rl, sl_rd, sl_pd, sl_sd⟩, ⟨ml_rl, ml_rd, ml_pd, ml_sd⟩, ⟨rl_rd, rl_pd, rl_sd⟩, ⟨rd_pd, rd_sd⟩, pd_sd, not_false, List.nodup_nil⟩
    · intro a ha
      simp only [List.mem_cons, List.not_mem_nil, or_false] at ha
      rcases ha with rfl | rfl | rfl | rfl | rfl | rfl | rfl | rfl | rfl <;> assumption
end
end Sw

end

section
set_option maxRecDepth 100000
set_option maxHeartbeats 4000000
/-! parse_plan, load -/
namespace Sw
open PySem PySem.Spec PyProof.Rows L2 SwA
structure LoadT (K : PySem.W.Frag) (mg : Str → Option Value) : Prop where
  p : ParT K mg
  plan : MkC K mg "Plan" planF
  d_plan : FD K ("Plan", some "__init__") "__init__" "Plan.__init__" s_Plan_init
  d_load : FD K ("load", none) "load" "load" s_load
  g_load : mg "load" = some (.ref (He.ga K "load"))
/-- a plan's object -/
def PlanAt (K : PySem.W.Frag) (H : Hp) (a : Addr) (pl : Plan) : Prop := ∃ (dx sa ma fa ra rd : Addr) (ras : List Addr),
  H a = some (.ins (He.ga K "Plan") dx [("signs", .ref sa), ("moods", .ref ma), ("floor", .ref fa), ("robots", .ref ra), ("rules", .ref rd)]) ∧ TupN H sa (pl.signs.map sV) ∧ TupN H ma (pl.moods.map sV) ∧
  H fa = some (.tup (pl.floor.map fun n : Nat => V.int n)) ∧ H ra = some (.tup (ras.map V.ref)) ∧ Paired (RobAt H) ras pl.robots ∧ RulesAt H rd pl.rules
theorem PlanAt.same {K : PySem.W.Frag} {H H' : Hp} {a : Addr} {pl : Plan} (s : Same H H') (h : PlanAt K H a pl) : PlanAt K H' a pl := by
  obtain ⟨dx, sa, ma, fa, ra, rd, ras, e1, e2, e3, e4, e5, e6, kvs, e7, e8⟩ := h
  exact ⟨dx, sa, ma, fa, ra, rd, ras, s _ _ e1, e2.mono fun _ z => s _ _ z, e3.mono fun _ z => s _ _ z, s _ _ e4, s _ _ e5, Paired.mapP e6 fun _ _ q => s _ _ q, kvs, s _ _ e7, Paired.mapP e8 fun _ _ q => q.mono fun _ _ z => s _ _ z⟩
theorem put_plan (a b c d e : V) : putF "rules" e (putF "robots" d (putF "floor" c (putF "moods" b (putF "signs" a [])))) = ([("signs", a), ("moods", b), ("floor", c), ("robots", d), ("rules", e)] : List (Str × V)) := by kernel_rfl
theorem spots_get (l : List (Nat × Nat)) (i : Nat) : (valV (l.map spotK) (.inl ((0 : Int) + (i : Nat)) : Key)).getD (.int 0) = .int ((getA l i).getD 0 : Nat) := by
  rw [Int.zero_add]
  induction l with
  | nil => rfl
  | cons a r ih =>
    by_cases e : a.1 = i
    · rw [List.map_cons, valV_pos (show (spotK a).1 = .inl (i : Int) by show (.inl (a.1 : Int) : Key) = _; rw [e])]
      unfold getA
      rw [List.find?_cons, decide_eq_true e]
      rfl
    · rw [List.map_cons, valV_neg (show ¬ (spotK a).1 = .inl (i : Int) from fun q => e (key_inl.mp q)), ih]
      unfold getA
      rw [List.find?_cons, decide_eq_false e]
/-! ### the tokens are good -/
theorem mem_tw {p : Nat → Bool} {x : Nat} : ∀ {l : Cs}, x ∈ l.takeWhile p → p x = true
  | [], h => by cases h
  | c :: r, h => by
    cases e : p c with
    | false => rw [List.takeWhile_cons, e] at h; cases h
    | true =>
      rw [List.takeWhile_cons, e] at h
      rcases List.mem_cons.mp h with q | q
      · rw [q]; exact e
      · exact mem_tw q
theorem readTok_kind {line col : Nat} {rest : Cs} {t : Tk} (h : readTok line col rest = some t) : t.kind ≠ .fin ∧ (t.kind = .number → (1 ≤ t.text.length ∧ t.text.length ≤ 2) ∧ t.text.all isD = true) := by
  unfold readTok at h
  split at h
  · cases h
  · rename_i c r
    split at h
    · cases h
      exact ⟨(fun q => by cases q), (fun q => by cases q)⟩
    · split at h
      · rename_i hd
        split at h
        · cases h
        · rename_i hn
          cases h
          refine ⟨(fun q => by cases q), fun _ => ⟨⟨?_, by show ((c :: r).takeWhile isD).length ≤ 2; omega⟩, ?_⟩⟩
          · simp [List.takeWhile_cons, hd]
          · rw [List.all_eq_true]
            intro x hx
            exact mem_tw hx
      · split at h
        · cases h
          exact ⟨(fun q => by cases q), (fun q => by cases q)⟩
        · split at h
          · cases h
            exact ⟨(fun q => by cases q), (fun q => by cases q)⟩
          · cases h
def TkG (t : Tk) : Prop := t.kind ≠ .fin ∧ (t.kind = .number → (1 ≤ t.text.length ∧ t.text.length ≤ 2) ∧ t.text.all isD = true)
theorem lexRow_good (line : Nat) : ∀ (f col : Nat) (rest : Cs) (ts : List Tk), lexRow line f col rest = .ok ts → (∀ t ∈ ts, TkG t) ∧ ts.length ≤ rest.length
  | f, col, [], ts, h => by
    have e : ts = [] := by cases f <;> (injection h with h; exact h.symm)
    subst e
    exact ⟨by simp, Nat.le_refl _⟩
  | 0, col, c :: r, ts, h => by
    injection h with h
    subst h
    exact ⟨by simp, Nat.zero_le _⟩
  | f + 1, col, c :: r, ts, h => by
    unfold lexRow at h
    split at h
    · have z := lexRow_good line f (col + 1) r ts h
      exact ⟨z.1, Nat.le_succ_of_le z.2⟩
    · split at h
      · cases h
      · rename_i t ht
        split at h
        · cases h
        · rename_i us hu
          cases h
          have z := lexRow_good line f _ _ us hu
          have l := readTok_len ht
          rw [List.length_drop] at z
          refine ⟨fun x hx => ?_, ?_⟩
          · rcases List.mem_cons.mp hx with q | q
            · rw [q]; exact readTok_kind ht
            · exact z.1 x q
          · simp only [List.length_cons] at z l ⊢
            omega
theorem lexRows_good : ∀ (rows : List Cs) (line : Nat) (ts : List Tk), lexRows line rows = .ok ts → (∀ t ∈ ts, TkG t) ∧ ts.length ≤ (rows.map List.length).sum
  | [], line, ts, h => by
    injection h with h
    subst h
    exact ⟨by simp, by simp⟩
  | row :: rest, line, ts, h => by
    unfold lexRows at h
    split at h
    · cases h
    · rename_i us hu
      split at h
      · cases h
      · rename_i vs hv
        cases h
        have z1 := lexRow_good line _ _ _ us hu
        have z2 := lexRows_good rest (line + 1) vs hv
        refine ⟨fun x hx => ?_, ?_⟩
        · rcases List.mem_append.mp hx with q | q
          · exact z1.1 x q
          · exact z2.1 x q
        · rw [List.length_append, List.map_cons, List.sum_cons]
          omega
theorem tokenize_good {text : Cs} {T : List Tk} (hl : text.length ≤ 90000) (h : tokenize text = .ok T) : GoodT T := by
  unfold tokenize at h
  split at h
  · cases h
  · rename_i ts ht
    cases h
    obtain ⟨g, gl⟩ := lexRows_good _ _ _ ht
    have gl2 := Nat.le_trans gl (rows_sum text)
    have get : ∀ (i : Nat) t, (ts ++ [(⟨.fin, [], (rowsOf text).length, 0⟩ : Tk)])[i]? = some t → (i < ts.length ∧ t ∈ ts) ∨ (i = ts.length ∧ t = ⟨.fin, [], (rowsOf text).length, 0⟩) := by
      intro i t e
      by_cases hi : i < ts.length
      · rw [List.getElem?_append_left hi] at e
        exact .inl ⟨hi, List.mem_of_getElem? e⟩
      · rw [List.getElem?_append_right (Nat.le_of_not_lt hi)] at e
        cases hd : i - ts.length with
        | zero =>
          rw [hd] at e
          exact .inr ⟨by omega, (Option.some.inj e).symm⟩
        | succ n =>
          rw [hd] at e
          simp at e
    refine ⟨fun i t e hi => ?_, by simp, fun i t e hk => ?_, fun t ht hk => ?_, by simp; omega⟩
    · rw [List.length_append] at hi
      rcases get i t e with q | q
      · have : [(⟨.fin, [], (rowsOf text).length, 0⟩ : Tk)].length = 1 := rfl
        omega
      · rw [q.2]
        exact ⟨rfl, rfl⟩
    · rcases get i t e with q | q
      · exact absurd hk (g t q.2).1
      · rw [q.1, List.length_append]
        rfl
    · rcases List.mem_append.mp ht with q | q
      · exact (g t q).2 hk
      · have e : t = ⟨.fin, [], (rowsOf text).length, 0⟩ := by simpa using q
        rw [e] at hk
        cases hk
theorem numVal_le {w : Cs} (h : w.all isD = true) (h2 : w.length ≤ 2) : numVal w ≤ 99 := by
  have d : ∀ c, isD c = true → c - 48 ≤ 9 := fun c hc => by
    unfold isD at hc
    rw [Bool.and_eq_true] at hc
    have := Nat.le_of_ble_eq_true hc.2
    omega
  match w, h, h2 with
  | [], _, _ => simp [numVal]
  | [a], h, _ =>
    simp only [List.all_cons, List.all_nil, Bool.and_true] at h
    have := d a h
    simp [numVal]
    omega
  | [a, b], h, _ =>
    simp only [List.all_cons, List.all_nil, Bool.and_true, Bool.and_eq_true] at h
    have h1 := d a h.1
    have h2 := d b h.2
    simp [numVal]
    omega
section
variable {P : Program} {w : World} {K : PySem.W.Frag} {mg : Str → Option Value} {base : Heap}
theorem sc_plan : FnScope ["self", "signs", "moods", "floor", "robots", "rules"] ["self", "signs", "moods", "floor", "robots", "rules"] (defScope s_Plan_init) := ⟨rfl, rfl, rfl, by decide +kernel, rfl, by decide +kernel, by decide +kernel⟩
theorem ok_plan (T : LoadT K mg) : FnE P w K mg base CX0 1 ("Plan", some "__init__") ["self", "signs", "moods", "floor", "robots", "rules"] (spInit (He.ga K "Plan") planF) := by
  obtain ⟨fd, F⟩ := T.d_plan
  refine ⟨fd, F.ok sc_plan (fun vs H Q E h => ?_) (fun cdv A outer s H vs Q E hr h => ?_), F.bindsN fun _ _ _ _ _ _ us hl => match us, hl with | [_, _, _, _, _, _], _ => rfl, F.kp⟩
  · obtain ⟨a, dx, args, rfl, e, _⟩ := h
    simp [e]
  · obtain ⟨p, dx, args, rfl, e, hp, k⟩ := h
    obtain ⟨v1, v2, v3, v4, v5, rfl⟩ : ∃ v1 v2 v3 v4 v5, args = [v1, v2, v3, v4, v5] := by
      match args, e with
      | [v1, v2, v3, v4, v5], _ => exact ⟨v1, v2, v3, v4, v5, rfl⟩
    refine ⟨_, PSs.nox (pss_cons (ps_fld (pv 0) (pv 1) rfl) (pss_cons (ps_fld (pv 0) (pv 2) rfl) (pss_cons (ps_fld (pv 0) (pv 3) rfl) (pss_cons (ps_fld (pv 0) (pv 4) rfl) (pss_one (ps_fld (pv 0) (pv 5) rfl)))))), ?_⟩
    refine ⟨_, rfl, _, rfl, p, _, dx, _, rfl, hp, T.plan.c, T.plan.n _ (by simp), lnZ ln0, ?_⟩
    refine ⟨_, rfl, _, rfl, p, _, dx, _, rfl, upd_same, T.plan.c, T.plan.n _ (by simp), lnZ (lnS ln0), ?_⟩
    refine ⟨_, rfl, _, rfl, p, _, dx, _, rfl, upd_same, T.plan.c, T.plan.n _ (by simp), lnZ (lnS (lnS ln0)), ?_⟩
    refine ⟨_, rfl, _, rfl, p, _, dx, _, rfl, upd_same, T.plan.c, T.plan.n _ (by simp), lnZ (lnS (lnS (lnS ln0))), ?_⟩
    refine ⟨_, rfl, _, rfl, p, _, dx, _, rfl, upd_same, T.plan.c, T.plan.n _ (by simp), lnZ (lnS (lnS (lnS (lnS ln0)))), ?_⟩
    refine k _ ?_ fun b hb => by rw [upd_ne hb, upd_ne hb, upd_ne hb, upd_ne hb, upd_ne hb]
    rw [upd_same, put_plan]
    rfl
def spParsePlan (K : PySem.W.Frag) : Sp := fun vs H Q E => ∃ (H0 : Hp) (p : Addr) (L : PLoc) (tas : List Addr) (T : List Tk), vs = [.ref p] ∧ PA K H0 H p L tas T st0 ∧ GoodT T ∧
  (∀ n s, parsePlan T = .ok (n, s) → s.faults = [] ∧ ∀ (a : Addr) (H' : Hp), H0 a = none → Same H0 H' → PlanAt K H' a (planOf n s) → Q (.ref a) H') ∧ (∀ l c, parsePlan T = .error (l, c) → Syn K H0 E l c)
abbrev ppN : List Str := ["self", "token", "tiles", "line", "column", "number", "reason", "floor", "tile"]
theorem sc_parse_plan : FnScope ppN ["self"] (defScope s_Parser_parse_plan) := ⟨rfl, rfl, rfl, by decide +kernel, rfl, by decide +kernel, by decide +kernel⟩
theorem ok_parse_plan (T : LoadT K mg) : FnE P w K mg base (L2.CX P w) 7 ("Parser", some "parse_plan") ["self"] (spParsePlan K) := by
  obtain ⟨fd, F⟩ := T.p.parse_plan.d
  obtain ⟨fdP, GP, bP, kP⟩ := ok_peek (P := P) (w := w) (base := base) T.p
  obtain ⟨fdF, GF, bF, kF⟩ := ok_found (P := P) (w := w) (base := base) T.p
  obtain ⟨fdX, GX, bX, kX⟩ := ok_fail (P := P) (w := w) (base := base) T.p
  obtain ⟨fdA, GA, bA, kA⟩ := ok_take (P := P) (w := w) (base := base) T.p
  obtain ⟨fdW, GW, bW, kW⟩ := ok_take_word (P := P) (w := w) (base := base) T.p
  obtain ⟨fdN, GN, bN, kN⟩ := ok_parse_names (P := P) (w := w) (base := base) T.p
  obtain ⟨fdR, GR, bR, kR⟩ := ok_parse_robot (P := P) (w := w) (base := base) T.p
  obtain ⟨fdU, GU, bU, kU⟩ := ok_parse_put (P := P) (w := w) (base := base) T.p
  obtain ⟨fdL, GL, bL, kL⟩ := ok_parse_rule (P := P) (w := w) (base := base) T.p
  obtain ⟨fdI, GI, bI, kI⟩ := ok_plan (P := P) (w := w) (base := base) T
  obtain ⟨t1, mNUM⟩ := T.p.l.NUMBER
  obtain ⟨t2, mEND⟩ := T.p.l.END
  obtain ⟨t3, mMT⟩ := T.p.MAX_TILES
  obtain ⟨t4, mMS⟩ := T.p.MAX_SIGNS
  obtain ⟨t5, mMM⟩ := T.p.MAX_MOODS
  refine ⟨fd, F.ok sc_parse_plan (fun vs H Q E h => ?_) (fun cdv A outer s H vs Q E hr h => ?_), F.bindsN fun _ _ _ _ _ _ us hl => match us, hl with | [_], _ => rfl, F.kp⟩
  · obtain ⟨H0, p, L, tas, Ts, rfl, _⟩ := h
    rfl
  · obtain ⟨H0, p, L, tas, Ts, rfl, hP, hG, hok, her⟩ := h
    have hr1 : Room 1 _ := hr.mono (by decide)
    have hr2 : Room 2 _ := hr.mono (by decide)
    have hr3 : Room 3 _ := hr.mono (by decide)
    have hr4 : Room 4 _ := hr.mono (by decide)
    have hr5 : Room 5 _ := hr.mono (by decide)
    have hu := hu_of hr
    refine ⟨_, (pss_cons (ps_expr (pe_meth (pv 0) T.p.par.c T.p.take_word.m GW hr4 bW .nil (passes_call (takes_of rfl rfl rfl rfl) (fun _ _ _ _ h => h)) (pa_cons pe_str pa_nil)))
      (pss_cons (ps_set (i := 1) sc_parse_plan.nd rfl (.inl rfl) (pe_meth (pv 0) T.p.par.c T.p.take.m GA hr4 bA .nil (passes_call (takes_of rfl rfl rfl rfl) (fun _ _ _ _ h => h)) (pa_cons (pe_glob (v := .str "number") rfl mNUM ⟨_, rfl⟩) pa_nil)))
      (pss_cons (ps_set (i := 2) sc_parse_plan.nd rfl (.inl rfl) (pe_callTy call_int_str (by rfl) T.p.int (by decide +kernel) (pa_cons (pe_fld (pv 1) rfl) pa_nil)))
      (pss_cons (ps_expr (pe_meth (pv 0) T.p.par.c T.p.take_word.m GW hr4 bW .nil (passes_call (takes_of rfl rfl rfl rfl) (fun _ _ _ _ h => h)) (pa_cons pe_str pa_nil)))
      (C8.pss_cut (ps_if (pt_not (pt_chain op_le op_le pe_int (pv 2) (pe_glob (v := .int 16) rfl mMT ⟨_, rfl⟩)))
        (pss_one (ps_expr (pe_meth (pv 0) T.p.par.c T.p.found.m GF hr1 bF .nil pass0 (pa_cons pe_str (pa_cons (pv 1) pa_nil))))) pss_nil)
      (pss_cons (ps_expr (pe_meth (pv 0) T.p.par.c T.p.parse_names.m GN hr5 bN .nil (passes_call (takes_of rfl rfl rfl rfl) (fun _ _ _ _ h => h)) (pa_cons pe_str (pa_cons (pe_fld (pv 0) rfl) (pa_cons (pe_glob (v := .int 4) rfl mMS ⟨_, rfl⟩) pa_nil)))))
      (pss_cons (ps_expr (pe_meth (pv 0) T.p.par.c T.p.parse_names.m GN hr5 bN .nil (passes_call (takes_of rfl rfl rfl rfl) (fun _ _ _ _ h => h)) (pa_cons pe_str (pa_cons (pe_fld (pv 0) rfl) (pa_cons (pe_glob (v := .int 6) rfl mMM ⟨_, rfl⟩) pa_nil)))))
      (pss_cons (ps_expr (pe_meth (pv 0) T.p.par.c T.p.parse_robot.m GR hr bR .nil (passes_call (takes_of rfl rfl rfl rfl) (fun _ _ _ _ h => h)) (pa_cons (pv 2) pa_nil)))
      (pss_cons (ps_while (passes_of rfl) (pt_cmpR op_ne (pe_fld (pe_meth0 (pv 0) T.p.par.c T.p.peek.m GP hr1 bP .nil pass0) rfl) (pe_glob (v := .str "end") rfl mEND ⟨_, rfl⟩) (nomark _))
        (pss_one (ps_match (pe_fld (pe_meth0 (pv 0) T.p.par.c T.p.peek.m GP hr1 bP .nil pass0) rfl)
          (pms_str (pss_one (ps_expr (pe_meth (pv 0) T.p.par.c T.p.parse_robot.m GR hr bR .nil (passes_call (takes_of rfl rfl rfl rfl) (fun _ _ _ _ h => h)) (pa_cons (pv 2) pa_nil))))
          (pms_str (pss_one (ps_expr (pe_meth (pv 0) T.p.par.c T.p.parse_put.m GU hr bU .nil (passes_call (takes_of rfl rfl rfl rfl) (fun _ _ _ _ h => h)) (pa_cons (pv 2) pa_nil))))
          (pms_str (pss_one (ps_expr (pe_meth0 (pv 0) T.p.par.c T.p.parse_rule.m GL hr bL .nil (passes_call (takes_of rfl rfl rfl rfl) (fun _ _ _ _ h => h)))))
          (pms_any (pss_one (ps_expr (pe_meth0 (pv 0) T.p.par.c T.p.fail.m GX hr3 bX .nil (passes_call (takes_of rfl rfl rfl rfl) (fun _ _ _ _ h => h))))))))))))
      (pss_cons (ps_if (pt_cmpR (op_neD hr.units) (pe_fld (pv 0) rfl) (pe_lst pa_nil) (nomark _)) pss_never pss_nil)
      (pss_cons (ps_set (i := 7) sc_parse_plan.nd rfl (.inl rfl) (pe_callTy call_tuple_of (by rfl) T.p.tuple (by decide +kernel) (pa_cons
        (pe_lc (own := [("tile", 8)]) (g := gName 8) (tt := tYes) (te := tDGet2 (tFld K (tVar 0) "spots") (tVar 8) (tC (.int 0))) rfl sc_parse_plan.nd (pi_range1 (by rfl) T.p.range (pa_cons (pv 2) pa_nil)) (blkOk_by (own := [("tile", 8)]) (N := ppN) (sc := defScope s_Parser_parse_plan) (by decide +kernel))
          (fun _ _ _ _ _ => pg_name (i := 8) sc_parse_plan.nd rfl (Or.inl rfl)) (fun _ _ _ _ _ => pts_nil) (fun _ _ _ _ _ => pe_dget2 hu (pe_fld (pv 0) rfl) (pv 8) pe_int ⟨rfl, rfl, rfl, rfl⟩)) pa_nil)))
      (pss_one (ps_ret (pe_make T.plan.m GI hr2 rfl T.plan.g bI .nil pass0 (pa_cons (pe_tupleOfN (by rfl) T.p.tuple (pe_fld (pv 0) rfl))
        (pa_cons (pe_tupleOfN (by rfl) T.p.tuple (pe_fld (pv 0) rfl)) (pa_cons (pv 7)
        (pa_cons (pe_callTy call_tuple_of (by rfl) T.p.tuple (by decide +kernel) (pa_cons (pe_fld (pv 0) rfl) pa_nil)) (pa_cons (pe_fld (pv 0) rfl) pa_nil))))))))))))))))))), ?_⟩
    obtain ⟨dx, ob⟩ := hP.ob
    have hlen := hG.len
    have hB0 : Bd Ts st0 := ⟨by
      show 0 < Ts.length
      exact List.length_pos_iff.mpr hG.ne, Nat.le_refl _, Nat.zero_le _, Nat.zero_le _, Nat.le_refl _, Nat.le_refl _, Nat.le_refl _, Nat.le_refl _⟩
    refine ⟨_, rfl, p, dx, _, rfl, ob, lp_no_take_word, H0, p, L, tas, Ts, st0, wCorridor, by rw [e_corridor]; rfl, hP, hB0.at_, ⟨fun kw s1 h1 v H1 hv hP1 => ?_, fun l c he => her l c (by simp only [parsePlan, he])⟩⟩
    clear hv
    obtain ⟨B1, f1, e1⟩ := bd_word hG hB0 h1 (by decide)
    obtain ⟨dx1, ob1⟩ := hP1.ob
    refine ⟨_, rfl, p, dx1, _, rfl, ob1, lp_no_take, H0, p, L, tas, Ts, s1, .number, rfl, hP1, B1.at_, ⟨fun tk s2 h2 v H2 hv hP2 => ?_, fun l c he => her l c (by simp only [parsePlan, h1, he])⟩⟩
    obtain ⟨a2, rfl, hta2⟩ := hv
    obtain ⟨B2, f2, e2, _⟩ := bd_take hG B1 h2 (by decide)
    obtain ⟨dx2, ob2⟩ := hP2.ob
    obtain ⟨dt2, ht2⟩ := hP2.get hta2
    obtain ⟨⟨n1, n2⟩, n3⟩ := hG.num tk hta2.mem (take_ok h2).2.2
    have hint := int_sx n3 n1 n2
    have hn99 := numVal_le n3 n2
    refine ⟨_, rfl, a2, _, dt2, _, _, rfl, ht2, T.p.l.tok.c, T.p.l.tok.n _ (by simp), lk_text, _, _, rfl, hint, by rw [len_sx]; omega, ?_⟩
    refine ⟨_, rfl, p, dx2, _, rfl, ob2, lp_no_take_word, H0, p, L, tas, Ts, s2, wSemi, by rw [e_semi]; rfl, hP2, B2.at_, ⟨fun t3 s3 h3 v H3 hv hP3 => ?_, fun l c he => her l c (by simp only [parsePlan, h1, h2, he])⟩⟩
    clear hv
    obtain ⟨B3, f3, e3⟩ := bd_word hG B2 h3 (by decide)
    obtain ⟨dx3, ob3⟩ := hP3.ob
    have B3f := B3.fa
    have B3a := B3.at_
    generalize hq : (if 1 ≤ numVal tk.text ∧ numVal tk.text ≤ 16 then s3 else s3.found wCorridor tk) = q3
    have Bq : Bd Ts q3 := by
      rw [← hq]
      split
      · exact B3
      · exact B3.found (by omega)
    generalize hn : numVal tk.text = n at *
    refine ⟨fun σ' H' => σ' = [some (.ref p), some (.ref a2), some (.int n), none, none, none, none, none, none] ∧ PA K H0 H' p L tas Ts q3, ?_, ?_⟩
    · refine ⟨_, rfl, _, _, rfl, rfl, _, rfl, ?_⟩
      have bad : ¬ (1 ≤ n ∧ n ≤ 16) → tDrop (tMeth (He.ga K "Parser") "found" (spFound K) [] E0 (tVar 0) (tCons (tC (.str "corridor")) (tCons (tVar 1) tNil))) { nx := fun σ' H' => σ' = [some (.ref p), some (.ref a2), some (.int n), none, none, none, none, none, none] ∧ PA K H0 H' p L tas Ts q3, rt := Q } [some (.ref p), some (.ref a2), some (.int n), none, none, none, none, none, none] H3 := fun hb => by
        refine ⟨_, rfl, p, dx3, _, rfl, ob3, lp_no_found, _, rfl, H0, p, L, tas, Ts, s3, wCorridor, a2, tk, by rw [e_corridor]; rfl, hP3, hta2, by omega, fun H4 hP4 => ⟨rfl, ?_⟩⟩
        rw [← hq, if_neg hb]
        exact hP4
      refine ite2 (fun h4 => ?_) (fun h4 => ?_)
      · have h4 := of_decide_eq_true h4
        refine ⟨_, _, rfl, rfl, _, rfl, ?_⟩
        refine ite2 (fun h5 => ?_) (fun h5 => ?_)
        · have h5 : ¬ ((n : Nat) : Int) ≤ 16 := fun z => by
            rw [decide_eq_true z] at h5
            exact absurd h5 (by decide)
          exact bad (by omega)
        · have h5 : ((n : Nat) : Int) ≤ 16 := Decidable.byContradiction fun z => h5 (by rw [decide_eq_false z]; rfl)
          refine ⟨rfl, ?_⟩
          rw [← hq, if_pos (by omega)]
          exact hP3
      · have h4 : ¬ (1 : Int) ≤ ((n : Nat) : Int) := fun z => h4 (decide_eq_true z)
        exact ⟨_, rfl, iteT (bad (by omega))⟩
    · rintro σ' H4 ⟨rfl, hP4⟩
      obtain ⟨dx4, ob4⟩ := hP4.ob
      refine ⟨_, rfl, p, dx4, _, rfl, ob4, lp_no_parse_names, _, rfl, p, _, dx4, _, _, rfl, ob4, T.p.par.c, T.p.par.n _ (by simp), lp_signs, H0, p, L, tas, Ts, q3, false, by rw [e_signs]; rfl, hP4, hG, Bq, ⟨fun u s4 h4 v H5 hv hP5 => ?_, fun l c he => her l c (by simp only [parsePlan, h1, h2, h3, hn, hq, he])⟩⟩
      clear hv
      have B4 := bd_names hG Bq h4
      obtain ⟨dx5, ob5⟩ := hP5.ob
      refine ⟨_, rfl, p, dx5, _, rfl, ob5, lp_no_parse_names, _, rfl, p, _, dx5, _, _, rfl, ob5, T.p.par.c, T.p.par.n _ (by simp), lp_moods, H0, p, L, tas, Ts, s4, true, by rw [e_moods]; rfl, hP5, hG, B4, ⟨fun u5 s5 h5 v H6 hv hP6 => ?_, fun l c he => her l c (by simp only [parsePlan, h1, h2, h3, hn, hq, h4, he])⟩⟩
      clear hv
      have B5 := bd_names hG B4 h5
      obtain ⟨dx6, ob6⟩ := hP6.ob
      refine ⟨_, rfl, p, dx6, _, rfl, ob6, lp_no_parse_robot, _, rfl, H0, p, L, tas, Ts, s5, n, rfl, hP6, hG, B5, ⟨fun u6 s6 h6 v H7 hv hP7 => ?_, fun l c he => her l c (by simp only [parsePlan, h1, h2, h3, hn, hq, h4, h5, he])⟩⟩
      clear hv
      have B6 := (bd_robot hG B5 h6).1
      have hpre : ∀ r, parseStmts Ts n Ts.length s6 = r → parsePlan Ts = (match r with | .error e => .error e | .ok (_, s7) => .ok (n, s7)) := by
        intro r hr
        simp only [parsePlan, h1, h2, h3, hn, hq, h4, h5, h6, hr]
        all_goals (rcases r with _ | ⟨_, _⟩ <;> rfl)
      refine ⟨fun m σ H => ∃ (f : Nat) (s : PSt), m + s.at_ = Ts.length ∧ σ = [some (.ref p), some (.ref a2), some (.int n), none, none, none, none, none, none] ∧ PA K H0 H p L tas Ts s ∧ Bd Ts s ∧ Ts.length ≤ f + s.at_ ∧
        parseStmts Ts n Ts.length s6 = parseStmts Ts n f s, ⟨Ts.length - s6.at_, Ts.length, s6, Nat.sub_add_cancel (Nat.le_of_lt B6.at_), rfl, hP7, B6, Nat.le_add_right _ _, rfl⟩, ?_⟩
      rintro m σ H8 ⟨f, s8, hm, rfl, hP8, B8, hf, hst⟩
      have B8a := B8.at_
      obtain ⟨f', rfl⟩ : ∃ f', f = f' + 1 := ⟨f - 1, by omega⟩
      obtain ⟨dx8, ob8⟩ := hP8.ob
      refine ⟨_, rfl, p, dx8, _, rfl, ob8, lp_no_peek, H0, p, L, tas, Ts, s8, rfl, hP8, B8.at_, fun a8 hta8 => ?_⟩
      obtain ⟨dt8, ht8⟩ := hP8.get hta8
      refine ⟨a8, _, dt8, _, _, rfl, ht8, T.p.l.tok.c, T.p.l.tok.n _ (by simp), lk_kind, rfl, _, rfl, ?_⟩
      refine ite2 (fun h => ?_) (fun h => ?_)
      · have hk : (peek Ts s8).kind ≠ .fin := fun z => by
          rw [decide_eq_true (by rw [z]; rfl)] at h
          exact absurd h (by decide)
        have hstep : ∀ r, parseStmt Ts n s8 = r → parseStmts Ts n (f' + 1) s8 = (match r with | .error e => .error e | .ok (_, s1) => parseStmts Ts n f' s1) := by
          intro r hr
          simp only [parseStmts, if_neg hk, hr]
          all_goals (rcases r with _ | ⟨_, _⟩ <;> rfl)
        refine ⟨_, fun _ _ nn => nn, ?_⟩
        refine ⟨_, rfl, p, dx8, _, rfl, ob8, lp_no_peek, H0, p, L, tas, Ts, s8, rfl, hP8, B8.at_, fun a9 hta9 => ?_⟩
        obtain ⟨dt9, ht9⟩ := hP8.get hta9
        refine ⟨a9, _, dt9, _, _, rfl, ht9, T.p.l.tok.c, T.p.l.tok.n _ (by simp), lk_text, ?_⟩
        have goon : ∀ (s9 : PSt) (H9 : Hp), parseStmt Ts n s8 = .ok ((), s9) → PA K H0 H9 p L tas Ts s9 → ∃ m', m' < m ∧ ∃ (f : Nat) (s : PSt), m' + s.at_ = Ts.length ∧ [some (V.ref p), some (.ref a2), some (.int n), none, none, none, none, none, none] = [some (.ref p), some (.ref a2), some (.int n), none, none, none, none, none, none] ∧ PA K H0 H9 p L tas Ts s ∧ Bd Ts s ∧ Ts.length ≤ f + s.at_ ∧
            parseStmts Ts n Ts.length s6 = parseStmts Ts n f s := fun s9 H9 h9 hP9 => by
          obtain ⟨B9, lt9⟩ := bd_stmt hG B8 h9
          have B9a := B9.at_
          exact ⟨Ts.length - s9.at_, by omega, f', s9, by omega, rfl, hP9, B9, by omega, by rw [hst, hstep _ h9]⟩
        have goer : ∀ l c, parseStmt Ts n s8 = .error (l, c) → Syn K H0 E l c := fun l c he => her l c (by rw [hpre _ (hst.trans (hstep _ he))])
        refine ⟨_, rfl, fun z => ?_, fun z => ?_⟩
        · have z : (peek Ts s8).text = wRobot := sx_inj (by rw [← e_robot]; exact z)
          have hs : parseStmt Ts n s8 = parseRobot Ts n s8 := by simp only [parseStmt, if_pos z]
          refine ⟨_, rfl, p, dx8, _, rfl, ob8, lp_no_parse_robot, _, rfl, H0, p, L, tas, Ts, s8, n, rfl, hP8, hG, B8, ⟨fun u s9 h9 v H9 hv hP9 => goon s9 H9 (by rw [hs]; exact h9) hP9, fun l c he => goer l c (by rw [hs]; exact he)⟩⟩
        · have z1 : ¬ (peek Ts s8).text = wRobot := fun y => z (by rw [y, e_robot])
          refine ⟨_, rfl, fun z => ?_, fun z => ?_⟩
          · have z : (peek Ts s8).text = wPut := sx_inj (by rw [← e_put]; exact z)
            have hs : parseStmt Ts n s8 = parsePut Ts n s8 := by simp only [parseStmt, if_neg z1, if_pos z]
            refine ⟨_, rfl, p, dx8, _, rfl, ob8, lp_no_parse_put, _, rfl, H0, p, L, tas, Ts, s8, n, rfl, hP8, hG, B8, ⟨fun u s9 h9 v H9 hv hP9 => goon s9 H9 (by rw [hs]; exact h9) hP9, fun l c he => goer l c (by rw [hs]; exact he)⟩⟩
          · have z2 : ¬ (peek Ts s8).text = wPut := fun y => z (by rw [y, e_put])
            refine ⟨_, rfl, fun z => ?_, fun z => ?_⟩
            · have z : (peek Ts s8).text = wWhen := sx_inj (by rw [← e_when]; exact z)
              have hs : parseStmt Ts n s8 = parseRule Ts s8 := by simp only [parseStmt, if_neg z1, if_neg z2, if_pos z]
              refine ⟨_, rfl, p, dx8, _, rfl, ob8, lp_no_parse_rule, H0, p, L, tas, Ts, s8, rfl, hP8, hG, B8, ⟨fun u s9 h9 v H9 hv hP9 => goon s9 H9 (by rw [hs]; exact h9) hP9, fun l c he => goer l c (by rw [hs]; exact he)⟩⟩
            · have z3 : ¬ (peek Ts s8).text = wWhen := fun y => z (by rw [y, e_when])
              refine ⟨_, rfl, p, dx8, _, rfl, ob8, lp_no_fail, H0, p, L, tas, Ts, s8, rfl, hP8, B8.at_, goer _ _ ?_⟩
              simp only [parseStmt, if_neg z1, if_neg z2, if_neg z3]
      · have hk : (peek Ts s8).kind = .fin := Decidable.byContradiction fun z => h (by
          show (!decide (V.str (peek Ts s8).kind.str = V.str Kd.fin.str)) = true
          rw [decide_eq_false fun y => z (kd_inj (b := .fin) (V.str.inj y))]
          rfl)
        have hres : parsePlan Ts = .ok (n, s8) := by
          rw [hpre (.ok ((), s8)) (by rw [hst]; simp only [parseStmts, if_pos hk])]
        obtain ⟨hno, hQ⟩ := hok n s8 hres
        obtain ⟨fas, hfa, hfas⟩ := hP8.fa
        rw [hno] at hfas
        have hfas : fas = [] := by
          have := hfas.len
          exact List.length_eq_zero_iff.mp this
        subst hfas
        refine ⟨_, rfl, p, _, dx8, _, _, rfl, ob8, T.p.par.c, T.p.par.n _ (by simp), lp_faults, (by show 0 ≤ sizeLine; decide), fun el nel => ?_⟩
        have smE := sameUpd (o := .lst []) (Same.refl H8) nel
        refine ⟨.list [], .list [], .lst (SqL.of (smE _ _ hfa)) .nil, .lst (SqL.of upd_same) .nil, rfl, rfl, _, rfl, ?_⟩
        refine iteF ?_
        have hP9 := hP8.mono smE
        generalize upd H8 el (.lst []) = H9 at *
        refine ⟨_, rfl, (n : Int), rfl, by omega, by omega, fun D nD => ?_⟩
        obtain ⟨dx9, ob9⟩ := hP9.ob
        refine lc_range (lo := 0) (n := ((n : Nat) : Int).toNat) (vs := [8]) (fun i H => H D = some (.lst (((List.range i).map fun j => (getA s8.spots j).getD 0).map fun m : Nat => V.int m)) ∧ Same H9 H) ⟨upd_same, sameUpd (Same.refl H9) nD⟩ ?_ ?_
        · rintro i H10 hi ⟨hD, sm10⟩
          have hP10 := hP9.mono sm10
          refine ⟨rfl, _, rfl, p, _, dx9, _, _, rfl, sm10 _ _ ob9, T.p.par.c, T.p.par.n _ (by simp), lp_spots, L.sd, rfl, .inl ⟨_, .inl hP10.sp⟩, _, rfl, _, DGet.k (k := Sum.inl ((0 : Int) + (i : Nat))) hP10.sp, _, hD, ?_, ?_, ?_⟩
          · rw [List.length_map, List.length_map, List.length_range, sizeLine_eq]
            omega
          · rw [upd_same, spots_get, List.range_succ, List.map_append, List.map_append]
            rfl
          · exact sameUpd sm10 nD
        · rintro H10 ⟨hD, sm10⟩
          rw [Int.toNat_natCast] at hD
          have hfl : ((List.range n).map fun j => (getA s8.spots j).getD 0) = (planOf n s8).floor := rfl
          rw [hfl] at hD
          refine ⟨D, _, rfl, .inl ⟨SqL.of hD, fun fa nfa => ?_⟩⟩
          have smf := sameUpd (o := .tup ((planOf n s8).floor.map fun m : Nat => V.int m)) (Same.refl H10) nfa
          have hP11 := hP9.mono (sm10.trans smf)
          have atf := @upd_same H10 fa (.tup ((planOf n s8).floor.map fun m : Nat => V.int m))
          generalize upd H10 fa (.tup ((planOf n s8).floor.map fun m : Nat => V.int m)) = H11 at *
          obtain ⟨dx11, ob11⟩ := hP11.ob
          refine ⟨_, rfl, p, _, dx11, _, _, rfl, ob11, T.p.par.c, T.p.par.n _ (by simp), lp_signs, L.sl, _, rfl, SqL.of hP11.si, fun sa osa nsa oc od => ?_⟩
          have sms := sameUpd (o := .frz osa (.tup (s8.signs.map sV))) (Same.refl H11) nsa
          have hP12 := hP11.mono sms
          have ats : TupN (upd H11 sa (.frz osa (.tup (s8.signs.map sV)))) sa (s8.signs.map sV) := ⟨osa, oc, od, upd_same⟩
          generalize upd H11 sa (.frz osa (.tup (s8.signs.map sV))) = H12 at *
          refine ⟨_, rfl, p, _, dx11, _, _, rfl, sms _ _ ob11, T.p.par.c, T.p.par.n _ (by simp), lp_moods, L.ml, _, rfl, SqL.of hP12.mo, fun ma oma nma mc md => ?_⟩
          have smm := sameUpd (o := .frz oma (.tup (s8.moods.map sV))) (Same.refl H12) nma
          have hP13 := hP12.mono smm
          have atm : TupN (upd H12 ma (.frz oma (.tup (s8.moods.map sV)))) ma (s8.moods.map sV) := ⟨oma, mc, md, upd_same⟩
          generalize upd H12 ma (.frz oma (.tup (s8.moods.map sV))) = H13 at *
          obtain ⟨ras, hra, hras⟩ := hP13.ro
          refine ⟨_, rfl, _, rfl, p, _, dx11, _, _, rfl, smm _ _ (sms _ _ ob11), T.p.par.c, T.p.par.n _ (by simp), lp_robots, L.rl, _, rfl, .inl ⟨SqL.of hra, fun ra nra => ?_⟩⟩
          have smr := sameUpd (o := .tup (ras.map V.ref)) (Same.refl H13) nra
          have hP14 := hP13.mono smr
          have atr := @upd_same H13 ra (.tup (ras.map V.ref))
          generalize upd H13 ra (.tup (ras.map V.ref)) = H14 at *
          refine ⟨_, rfl, p, _, dx11, _, _, rfl, smr _ _ (smm _ _ (sms _ _ ob11)), T.p.par.c, T.p.par.n _ (by simp), lp_rules, ?_⟩
          intro x dx0 nx ndx ne0
          refine init_at (names := planF) rfl nx ndx fun H15 sm15 hx => ⟨rfl, ?_⟩
          obtain ⟨dp, hdp⟩ := hx
          have hP15 := hP14.mono sm15
          refine hQ x H15 (hP14.same.free nx) hP15.same ⟨dp, sa, ma, fa, ra, L.rd, ras, hdp, ats.mono fun _ z => sm15 _ _ (smr _ _ (smm _ _ z)), atm.mono fun _ z => sm15 _ _ (smr _ _ z), sm15 _ _ (smr _ _ (smm _ _ (sms _ _ atf))), sm15 _ _ atr, ?_, hP15.ru⟩
          exact Paired.mapP hras fun a r q => sm15 _ _ (smr _ _ q)
end
end Sw

end

section
set_option maxRecDepth 100000
set_option maxHeartbeats 4000000
/-! load -/
namespace Sw
open PySem PySem.Spec PyProof.Rows L2 SwA
section
variable {P : Program} {w : World} {K : PySem.W.Frag} {mg : Str → Option Value} {base : Heap}
def spLoad (K : PySem.W.Frag) : Sp := fun vs H Q E => ∃ text : Cs, vs = [.str (sx text)] ∧ text.length ≤ 90000 ∧
  (∀ n s, loads text = .ok (n, s) → s.faults = [] ∧ ∀ (a : Addr) (H' : Hp), H a = none → Same H H' → PlanAt K H' a (planOf n s) → Q (.ref a) H') ∧ (∀ l c, loads text = .error (l, c) → Syn K H E l c)
theorem sc_load : FnScope ["plan"] ["plan"] (defScope s_load) := ⟨rfl, rfl, rfl, by decide +kernel, rfl, by decide +kernel, by decide +kernel⟩
theorem ok_load (T : LoadT K mg) : FnE P w K mg base (L2.CX P w) 8 ("load", none) ["plan"] (spLoad K) := by
  obtain ⟨fd, F⟩ := T.d_load
  obtain ⟨fdT, GT, bT, kT⟩ := ok_tokenize (P := P) (w := w) (base := base) T.p.l
  obtain ⟨fdI, GI, bI, kI⟩ := ok_par_init (P := P) (w := w) (base := base) T.p
  obtain ⟨fdP, GP, bP, kP⟩ := ok_parse_plan (P := P) (w := w) (base := base) T
  refine ⟨fd, F.ok sc_load (fun vs H Q E h => ?_) (fun cdv A outer s H vs Q E hr h => ?_), F.bindsN fun _ _ _ _ _ _ us hl => match us, hl with | [_], _ => rfl, F.kp⟩
  · obtain ⟨text, rfl, _⟩ := h
    rfl
  · obtain ⟨text, rfl, hl, hok, her⟩ := h
    have hr2 : Room 2 _ := hr.mono (by decide)
    have hr4 : Room 4 _ := hr.mono (by decide)
    refine ⟨_, (pss_one (ps_ret (pe_meth0 (pe_make T.p.par.m GI hr2 rfl T.p.par.g bI .nil pass0 (pa_cons (pe_call GT hr4 rfl T.p.l.g_tokenize kT bT .nil (passes_call (takes_of rfl rfl rfl rfl) (fun _ _ _ _ h => h)) (pa_cons (pv 0) pa_nil)) pa_nil))
      T.p.par.c T.p.parse_plan.m GP hr bP .nil (passes_call (takes_of rfl rfl rfl rfl) (fun _ _ _ _ h => h))))), ?_⟩
    refine ⟨_, rfl, text, rfl, hl, fun ts ht a tas H1 na sm ha htk => ?_, fun l c he => her l c (by simp only [loads, he])⟩
    have hG := tokenize_good hl ht
    intro x dx nx ndx ne
    have xa : a ≠ x := ne_of_none ha nx
    have xd : a ≠ dx := ne_of_none ha ndx
    have s1 : Same H1 (upd (upd H1 dx (.own x)) x (.ins (He.ga K "Parser") dx [])) := sameUpd (sameUpd (Same.refl H1) ndx) nx
    refine ⟨H, x, dx, a, tas, ts, rfl, upd_same, s1 _ _ ha, htk.same s1, sm.trans s1, sm.free nx, na, fun L H2 hPA => ⟨rfl, ?_⟩⟩
    obtain ⟨dx2, ob2⟩ := hPA.ob
    have el : loads text = parsePlan ts := by simp only [loads, ht]
    refine ⟨x, dx2, _, rfl, ob2, lp_no_parse_plan, H, x, L, tas, ts, rfl, hPA, hG, fun n s h => hok n s (by rw [el]; exact h), fun l c h => her l c (by rw [el]; exact h)⟩
end
end Sw

end

section
set_option maxRecDepth 100000
set_option maxHeartbeats 4000000
/-! is_int_in -/
namespace Sw
open PySem PySem.Spec PyProof.Rows L2 SwA
/-- a def of the module -/
structure DeT (K : PySem.W.Frag) (mg : Str → Option Value) (x : Str) (st : Stmt) : Prop where
  d : FD K (x, none) x x st
  g : mg x = some (.ref (He.ga K x))
inductive ArN (K : PySem.W.Frag) (H : Hp) : V → String → Prop
  | int (i : Int) : ArN K H (.int i) "int"
  | bl (b : Bool) : ArN K H (.bl b) "bool"
  | non : ArN K H .non "NoneType"
  | str (z : Str) : ArN K H (.str z) "str"
  | tup {a : Addr} {xs : List V} (e : H a = some (.tup xs)) : ArN K H (.ref a) "tuple"
  | lst {a : Addr} {xs : List V} (e : H a = some (.lst xs)) : ArN K H (.ref a) "list"
theorem ArN.ty {K : PySem.W.Frag} {H : Hp} {v : V} {n : String} (h : ArN K H v n) : TyX K H v (.type n) := by
  cases h with
  | int i => exact .base (.int i)
  | bl b => exact .base (.bl b)
  | non => exact .base .non
  | str z => exact .base (.str z)
  | tup e => exact .base (.tup e)
  | lst e => exact .base (.lst e)
theorem ArN.same {K : PySem.W.Frag} {H H' : Hp} {v : V} {n : String} (h : ArN K H v n) (s : Same H H') : ArN K H' v n := by
  cases h with
  | int i => exact .int i
  | bl b => exact .bl b
  | non => exact .non
  | str z => exact .str z
  | tup e => exact .tup (s _ _ e)
  | lst e => exact .lst (s _ _ e)
def isIntIn (v : V) (lo hi : Int) : Bool := match v with
  | .int i => decide (lo ≤ i) && decide (i ≤ hi)
  | _ => false
end Sw

end

section
set_option maxRecDepth 100000
set_option maxHeartbeats 4000000
/-! properties -/
namespace Sw
open PySem PySem.Spec PyProof.Rows L2 SwA
/-- a property -/
structure PrT (K : PySem.W.Frag) (C f q : Str) (st : Stmt) : Prop where
  d : ∃ fd, FunD K f q (defArgs st) (defBody st) (defScope st) [] [] (He5.wf K (He.ga K C) "property" f) fd
  p : PropOf K (He.ga K C) f (He.ma K (He.ga K C) f) (He5.wf K (He.ga K C) "property" f)
/-- a def at an address keeps a promise -/
def FnX (P : Program) (w : World) (K : PySem.W.Frag) (mg : Str → Option Value) (base : Heap) (CX : CXT) (k : Nat) (f : Addr) (ps : List Str) (sp : Sp) : Prop :=
  ∃ fd, FnOk P w K mg base CX k f fd ps sp ∧ Binds K fd ps []
end Sw

end

section
set_option maxRecDepth 100000
set_option maxHeartbeats 4000000
/-! is_int_in -/
namespace Sw
open PySem PySem.Spec PyProof.Rows L2 SwA
structure IntT (K : PySem.W.Frag) (mg : Str → Option Value) : Prop where
  isinstance : mg "isinstance" = none
  bool : mg "bool" = none
  int : mg "int" = none
  is_int_in : DeT K mg "is_int_in" s_is_int_in
section
variable {P : Program} {w : World} {K : PySem.W.Frag} {mg : Str → Option Value} {base : Heap}
def spIsIntIn (K : PySem.W.Frag) : Sp := fun vs H Q _ => ∃ (v : V) (n : String) (lo hi : Int), vs = [v, .int lo, .int hi] ∧ ArN K H v n ∧ Q (.bl (isIntIn v lo hi)) H
theorem sc_is_int_in : FnScope ["value", "low", "high"] ["value", "low", "high"] (defScope s_is_int_in) := ⟨rfl, rfl, rfl, by decide +kernel, rfl, by decide +kernel, by decide +kernel⟩
theorem ok_int_in (T : IntT K mg) : FnE P w K mg base CX0 1 ("is_int_in", none) ["value", "low", "high"] (spIsIntIn K) := by
  obtain ⟨fd, F⟩ := T.is_int_in.d
  refine ⟨fd, F.ok sc_is_int_in (fun vs H Q E h => ?_) (fun cdv A outer s H vs Q E hr h => ?_), F.bindsN fun _ _ _ _ _ _ us hl => match us, hl with | [_, _, _], _ => rfl, F.kp⟩
  · obtain ⟨v, n, lo, hi, rfl, _⟩ := h
    rfl
  · obtain ⟨v, n, lo, hi, rfl, hv, k⟩ := h
    refine ⟨_, PSs.nox (pss_one (ps_ret (pe_and (pe_callB call_isi (by rfl) T.isinstance (by decide +kernel) (pa_cons (pv 0) (pa_cons (pe_bltn (v := .ty "int") (by rfl) T.int (by decide +kernel) rfl) pa_nil)))
      (pe_and (pe_not (pe_callB call_isi (by rfl) T.isinstance (by decide +kernel) (pa_cons (pv 0) (pa_cons (pe_bltn (v := .ty "bool") (by rfl) T.bool (by decide +kernel) rfl) pa_nil))))
      (pe_one (pe_chain op_le op_le (pv 1) (pv 0) (pv 2))))))), ?_⟩
    have no : ∀ (x : V), kitB n "int" = some false → isIntIn v lo hi = false → _ := fun x h1 h2 => True.intro
    cases hv with
    | int i =>
      refine ⟨_, rfl, _, _, _, _, true, rfl, .ty "int", (ArN.int (K := K) (H := H) i).ty, kit_ty (by decide +kernel), _, rfl, ?_⟩
      refine ⟨_, rfl, _, _, _, _, false, rfl, .ty "bool", (ArN.int (K := K) (H := H) i).ty, kit_ty (by decide +kernel), _, rfl, _, rfl, ?_⟩
      refine ⟨_, rfl, _, rfl, _, _, rfl, rfl, _, rfl, ?_⟩
      refine ite2 (fun h => ?_) (fun h => ?_)
      · refine ⟨_, rfl, _, _, rfl, rfl, ?_⟩
        have e : isIntIn (.int i) lo hi = decide (i ≤ hi) := by simp only [isIntIn]; rw [h]; rfl
        rw [e] at k
        exact k
      · have e : isIntIn (.int i) lo hi = false := by
          simp only [isIntIn]
          have : decide (lo ≤ i) = false := by simpa using h
          rw [this]
          rfl
        rw [e] at k
        exact k
    | bl b =>
      refine ⟨_, rfl, _, _, _, _, true, rfl, .ty "int", (ArN.bl (K := K) (H := H) b).ty, kit_ty (by decide +kernel), _, rfl, ?_⟩
      refine ⟨_, rfl, _, _, _, _, true, rfl, .ty "bool", (ArN.bl (K := K) (H := H) b).ty, kit_ty (by decide +kernel), _, rfl, _, rfl, ?_⟩
      exact k
    | non => exact ⟨_, rfl, _, _, _, _, false, rfl, .ty "int", (ArN.non (K := K) (H := H)).ty, kit_ty (by decide +kernel), _, rfl, k⟩
    | str z => exact ⟨_, rfl, _, _, _, _, false, rfl, .ty "int", (ArN.str (K := K) (H := H) z).ty, kit_ty (by decide +kernel), _, rfl, k⟩
    | tup e => exact ⟨_, rfl, _, _, _, _, false, rfl, .ty "int", (ArN.tup (K := K) (H := H) e).ty, kit_ty (by decide +kernel), _, rfl, k⟩
    | lst e => exact ⟨_, rfl, _, _, _, _, false, rfl, .ty "int", (ArN.lst (K := K) (H := H) e).ty, kit_ty (by decide +kernel), _, rfl, k⟩
end
end Sw

end

section
set_option maxRecDepth 100000
set_option maxHeartbeats 4000000
/-! the machine -/
namespace Sw
open PySem PySem.Spec PyProof.Rows L2 SwA
structure MachT (K : PySem.W.Frag) (mg : Str → Option Value) : Prop where
  lo : LoadT K mg
  isinstance : mg "isinstance" = none
  bool : mg "bool" = none
  REST : ∃ t, mg "REST" = some (.str "rest" t)
  is_int_in : DeT K mg "is_int_in" s_is_int_in
  replaced : DeT K mg "replaced" s_replaced
  state : MkC K mg "State" ["floor", "robots"]
  d_state : FD K ("State", some "__init__") "__init__" "State.__init__" s_State_init
  first_state : DeT K mg "first_state" s_first_state
  moved : DeT K mg "moved" s_moved
  act : DeT K mg "act" s_act
  tick : MkC K mg "Tick" ["swept", "words", "state"]
  d_tick : FD K ("Tick", some "__init__") "__init__" "Tick.__init__" s_Tick_init
  next_tick : DeT K mg "next_tick" s_next_tick
theorem MachT.it {K : PySem.W.Frag} {mg : Str → Option Value} (T : MachT K mg) : IntT K mg := ⟨T.isinstance, T.bool, T.lo.p.int, T.is_int_in⟩
section
variable {P : Program} {w : World} {K : PySem.W.Frag} {mg : Str → Option Value} {base : Heap}
theorem ok_is_int_in (T : MachT K mg) : FnE P w K mg base CX0 1 ("is_int_in", none) ["value", "low", "high"] (spIsIntIn K) := ok_int_in T.it
/-! ### replaced -/
def spReplaced (K : PySem.W.Frag) : Sp := fun vs H Q _ => ∃ (a : Addr) (i : Nat) (v : V) (xs : List V), vs = [.ref a, .int i, v] ∧ H a = some (.tup xs) ∧ i < xs.length ∧ xs.length ≤ 100000 ∧
  ∀ (b : Addr) (H' : Hp), Same H H' → H' b = some (.tup (xs.set i v)) → Q (.ref b) H'
theorem sc_replaced : FnScope ["values", "place", "value"] ["values", "place", "value"] (defScope s_replaced) := ⟨rfl, rfl, rfl, by decide +kernel, rfl, by decide +kernel, by decide +kernel⟩
theorem set_cut {xs : List V} {i : Nat} {v : V} (h : i < xs.length) : xs.set i v = xs.take i ++ (v :: xs.drop (i + 1)) := by
  rw [List.set_eq_take_append_cons_drop, if_pos h]
theorem ok_replaced (T : MachT K mg) : FnE P w K mg base CX0 1 ("replaced", none) ["values", "place", "value"] (spReplaced K) := by
  obtain ⟨fd, F⟩ := T.replaced.d
  refine ⟨fd, F.ok sc_replaced (fun vs H Q E h => ?_) (fun cdv A outer s H vs Q E hr h => ?_), F.bindsN fun _ _ _ _ _ _ us hl => match us, hl with | [_, _, _], _ => rfl, F.kp⟩
  · obtain ⟨a, i, v, xs, rfl, _⟩ := h
    rfl
  · obtain ⟨a, i, v, xs, rfl, ha, hi, hz, k⟩ := h
    refine ⟨_, PSs.nox (pss_one (ps_ret (pe_op op_catA (pe_op op_catA (pe_slice sl_tupA (pv 0) po_none (po_some (pv 1))) (pe_tup (pa_cons (pv 2) pa_nil))) (pe_slice sl_tupA (pv 0) (po_some (pe_op op_add (pv 1) pe_int)) po_none)))), ?_⟩
    have c1 : cutV xs none (some (i : Int)) = xs.take i := by
      show (xs.drop (HT.sIx xs.length 0 none)).take (HT.sIx xs.length xs.length (some (i : Int)) - HT.sIx xs.length 0 none) = xs.take i
      rw [HT.sIx_none, HT.sIx_nat, Nat.min_eq_left (by omega)]
      rfl
    have c2 : cutV xs (some ((i : Int) + 1)) none = xs.drop (i + 1) := by
      have e : ((i : Int) + 1) = ((i + 1 : Nat) : Int) := rfl
      rw [e]
      show (xs.drop (HT.sIx xs.length 0 (some ((i + 1 : Nat) : Int)))).take (HT.sIx xs.length xs.length none - HT.sIx xs.length 0 (some ((i + 1 : Nat) : Int))) = xs.drop (i + 1)
      rw [HT.sIx_none, HT.sIx_nat, Nat.min_eq_left (by omega)]
      exact List.take_of_length_le (by rw [List.length_drop]; omega)
    have w1 : ¬ (HT.sIx xs.length 0 none = 0 ∧ HT.sIx xs.length xs.length (some (i : Int)) = xs.length) := by
      rw [HT.sIx_nat]
      omega
    have w2 : ¬ (HT.sIx xs.length 0 (some ((i : Int) + 1)) = 0 ∧ HT.sIx xs.length xs.length none = xs.length) := by
      have e : ((i : Int) + 1) = ((i + 1 : Nat) : Int) := rfl
      rw [e, HT.sIx_nat]
      omega
    have es := set_cut (v := v) hi
    refine ⟨_, rfl, _, rfl, _, rfl, a, xs, rfl, SqT.of ha, fun q => absurd q w1, fun _ p1 n1 => ?_⟩
    rw [c1]
    have s1 := sameUpd (o := .tup (xs.take i)) (Same.refl H) n1
    refine ⟨_, rfl, (by show 1 ≤ sizeLine; decide), fun p2 n2 => ?_⟩
    have s2 := s1.trans (sameUpd (o := .tup [v]) (Same.refl _) n2)
    have e1 : (upd (upd H p1 (.tup (xs.take i))) p2 (.tup [v])) p1 = some (.tup (xs.take i)) := by rw [upd_ne (ne_of_none upd_same n2), upd_same]
    have lt : (xs.take i).length = i := by rw [List.length_take]; omega
    have ld : (xs.drop (i + 1)).length = xs.length - (i + 1) := List.length_drop
    -- the second sum, from a tuple of take i ++ [v]
    have fin : ∀ (q : Addr) (H3 : Hp), Same H H3 → H3 q = some (.tup (xs.take i ++ [v])) →
        tSl (rSlA K) (tVar 0) (tPart (tOp (rI0 fun i j => .int (i + j)) (tVar 1) (tC (.int 1)))) tNoPart [some (.ref a), some (.int i), some v] H3 fun y H2 => rCatA K (.ref q) y H2 Q := fun q H3 s3 hq => by
      refine ⟨_, rfl, _, rfl, _, _, rfl, rfl, _, rfl, a, xs, rfl, SqT.of (s3 _ _ ha), fun z => absurd z w2, fun _ p4 n4 => ?_⟩
      rw [c2]
      have s4 := sameUpd (o := .tup (xs.drop (i + 1))) (Same.refl H3) n4
      refine ⟨q, p4, _, _, rfl, rfl, SqT.of (s4 _ _ hq), SqT.of upd_same, ?_, fun z => ?_, fun _ z => ?_, fun _ z p5 n5 => ?_⟩
      · rw [List.length_append, lt, ld, sizeLine_eq]
        simp
        omega
      · exact absurd z (by simp)
      · refine k q _ (s3.trans s4) ?_
        rw [s4 _ _ hq, es, z]
      · refine k p5 _ ((s3.trans s4).trans (sameUpd (Same.refl _) n5)) ?_
        rw [upd_same, es, List.append_assoc]
        rfl
    refine ⟨p1, p2, _, _, rfl, rfl, SqT.of e1, SqT.of upd_same, ?_, fun z => ?_, fun _ z => ?_, fun z1 z2 p3 n3 => ?_⟩
    · rw [lt, sizeLine_eq]
      simp
      omega
    · refine fin p2 _ s2 ?_
      rw [upd_same, z]
      rfl
    · exact absurd z (by simp)
    · exact fin p3 _ (s2.trans (sameUpd (Same.refl _) n3)) upd_same
end
end Sw

end

section
set_option maxRecDepth 100000
set_option maxHeartbeats 4000000
/-! utilities -/
namespace Sw
open PySem PySem.Spec PyProof.Rows L2 SwA
abbrev iV (n : Nat) : V := .int n
abbrev plFs (a b c d e : V) : List (Str × V) := [("signs", a), ("moods", b), ("floor", c), ("robots", d), ("rules", e)]
theorem lpl_signs {a b c d e : V} : List.lookup ("signs" : Str) (plFs a b c d e) = some a := by kernel_rfl
theorem lpl_moods {a b c d e : V} : List.lookup ("moods" : Str) (plFs a b c d e) = some b := by kernel_rfl
theorem lpl_floor {a b c d e : V} : List.lookup ("floor" : Str) (plFs a b c d e) = some c := by kernel_rfl
theorem lpl_robots {a b c d e : V} : List.lookup ("robots" : Str) (plFs a b c d e) = some d := by kernel_rfl
theorem lpl_rules {a b c d e : V} : List.lookup ("rules" : Str) (plFs a b c d e) = some e := by kernel_rfl
theorem walk_enumT {K : PySem.W.Frag} {a : Addr} {xs : List V} : Walk (ItET K a) xs.length (fun H => SqT K H a xs) (YPair (fun i => some (.int (i : Nat))) (fun i => xs[i]?)) := by
  refine ⟨fun i _ hi q => ⟨xs, xs[i], q, by simp [hi]⟩, fun _ q => ⟨xs, q, rfl⟩, fun i H v H' _ q y => ?_⟩
  obtain ⟨T, x, h1, h2, h3, h4⟩ := y
  exact ⟨T, .int (i : Nat), x, h1, h2, h3, rfl, h4 xs q⟩
/-! ### the rules asked -/
theorem rules_get {H : Hp} {k : Nat × Nat} : ∀ {rs : List ((Nat × Nat) × Rule)} {kvs : List (List Key × V)}, Paired (RuleAt H) rs kvs →
    (getA rs k = none → valV kvs (keyT k) = none) ∧ (∀ r, getA rs k = some r → ∃ t, valV kvs (keyT k) = some (.ref t) ∧ H t = some (.tup [.int r.left, sV r.move, .int r.later]))
  | _, _, .nil => ⟨fun _ => rfl, fun r h => by cases h⟩
  | _, _, .cons (a := r0) (b := kv) (l₁ := l) (l₂ := m) h t => by
    have ih := rules_get (k := k) t
    by_cases e : r0.1 = k
    · have e1 : getA (r0 :: l) k = some r0.2 := by unfold getA; rw [List.find?_cons, decide_eq_true e]; rfl
      have e2 : valV (kv :: m) (keyT k) = some kv.2 := valV_pos (by rw [h.1, e])
      refine ⟨(fun z => by rw [e1] at z; cases z), fun r z => ?_⟩
      rw [e1] at z
      cases z
      obtain ⟨_, tt, h2, h3⟩ := h
      exact ⟨tt, by rw [e2, h2], h3⟩
    · have e1 : getA (r0 :: l) k = getA l k := by unfold getA; rw [List.find?_cons, decide_eq_false e]
      have e2 : valV (kv :: m) (keyT k) = valV m (keyT k) := valV_neg (by rw [h.1]; exact fun q => e (keyT_inj.mp q))
      rw [e1, e2]
      exact ih
section
variable {K : PySem.W.Frag} {H H' : Hp}
def cutH (H : Hp) (l : List Addr) : Hp := fun a => if a ∈ l then none else H a
theorem cutH_same {l : List Addr} : Same (cutH H l) H := fun a o e => by
  unfold cutH at e
  split at e
  · cases e
  · exact e
theorem cutH_in {l : List Addr} {a : Addr} (h : a ∈ l) : cutH H l a = none := by
  unfold cutH
  rw [if_pos h]
theorem cutH_out {l : List Addr} {a : Addr} (h : a ∉ l) : cutH H l a = H a := by
  unfold cutH
  rw [if_neg h]
end
end Sw

end

section
set_option maxRecDepth 100000
set_option maxHeartbeats 4000000
/-! the machine: states, ticks -/
namespace Sw
open PySem PySem.Spec PyProof.Rows L2 SwA
def Rob3At (H : Hp) (a : Addr) (r : Rob) : Prop := H a = some (.tup [.int r.1, .bl r.2.1, .int r.2.2])
def StateAt (K : PySem.W.Frag) (H : Hp) (a : Addr) (st : MSt) : Prop := ∃ (dx fa ra : Addr) (ras : List Addr), H a = some (.ins (He.ga K "State") dx [("floor", .ref fa), ("robots", .ref ra)]) ∧
  H fa = some (.tup (st.floor.map iV)) ∧ H ra = some (.tup (ras.map V.ref)) ∧ Paired (Rob3At H) ras st.robots
theorem StateAt.same {K : PySem.W.Frag} {H H' : Hp} {a : Addr} {st : MSt} (s : Same H H') (h : StateAt K H a st) : StateAt K H' a st :=
  let ⟨dx, fa, ra, ras, e1, e2, e3, e4⟩ := h
  ⟨dx, fa, ra, ras, s _ _ e1, s _ _ e2, s _ _ e3, Paired.mapP e4 fun _ _ q => s _ _ q⟩
def TickAt (K : PySem.W.Frag) (H : Hp) (a : Addr) (tk : TickM) : Prop := ∃ (dx sw wo sa : Addr), H a = some (.ins (He.ga K "Tick") dx [("swept", .ref sw), ("words", .ref wo), ("state", .ref sa)]) ∧
  TupN H sw (tk.swept.map iV) ∧ H wo = some (.tup (tk.words.map sV)) ∧ StateAt K H sa tk.state
theorem TickAt.same {K : PySem.W.Frag} {H H' : Hp} {a : Addr} {tk : TickM} (s : Same H H') (h : TickAt K H a tk) : TickAt K H' a tk :=
  let ⟨dx, sw, wo, sa, e1, e2, e3, e4⟩ := h
  ⟨dx, sw, wo, sa, s _ _ e1, e2.mono fun _ z => s _ _ z, s _ _ e3, e4.same s⟩
theorem put_state (a b : V) : putF "robots" b (putF "floor" a []) = ([("floor", a), ("robots", b)] : List (Str × V)) := by kernel_rfl
theorem put_tick (a b c : V) : putF "state" c (putF "words" b (putF "swept" a [])) = ([("swept", a), ("words", b), ("state", c)] : List (Str × V)) := by kernel_rfl
theorem ls_floor {a b : V} : List.lookup ("floor" : Str) ([("floor", a), ("robots", b)] : List (Str × V)) = some a := by kernel_rfl
theorem ls_robots {a b : V} : List.lookup ("robots" : Str) ([("floor", a), ("robots", b)] : List (Str × V)) = some b := by kernel_rfl
theorem lt_swept {a b c : V} : List.lookup ("swept" : Str) ([("swept", a), ("words", b), ("state", c)] : List (Str × V)) = some a := by kernel_rfl
theorem lt_words {a b c : V} : List.lookup ("words" : Str) ([("swept", a), ("words", b), ("state", c)] : List (Str × V)) = some b := by kernel_rfl
theorem lt_state {a b c : V} : List.lookup ("state" : Str) ([("swept", a), ("words", b), ("state", c)] : List (Str × V)) = some c := by kernel_rfl
section
variable {P : Program} {w : World} {K : PySem.W.Frag} {mg : Str → Option Value} {base : Heap}
theorem sc_state : FnScope ["self", "floor", "robots"] ["self", "floor", "robots"] (defScope s_State_init) := ⟨rfl, rfl, rfl, by decide +kernel, rfl, by decide +kernel, by decide +kernel⟩
theorem ok_state (T : MachT K mg) : FnE P w K mg base CX0 1 ("State", some "__init__") ["self", "floor", "robots"] (spInit (He.ga K "State") ["floor", "robots"]) := by
  obtain ⟨fd, F⟩ := T.d_state
  refine ⟨fd, F.ok sc_state (fun vs H Q E h => ?_) (fun cdv A outer s H vs Q E hr h => ?_), F.bindsN fun _ _ _ _ _ _ us hl => match us, hl with | [_, _, _], _ => rfl, F.kp⟩
  · obtain ⟨a, dx, args, rfl, e, _⟩ := h
    simp [e]
  · obtain ⟨p, dx, args, rfl, e, hp, k⟩ := h
    obtain ⟨v1, v2, rfl⟩ : ∃ v1 v2, args = [v1, v2] := by
      match args, e with
      | [v1, v2], _ => exact ⟨v1, v2, rfl⟩
    refine ⟨_, PSs.nox (pss_cons (ps_fld (pv 0) (pv 1) rfl) (pss_one (ps_fld (pv 0) (pv 2) rfl))), ?_⟩
    refine ⟨_, rfl, _, rfl, p, _, dx, _, rfl, hp, T.state.c, T.state.n _ (by simp), lnZ ln0, ?_⟩
    refine ⟨_, rfl, _, rfl, p, _, dx, _, rfl, upd_same, T.state.c, T.state.n _ (by simp), lnZ (lnS ln0), ?_⟩
    refine k _ ?_ fun b hb => by rw [upd_ne hb, upd_ne hb]
    rw [upd_same, put_state]
    rfl
theorem sc_tick : FnScope ["self", "swept", "words", "state"] ["self", "swept", "words", "state"] (defScope s_Tick_init) := ⟨rfl, rfl, rfl, by decide +kernel, rfl, by decide +kernel, by decide +kernel⟩
theorem ok_tick (T : MachT K mg) : FnE P w K mg base CX0 1 ("Tick", some "__init__") ["self", "swept", "words", "state"] (spInit (He.ga K "Tick") ["swept", "words", "state"]) := by
  obtain ⟨fd, F⟩ := T.d_tick
  refine ⟨fd, F.ok sc_tick (fun vs H Q E h => ?_) (fun cdv A outer s H vs Q E hr h => ?_), F.bindsN fun _ _ _ _ _ _ us hl => match us, hl with | [_, _, _, _], _ => rfl, F.kp⟩
  · obtain ⟨a, dx, args, rfl, e, _⟩ := h
    simp [e]
  · obtain ⟨p, dx, args, rfl, e, hp, k⟩ := h
    obtain ⟨v1, v2, v3, rfl⟩ : ∃ v1 v2 v3, args = [v1, v2, v3] := by
      match args, e with
      | [v1, v2, v3], _ => exact ⟨v1, v2, v3, rfl⟩
    refine ⟨_, PSs.nox (pss_cons (ps_fld (pv 0) (pv 1) rfl) (pss_cons (ps_fld (pv 0) (pv 2) rfl) (pss_one (ps_fld (pv 0) (pv 3) rfl)))), ?_⟩
    refine ⟨_, rfl, _, rfl, p, _, dx, _, rfl, hp, T.tick.c, T.tick.n _ (by simp), lnZ ln0, ?_⟩
    refine ⟨_, rfl, _, rfl, p, _, dx, _, rfl, upd_same, T.tick.c, T.tick.n _ (by simp), lnZ (lnS ln0), ?_⟩
    refine ⟨_, rfl, _, rfl, p, _, dx, _, rfl, upd_same, T.tick.c, T.tick.n _ (by simp), lnZ (lnS (lnS ln0)), ?_⟩
    refine k _ ?_ fun b hb => by rw [upd_ne hb, upd_ne hb, upd_ne hb]
    rw [upd_same, put_tick]
    rfl
/-! ### moved -/
def spMoved : Sp := fun vs H Q _ => ∃ (tile tiles : Nat) (right : Bool), vs = [.int tile, .bl right, .int tiles] ∧ tile < tiles ∧
  ∀ (b : Addr) (H' : Hp), Same H H' → H' b = some (.tup [.int (movedM tile right tiles).1, .bl (movedM tile right tiles).2]) → Q (.ref b) H'
theorem sc_moved : FnScope ["tile", "is_right", "tiles", "later"] ["tile", "is_right", "tiles"] (defScope s_moved) := ⟨rfl, rfl, rfl, by decide +kernel, rfl, by decide +kernel, by decide +kernel⟩
theorem ok_moved (T : MachT K mg) : FnE P w K mg base CX0 1 ("moved", none) ["tile", "is_right", "tiles"] spMoved := by
  obtain ⟨fd, F⟩ := T.moved.d
  refine ⟨fd, F.ok sc_moved (fun vs H Q E h => ?_) (fun cdv A outer s H vs Q E hr h => ?_), F.bindsN fun _ _ _ _ _ _ us hl => match us, hl with | [_, _, _], _ => rfl, F.kp⟩
  · obtain ⟨tile, tiles, right, rfl, _⟩ := h
    rfl
  · obtain ⟨tile, tiles, right, rfl, ht, k⟩ := h
    refine ⟨_, PSs.nox (pss_cons (ps_set (i := 3) sc_moved.nd rfl (.inl rfl) (pe_ifExp (pt_val (pv 1)) (pe_op op_add (pv 0) pe_int) (pe_op op_sub (pv 0) pe_int)))
      (pss_one (ps_ret (pe_ifExp (pt_chain op_le op_lt pe_int (pv 3) (pv 2)) (pe_tup (pa_cons (pv 3) (pa_cons (pv 1) pa_nil))) (pe_tup (pa_cons (pv 0) (pa_cons (pe_not (pv 1)) pa_nil))))))), ?_⟩
    have fin : ∀ (x y : V), V.int (movedM tile right tiles).1 = x → V.bl (movedM tile right tiles).2 = y → ∀ p, H p = none → Q (.ref p) (upd H p (.tup [x, y])) := fun x y e1 e2 p np => by
      refine k p _ (sameUpd (Same.refl H) np) ?_
      rw [upd_same, e1, e2]
    cases right with
    | true =>
      refine ⟨_, rfl, _, rfl, ?_⟩
      refine ⟨_, rfl, _, _, rfl, rfl, ?_⟩
      refine ⟨_, rfl, _, _, rfl, rfl, _, rfl, ?_⟩
      refine ite2 (fun h => ?_) (fun h => ?_)
      · refine ⟨_, rfl, _, _, rfl, rfl, _, rfl, ?_⟩
        refine ite2 (fun h2 => ?_) (fun h2 => ?_)
        · have h2 : ((tile : Int) + 1) < tiles := of_decide_eq_true h2
          exact ⟨_, rfl, _, rfl, (by show 2 ≤ sizeLine; decide), fin _ _ (by simp only [movedM, if_pos (show tile + 1 < tiles by omega)]; rfl) (by simp only [movedM, if_pos (show tile + 1 < tiles by omega)]; rfl)⟩
        · have h2 : ¬ ((tile : Int) + 1) < tiles := fun q => h2 (decide_eq_true q)
          exact ⟨_, rfl, _, rfl, _, rfl, (by show 2 ≤ sizeLine; decide), fin _ _ (by simp only [movedM, if_neg (show ¬ tile + 1 < tiles by omega)]; rfl) (by simp only [movedM, if_neg (show ¬ tile + 1 < tiles by omega)]; rfl)⟩
      · exfalso
        exact h (decide_eq_true (by omega))
    | false =>
      refine ⟨_, rfl, _, rfl, ?_⟩
      refine ⟨_, rfl, _, _, rfl, rfl, ?_⟩
      refine ⟨_, rfl, _, _, rfl, rfl, _, rfl, ?_⟩
      refine ite2 (fun h => ?_) (fun h => ?_)
      · have h : (0 : Int) ≤ (tile : Int) - 1 := of_decide_eq_true h
        refine ⟨_, rfl, _, _, rfl, rfl, _, rfl, ?_⟩
        refine ite2 (fun h2 => ?_) (fun h2 => ?_)
        · refine ⟨_, rfl, _, rfl, (by show 2 ≤ sizeLine; decide), fin _ _ ?_ ?_⟩
          · simp only [movedM, if_pos (show 0 < tile by omega)]
            show V.int ((tile - 1 : Nat) : Int) = V.int ((tile : Int) - 1)
            congr 1
            omega
          · simp only [movedM, if_pos (show 0 < tile by omega)]
            rfl
        · exfalso
          exact h2 (decide_eq_true (by omega))
      · have h : ¬ (0 : Int) ≤ (tile : Int) - 1 := fun q => h (decide_eq_true q)
        refine ⟨_, rfl, ?_⟩
        refine iteF ⟨_, rfl, _, rfl, _, rfl, (by show 2 ≤ sizeLine; decide), fin _ _ ?_ ?_⟩
        · simp only [movedM, if_neg (show ¬ 0 < tile by omega)]; rfl
        · simp only [movedM, if_neg (show ¬ 0 < tile by omega)]; rfl
end
end Sw

end

section
set_option maxRecDepth 100000
set_option maxHeartbeats 4000000
/-! the machine: first_state, act, next_tick -/
namespace Sw
open PySem PySem.Spec PyProof.Rows L2 SwA
section
variable {P : Program} {w : World} {K : PySem.W.Frag} {mg : Str → Option Value} {base : Heap}
def spFirstState (K : PySem.W.Frag) : Sp := fun vs H Q _ => ∃ (pa : Addr) (pl : Plan), vs = [.ref pa] ∧ PlanAt K H pa pl ∧ pl.robots.length ≤ 100000 ∧ ∀ (b : Addr) (H' : Hp), H b = none → Same H H' → StateAt K H' b (firstM pl) → Q (.ref b) H'
abbrev fsN : List Str := ["parsed", "tile", "is_right"]
theorem sc_first_state : FnScope fsN ["parsed"] (defScope s_first_state) := ⟨rfl, rfl, rfl, by decide +kernel, rfl, by decide +kernel, by decide +kernel⟩
theorem ok_first_state (T : MachT K mg) : FnE P w K mg base CX0 3 ("first_state", none) ["parsed"] (spFirstState K) := by
  obtain ⟨fd, F⟩ := T.first_state.d
  obtain ⟨fdS, GS, bS, kS⟩ := ok_state (P := P) (w := w) (base := base) T
  refine ⟨fd, F.ok sc_first_state (fun vs H Q E h => ?_) (fun cdv A outer s H vs Q E hr h => ?_), F.bindsN fun _ _ _ _ _ _ us hl => match us, hl with | [_], _ => rfl, F.kp⟩
  · obtain ⟨pa, pl, rfl, _⟩ := h
    rfl
  · obtain ⟨pa, pl, rfl, hp, hz, k⟩ := h
    refine ⟨_, PSs.nox (pss_one (ps_ret (pe_make T.state.m GS hr rfl T.state.g bS .nil pass0 (pa_cons (pe_fld (pv 0) rfl) (pa_cons (pe_callTy call_tuple_of (by rfl) T.lo.p.tuple (by decide +kernel) (pa_cons
      (pe_lc (own := [("tile", 1), ("is_right", 2)]) (g := gTup K 2 (gCons (gName 1) (gCons (gName 2) gNil))) (tt := tYes) (te := tTup (tCons (tVar 1) (tCons (tVar 2) (tCons (tC (.int 0)) tNil)))) rfl sc_first_state.nd (pi_tup (pe_fld (pv 0) rfl))
        (blkOk_by (own := [("tile", 1), ("is_right", 2)]) (N := fsN) (sc := defScope s_first_state) (by decide +kernel))
        (fun _ _ _ _ _ => pg_tup rfl (pgs_cons (pg_name (i := 1) sc_first_state.nd rfl (Or.inl rfl)) (pgs_cons (pg_name (i := 2) sc_first_state.nd rfl (Or.inl rfl)) pgs_nil))) (fun _ _ _ _ _ => pts_nil)
        (fun _ _ _ _ _ => pe_tup (pa_cons (pv 1) (pa_cons (pv 2) (pa_cons pe_int pa_nil))))) pa_nil)) pa_nil))))), ?_⟩
    obtain ⟨dx, sa, ma, fa, ra, rd, ras, e1, e2, e3, e4, e5, e6, e7⟩ := hp
    refine ⟨_, rfl, pa, _, dx, _, _, rfl, e1, T.lo.plan.c, T.lo.plan.n _ (by simp), lpl_floor, _, rfl, pa, _, dx, _, _, rfl, e1, T.lo.plan.c, T.lo.plan.n _ (by simp), lpl_robots, ra, rfl, ⟨_, SqT.of e5⟩, fun D nD => ?_⟩
    refine lc_tup (K := K) (a := ra) (xs := ras.map V.ref) (vs := [1, 2]) (fun i H2 => ∃ bs : List Addr, H2 D = some (.lst (bs.map V.ref)) ∧ Same H H2 ∧ Paired (Rob3At H2) bs (((pl.robots.take i).map fun r => (r.1, r.2, 0)))) ⟨[], upd_same, sameUpd (Same.refl H) nD, .nil⟩ (fun i H2 _ ⟨_, _, sm, _⟩ => SqT.of (sm _ _ e5)) ?_ ?_
    · rintro i x H2 hx ⟨bs, hD, sm, hbs⟩
      rw [List.getElem?_map] at hx
      cases hai : ras[i]? with
      | none => rw [hai] at hx; cases hx
      | some ai =>
        rw [hai] at hx
        cases hx
        obtain ⟨ri, hri, hrob⟩ := Paired_idx e6 hai
        refine ⟨ai, _, rfl, SqT.of (sm _ _ hrob), rfl, _, _, rfl, _, _, rfl, rfl, rfl, _, rfl, _, rfl, (by show 3 ≤ sizeLine; decide), fun tu ntu => ?_⟩
        have s2 := sameUpd (o := .tup [.int ri.1, .bl ri.2, .int 0]) (Same.refl H2) ntu
        refine ⟨bs.map V.ref, s2 _ _ hD, ?_, bs ++ [tu], by rw [upd_same, List.map_append]; rfl, sameUpd (sm.trans s2) nD, ?_⟩
        · rw [List.length_map, hbs.length, List.length_map, List.length_take, sizeLine_eq]
          omega
        · rw [List.take_succ, hri, List.map_append]
          have kt := keepT (o' := .lst (bs.map V.ref ++ [.ref tu])) (s2 _ _ hD) (fun xs q => by cases q)
          exact Paired_snoc (Paired.mapP hbs fun a r q => kt _ _ (s2 _ _ q)) (kt _ _ upd_same)
    · rintro H2 ⟨bs, hD, sm, hbs⟩
      rw [List.length_map, e6.length, List.take_length] at hbs
      refine ⟨D, _, rfl, .inl ⟨SqL.of hD, fun rt nrt => ?_⟩⟩
      have s3 := sameUpd (o := .tup (bs.map V.ref)) (Same.refl H2) nrt
      intro x dx0 nx ndx ne0
      refine init_at (names := ["floor", "robots"]) rfl nx ndx fun H4 sm4 hx => ⟨rfl, ?_⟩
      obtain ⟨ds, hds⟩ := hx
      have sA := (sm.trans s3).trans sm4
      refine k x H4 ((sm.trans s3).free nx) sA ⟨ds, fa, rt, bs, hds, sA _ _ e4, sm4 _ _ upd_same, Paired.mapP hbs fun a r q => sm4 _ _ (s3 _ _ q)⟩
/-! ### act -/
def spAct (K : PySem.W.Frag) : Sp := fun vs H Q _ => ∃ (pa sa : Addr) (i n m : Nat) (pl : Plan) (st : MSt), vs = [.ref pa, .ref sa, .int i] ∧ PlanAt K H pa pl ∧ StateAt K H sa st ∧ WfM n m st ∧ i < m ∧ n ≤ 1000 ∧ m ≤ 1000 ∧
  ∀ (b sb : Addr) (H' : Hp), Same H H' → H' b = some (.tup [sV (actM pl.rules st i).1, .ref sb]) → StateAt K H' sb (actM pl.rules st i).2 → Q (.ref b) H'
abbrev acN : List Str := ["parsed", "state", "number", "tile", "is_right", "mood", "sign", "left", "move", "later", "floor"]
theorem sc_act : FnScope acN ["parsed", "state", "number"] (defScope s_act) := ⟨rfl, rfl, rfl, by decide +kernel, rfl, by decide +kernel, by decide +kernel⟩
theorem e_rest : ("rest" : Str) = sx wRest := by decide +kernel
theorem e_on : ("on" : Str) = sx wOn := by decide +kernel
theorem e_back : ("back" : Str) = sx wBack := by decide +kernel
theorem Paired_set {α β : Type} {F : α → β → Prop} {a : α} {b : β} (h : F a b) : ∀ {l : List α} {m : List β} (i : Nat), Paired F l m → Paired F (l.set i a) (m.set i b)
  | _, _, _, .nil => .nil
  | _, _, 0, .cons x r => .cons h r
  | _, _, i + 1, .cons x r => .cons x (Paired_set h i r)
theorem ok_act (T : MachT K mg) : FnE P w K mg base CX0 3 ("act", none) ["parsed", "state", "number"] (spAct K) := by
  obtain ⟨fd, F⟩ := T.act.d
  obtain ⟨fdS, GS, bS, kS⟩ := ok_state (P := P) (w := w) (base := base) T
  obtain ⟨fdR, GR, bR, kR⟩ := ok_replaced (P := P) (w := w) (base := base) T
  obtain ⟨fdM, GM, bM, kM⟩ := ok_moved (P := P) (w := w) (base := base) T
  obtain ⟨t1, mREST⟩ := T.REST
  refine ⟨fd, F.ok sc_act (fun vs H Q E h => ?_) (fun cdv A outer s H vs Q E hr h => ?_), F.bindsN fun _ _ _ _ _ _ us hl => match us, hl with | [_, _, _], _ => rfl, F.kp⟩
  · obtain ⟨pa, sa, i, n, m, pl, st, rfl, _⟩ := h
    rfl
  · obtain ⟨pa, sa, i, n, m, pl, st, rfl, hp, hst, hw, hi, hn, hm, k⟩ := h
    have hr1 : Room 1 _ := hr.mono (by decide)
    have hu := hu_of hr
    refine ⟨_, PSs.nox (pss_cons (ps_asg (pe_ix ix_tup (pe_fld (pv 1) rfl) (pv 2) (fun _ _ => rfl)) (pg_tup rfl (pgs_cons (pg_name (i := 3) sc_act.nd rfl (.inl rfl)) (pgs_cons (pg_name (i := 4) sc_act.nd rfl (.inl rfl)) (pgs_cons (pg_name (i := 5) sc_act.nd rfl (.inl rfl)) pgs_nil)))))
      (pss_cons (ps_set (i := 6) sc_act.nd rfl (.inl rfl) (pe_ix ix_tup (pe_fld (pv 1) rfl) (pv 3) (fun _ _ => rfl)))
      (pss_cons (ps_if (pt_cmp (pc_dnotin hu (pe_tup (pa_cons (pv 5) (pa_cons (pv 6) pa_nil))) (pe_fld (pv 0) rfl)))
        (pss_one (ps_ret (pe_tup (pa_cons (pe_glob (v := .str "rest") rfl mREST ⟨_, rfl⟩) (pa_cons (pv 1) pa_nil))))) pss_nil)
      (pss_cons (ps_asg (pe_dget hu (pe_fld (pv 0) rfl) (pe_tup (pa_cons (pv 5) (pa_cons (pv 6) pa_nil))) (fun _ _ => rfl)) (pg_tup rfl (pgs_cons (pg_name (i := 7) sc_act.nd rfl (.inl rfl)) (pgs_cons (pg_name (i := 8) sc_act.nd rfl (.inl rfl)) (pgs_cons (pg_name (i := 9) sc_act.nd rfl (.inl rfl)) pgs_nil)))))
      (pss_cons (ps_set (i := 10) sc_act.nd rfl (.inl rfl) (pe_call GR hr1 rfl T.replaced.g kR bR .nil pass0 (pa_cons (pe_fld (pv 1) rfl) (pa_cons (pv 3) (pa_cons (pv 7) pa_nil)))))
      (C8.pss_cut (ps_match (pv 8)
        (pms_str (pss_one (ps_asg (pe_call GM hr1 rfl T.moved.g kM bM .nil pass0 (pa_cons (pv 3) (pa_cons (pv 4) (pa_cons (pe_callB call_len_seq (by rfl) T.lo.p.l.len boot_len (pa_cons (pv 10) pa_nil)) pa_nil))))
            (pg_tup rfl (pgs_cons (pg_name (i := 3) sc_act.nd rfl (.inl rfl)) (pgs_cons (pg_name (i := 4) sc_act.nd rfl (.inl rfl)) pgs_nil)))))
        (pms_str (pss_one (ps_asg (pe_call GM hr1 rfl T.moved.g kM bM .nil pass0 (pa_cons (pv 3) (pa_cons (pe_not (pv 4)) (pa_cons (pe_callB call_len_seq (by rfl) T.lo.p.l.len boot_len (pa_cons (pv 10) pa_nil)) pa_nil))))
            (pg_tup rfl (pgs_cons (pg_name (i := 3) sc_act.nd rfl (.inl rfl)) (pgs_cons (pg_name (i := 4) sc_act.nd rfl (.inl rfl)) pgs_nil))))) pms_nil)))
      (pss_one (ps_ret (pe_tup (pa_cons (pv 8) (pa_cons (pe_make T.state.m GS hr rfl T.state.g bS .nil pass0 (pa_cons (pv 10) (pa_cons (pe_call GR hr1 rfl T.replaced.g kR bR .nil pass0 (pa_cons (pe_fld (pv 1) rfl) (pa_cons (pv 2)
        (pa_cons (pe_tup (pa_cons (pv 3) (pa_cons (pv 4) (pa_cons (pv 9) pa_nil)))) pa_nil)))) pa_nil))) pa_nil))))))))))), ?_⟩
    obtain ⟨dx, sga, moa, fla, rba, rda, rbs, p1, p2, p3, p4, p5, p6, kvs, p7, p8⟩ := hp
    obtain ⟨ds, fa, ra, ras, q1, q2, q3, q4⟩ := id hst
    have hlr : st.robots.length = m := hw.ro
    have hir : i < st.robots.length := by omega
    obtain ⟨⟨tile, right, mood⟩, hrob⟩ : ∃ r, st.robots[i] = r := ⟨_, rfl⟩
    have er : st.robots[i]? = some (tile, right, mood) := by rw [List.getElem?_eq_getElem hir, hrob]
    have hai : i < ras.length := by rw [q4.length]; exact hir
    have ear : ras[i]? = some ras[i] := List.getElem?_eq_getElem hai
    have hri : Rob3At H ras[i] (tile, right, mood) := Paired_get q4 ear er
    have htl : tile < st.floor.length := by rw [hw.fl]; exact hw.ti _ (List.mem_of_getElem? er)
    have efl : st.floor[tile]? = some (st.floor.getD tile 0) := by rw [List.getD_eq_getElem?_getD, List.getElem?_eq_getElem htl]; rfl
    refine ⟨_, rfl, sa, _, ds, _, _, rfl, q1, T.state.c, T.state.n _ (by simp), ls_robots, _, rfl, ra, _, _, _, rfl, rfl, SqT.of q3, atI_nat (by rw [List.getElem?_map, ear]; rfl), ras[i], _, rfl, SqT.of hri, rfl, _, _, rfl, _, _, rfl, _, _, rfl, rfl, ?_⟩
    refine ⟨_, rfl, sa, _, ds, _, _, rfl, q1, T.state.c, T.state.n _ (by simp), ls_floor, _, rfl, fa, _, _, _, rfl, rfl, SqT.of q2, atI_nat (by rw [List.getElem?_map, efl]; rfl), ?_⟩
    generalize hsign : st.floor.getD tile 0 = sign at *
    obtain ⟨g1, g2⟩ := rules_get (k := (mood, sign)) p8
    refine ⟨_, rfl, _, rfl, (by show 2 ≤ sizeLine; decide), fun tk ntk => ?_⟩
    have s1 := sameUpd (o := .tup [.int mood, .int sign]) (Same.refl H) ntk
    refine ⟨_, rfl, pa, _, dx, _, _, rfl, s1 _ _ p1, T.lo.plan.c, T.lo.plan.n _ (by simp), lpl_rules, rda, _, rfl, DGet.t (k := keyT (mood, sign)) (s1 _ _ p7) upd_same, _, rfl, ?_⟩
    cases hget : getA pl.rules (mood, sign) with
    | none =>
      rw [g1 hget]
      refine iteT ?_
      have ea : actM pl.rules st i = (wRest, st) := by simp only [actM, er, hsign, hget]
      refine ⟨_, rfl, (by show 2 ≤ sizeLine; decide), fun b nb => ?_⟩
      have s2 := s1.trans (sameUpd (o := .tup [.str "rest", .ref sa]) (Same.refl _) nb)
      refine k b sa _ s2 ?_ ?_
      · rw [upd_same, ea, e_rest]
      · rw [ea]
        exact hst.same s2
    | some r =>
      obtain ⟨t, g3, g4⟩ := g2 r hget
      rw [g3]
      refine iteF ?_
      refine ⟨_, rfl, pa, _, dx, _, _, rfl, s1 _ _ p1, T.lo.plan.c, T.lo.plan.n _ (by simp), lpl_rules, _, rfl, _, rfl, (by show 2 ≤ sizeLine; decide), fun tk2 ntk2 => ?_⟩
      have s2 := s1.trans (sameUpd (o := .tup [.int mood, .int sign]) (Same.refl _) ntk2)
      refine ⟨rda, _, rfl, ?_, t, _, rfl, SqT.of (s2 _ _ g4), rfl, _, _, rfl, _, _, rfl, _, _, rfl, rfl, ?_⟩
      · have z := DGet.t (k := keyT (mood, sign)) (s2 _ _ p7) (@upd_same (upd H tk (.tup [.int mood, .int sign])) tk2 (.tup [.int mood, .int sign]))
        rw [g3] at z
        exact z
      have q1' := s2 _ _ q1
      have q2' := s2 _ _ q2
      have q3' := s2 _ _ q3
      have q4' : Paired (Rob3At (upd (upd H tk (.tup [.int mood, .int sign])) tk2 (.tup [.int mood, .int sign]))) ras st.robots := Paired.mapP q4 fun a r q => s2 _ _ q
      generalize (upd (upd H tk (.tup [.int mood, .int sign])) tk2 (.tup [.int mood, .int sign])) = H2 at *
      refine ⟨_, rfl, sa, _, ds, _, _, rfl, q1', T.state.c, T.state.n _ (by simp), ls_floor, _, rfl, _, rfl, fa, tile, .int r.left, _, rfl, q2', by rw [List.length_map]; exact htl, by rw [List.length_map, hw.fl]; omega, fun fb H3 s3 hfb => ?_⟩
      have efb : (st.floor.map iV).set tile (.int r.left) = (st.floor.set tile r.left).map iV := by rw [List.map_set]
      rw [efb] at hfb
      have gm := goM_lt (move := r.move) (right := right) htl
      generalize hgo : goM r.move tile right st.floor.length = go at *
      have ea : actM pl.rules st i = (r.move, ⟨st.floor.set tile r.left, st.robots.set i (go.1, go.2, r.later)⟩) := by simp only [actM, er, hsign, hget, hgo]
      refine ⟨fun σ' H' => σ' = [some (.ref pa), some (.ref sa), some (.int i), some (.int go.1), some (.bl go.2), some (.int mood), some (.int sign), some (.int r.left), some (sV r.move), some (.int r.later), some (.ref fb)] ∧ Same H3 H', ?_, ?_⟩
      · refine ⟨_, rfl, _, rfl, fun z => ?_, fun z => ?_⟩
        · have z : r.move = wOn := sx_inj (by rw [← e_on]; exact z)
          refine ⟨_, rfl, _, rfl, _, rfl, fb, _, rfl, .inr (SqT.of hfb), tile, st.floor.length, right, by simp, htl, fun b H4 s4 hb => ?_⟩
          refine ⟨b, _, rfl, SqT.of hb, rfl, _, _, rfl, _, _, rfl, rfl, ?_, s4⟩
          have e : movedM tile right st.floor.length = go := by rw [← hgo]; simp only [goM, if_pos z]
          rw [e]
          rfl
        · have z1 : ¬ r.move = wOn := fun y => z (by rw [y, e_on])
          refine ⟨_, rfl, fun z => ?_, fun z => ?_⟩
          · have z : r.move = wBack := sx_inj (by rw [← e_back]; exact z)
            refine ⟨_, rfl, _, rfl, _, rfl, _, rfl, fb, _, rfl, .inr (SqT.of hfb), tile, st.floor.length, !right, by simp, htl, fun b H4 s4 hb => ?_⟩
            refine ⟨b, _, rfl, SqT.of hb, rfl, _, _, rfl, _, _, rfl, rfl, ?_, s4⟩
            have e : movedM tile (!right) st.floor.length = go := by rw [← hgo]; simp only [goM, if_neg z1, if_pos z]
            rw [e]
            rfl
          · have z2 : ¬ r.move = wBack := fun y => z (by rw [y, e_back])
            refine ⟨?_, Same.refl _⟩
            have e : (tile, right) = go := by rw [← hgo]; simp only [goM, if_neg z1, if_neg z2]
            rw [← e]
            rfl
      · rintro σ' H4 ⟨rfl, s4⟩
        have s34 := s3.trans s4
        refine ⟨_, rfl, _, rfl, _, rfl, sa, _, ds, _, _, rfl, s34 _ _ q1', T.state.c, T.state.n _ (by simp), ls_robots, _, rfl, _, rfl, _, rfl, _, rfl, (by show 3 ≤ sizeLine; decide), fun tr ntr => ?_⟩
        have s5 := s34.trans (sameUpd (o := .tup [.int go.1, .bl go.2, .int r.later]) (Same.refl _) ntr)
        refine ⟨ra, i, .ref tr, _, rfl, s5 _ _ q3', by rw [List.length_map, q4.length]; exact hir, by rw [List.length_map, q4.length]; omega, fun rb H6 s6 hrb => ?_⟩
        have erb : (ras.map V.ref).set i (.ref tr) = (ras.set i tr).map V.ref := by rw [List.map_set]
        rw [erb] at hrb
        intro x dx0 nx ndx ne0
        refine init_at (names := ["floor", "robots"]) rfl nx ndx fun H7 sm7 hx => ⟨rfl, ?_⟩
        obtain ⟨d7, hd7⟩ := hx
        refine ⟨(by show 2 ≤ sizeLine; decide), fun b nb => ?_⟩
        have sfin := sameUpd (o := .tup [sV r.move, .ref x]) (Same.refl H7) nb
        have s47 : Same H4 H7 := ((sameUpd (o := .tup [.int go.1, .bl go.2, .int r.later]) (Same.refl H4) ntr).trans s6).trans sm7
        refine k b x _ ((s2.trans ((s34.trans s47))).trans sfin) (by rw [upd_same, ea]) ?_
        rw [ea]
        refine StateAt.same sfin ⟨d7, fb, rb, ras.set i tr, hd7, s47 _ _ (s4 _ _ hfb), sm7 _ _ hrb, ?_⟩
        refine Paired_set ?_ i (Paired.mapP q4' fun a r q => s47 _ _ (s34 _ _ q))
        exact sm7 _ _ (s6 _ _ upd_same)
end
end Sw

end

section
set_option maxRecDepth 100000
set_option maxHeartbeats 4000000
/-! next_tick -/
namespace Sw
open PySem PySem.Spec PyProof.Rows L2 SwA
section
variable {P : Program} {w : World} {K : PySem.W.Frag} {mg : Str → Option Value} {base : Heap}
def spNextTick (K : PySem.W.Frag) : Sp := fun vs H Q _ => ∃ (pa sa : Addr) (n m : Nat) (pl : Plan) (st : MSt), vs = [.ref pa, .ref sa] ∧ PlanAt K H pa pl ∧ StateAt K H sa st ∧ WfM n m st ∧ n ≤ 1000 ∧ m ≤ 1000 ∧
  ∀ (b : Addr) (H' : Hp), Same H H' → TickAt K H' b (nextM pl.rules st) → Q (.ref b) H'
abbrev ntN : List Str := ["parsed", "state", "swept", "words", "number", "word", "robot"]
theorem sc_next_tick : FnScope ntN ["parsed", "state"] (defScope s_next_tick) := ⟨rfl, rfl, rfl, by decide +kernel, rfl, by decide +kernel, by decide +kernel⟩
theorem ok_next_tick (T : MachT K mg) : FnE P w K mg base CX0 4 ("next_tick", none) ["parsed", "state"] (spNextTick K) := by
  obtain ⟨fd, F⟩ := T.next_tick.d
  obtain ⟨fdA, GA, bA, kA⟩ := ok_act (P := P) (w := w) (base := base) T
  obtain ⟨fdT, GT, bT, kT⟩ := ok_tick (P := P) (w := w) (base := base) T
  refine ⟨fd, F.ok sc_next_tick (fun vs H Q E h => ?_) (fun cdv A outer s H vs Q E hr h => ?_), F.bindsN fun _ _ _ _ _ _ us hl => match us, hl with | [_, _], _ => rfl, F.kp⟩
  · obtain ⟨pa, sa, n, m, pl, st, rfl, _⟩ := h
    rfl
  · obtain ⟨pa, sa, n, m, pl, st, rfl, hp, hst, hw, hn, hm, k⟩ := h
    have hr2 : Room 2 _ := hr.mono (by decide)
    refine ⟨_, PSs.nox (pss_cons (ps_par (by rfl) sc_next_tick.nd (i := 2) (j := 3) rfl rfl (by decide) rfl rfl (pa_cons (pe_tupleOfN (by rfl) T.lo.p.tuple
        (pe_lc (own := [("robot", 6)]) (g := gName 6) (tt := tYes) (te := tOp (rIxT K) (tVar 6) (tC (.int 0))) rfl sc_next_tick.nd (pi_tup (pe_fld (pv 1) rfl))
          (blkOk_by (own := [("robot", 6)]) (N := ntN) (sc := defScope s_next_tick) (by decide +kernel)) (fun _ _ _ _ _ => pg_name (i := 6) sc_next_tick.nd rfl (Or.inl rfl)) (fun _ _ _ _ _ => pts_nil)
          (fun _ _ _ _ _ => pe_ix ix_tup (pv 6) pe_int (fun _ _ => rfl)))) (pa_cons (pe_lst pa_nil) pa_nil)) (by rfl))
      (pss_cons (ps_for PassesOwn.never rfl (pi_range1 (by rfl) T.lo.p.range (pa_cons (pe_callB call_len_seq (by rfl) T.lo.p.l.len boot_len (pa_cons (pe_fld (pv 1) rfl) pa_nil)) pa_nil)) (pg_name (i := 4) sc_next_tick.nd rfl (.inl rfl))
        (pss_cons (ps_asg (pe_call GA hr rfl T.act.g kA bA .nil pass0 (pa_cons (pv 0) (pa_cons (pv 1) (pa_cons (pv 4) pa_nil)))) (pg_tup rfl (pgs_cons (pg_name (i := 5) sc_next_tick.nd rfl (.inl rfl)) (pgs_cons (pg_name (i := 1) sc_next_tick.nd rfl (.inl rfl)) pgs_nil))))
        (pss_one (ps_expr (pe_bm PySem.F.plainAttrs_list PySem.F.slot_list_append PySem.F.type_list_append mt_append (pv 3) (pa_cons (pv 5) pa_nil))))))
      (pss_one (ps_ret (pe_make T.tick.m GT hr2 rfl T.tick.g bT .nil pass0 (pa_cons (pv 2) (pa_cons (pe_callTy call_tuple_of (by rfl) T.lo.p.tuple (by decide +kernel) (pa_cons (pv 3) pa_nil)) (pa_cons (pv 1) pa_nil)))))))), ?_⟩
    obtain ⟨ds, fa, ra, ras, q1, q2, q3, q4⟩ := id hst
    have hlr : ras.length = m := by rw [q4.length, hw.ro]
    refine ⟨_, rfl, sa, _, ds, _, _, rfl, q1, T.state.c, T.state.n _ (by simp), ls_robots, ra, rfl, ⟨_, SqT.of q3⟩, fun D nD => ?_⟩
    refine lc_tup (K := K) (a := ra) (xs := ras.map V.ref) (vs := [6]) (fun i H2 => H2 D = some (.lst (((st.robots.take i).map (·.1)).map iV)) ∧ Same H H2) ⟨upd_same, sameUpd (Same.refl H) nD⟩ (fun i H2 _ ⟨_, sm⟩ => SqT.of (sm _ _ q3)) ?_ ?_
    · rintro i x H2 hx ⟨hD, sm⟩
      rw [List.getElem?_map] at hx
      cases hai : ras[i]? with
      | none => rw [hai] at hx; cases hx
      | some ai =>
        rw [hai] at hx
        cases hx
        obtain ⟨ri, hri, hrob⟩ := Paired_idx q4 hai
        have hil : i < ras.length := (List.getElem?_eq_some_iff.mp hai).1
        refine ⟨rfl, _, rfl, ai, _, _, _, rfl, rfl, SqT.of (sm _ _ hrob), rfl, _, hD, ?_, ?_, sameUpd sm nD⟩
        · rw [List.length_map, List.length_map, List.length_take, sizeLine_eq]
          omega
        · rw [upd_same, List.take_succ, hri, List.map_append, List.map_append]
          rfl
    · rintro H2 ⟨hD, sm⟩
      rw [List.length_map, q4.length, List.take_length] at hD
      refine ⟨D, _, rfl, SqL.of hD, fun sw osw nsw oc od => ?_⟩
      have s3 := sm.trans (sameUpd (o := .frz osw (.tup ((st.robots.map (·.1)).map iV))) (Same.refl H2) nsw)
      have hsw : TupN (upd H2 sw (.frz osw (.tup ((st.robots.map (·.1)).map iV)))) sw ((st.robots.map (·.1)).map iV) := ⟨osw, oc, od, upd_same⟩
      generalize upd H2 sw (.frz osw (.tup ((st.robots.map (·.1)).map iV))) = H3 at *
      refine ⟨(by show 0 ≤ sizeLine; decide), fun wl nwl => ?_⟩
      have s4 := s3.trans (sameUpd (o := .lst []) (Same.refl H3) nwl)
      have nwl0 : H wl = none := s3.free nwl
      have hsw4 : TupN (upd H3 wl (.lst [])) sw ((st.robots.map (·.1)).map iV) := hsw.mono fun _ z => sameUpd (Same.refl H3) nwl _ _ z
      have hwl := @upd_same H3 wl (.lst [])
      generalize upd H3 wl (.lst []) = H4 at *
      refine ⟨_, _, rfl, ?_⟩
      refine ⟨_, rfl, sa, _, ds, _, _, rfl, s4 _ _ q1, T.state.c, T.state.n _ (by simp), ls_robots, ra, _, rfl, .inr (SqT.of (s4 _ _ q3)), _, rfl, by omega, by simp; omega, ?_⟩
      have elen : (((ras.map V.ref).length : Nat) : Int).toNat = m := by rw [Int.toNat_natCast, List.length_map, hlr]
      refine for_range (lo := 0) (n := (((ras.map V.ref).length : Nat) : Int).toNat) (fun i σ H5 => ∃ (sb : Addr) (o4 o5 : Option V), σ = [some (.ref pa), some (.ref sb), some (.ref sw), some (.ref wl), o4, o5, none] ∧ Same H H5 ∧ H5 wl = some (.lst ((actsM pl.rules st i).1.map sV)) ∧
        TupN H5 sw ((st.robots.map (·.1)).map iV) ∧ StateAt K H5 sb (actsM pl.rules st i).2) ⟨sa, none, none, rfl, s4, hwl, hsw4, hst.same s4⟩ ?_ ?_
      · rintro i σ H5 hi ⟨sb, o4, o5, rfl, s5, hw5, hsw5, hst5⟩
        rw [elen] at hi
        refine ⟨_, rfl, _, rfl, _, rfl, pa, sb, i, n, m, pl, _, by rw [Int.zero_add]; rfl, hp.same s5, hst5, hw.acts i, hi, hn, hm, fun b sc H6 s6 hb hst6 => ?_⟩
        refine ⟨b, _, rfl, SqT.of hb, rfl, _, _, rfl, _, _, rfl, rfl, ?_⟩
        refine ⟨_, rfl, .inl ⟨rfl, _, SqL.of (s6 _ _ hw5)⟩, _, rfl, wl, _, _, rfl, rfl, s6 _ _ hw5, ?_, ?_⟩
        · rw [List.length_map, acts_len, sizeLine_eq]
          omega
        · have sk : ∀ a o, a ≠ wl → H6 a = some o → (upd H6 wl (.lst ((actsM pl.rules st i).1.map sV ++ [sV (actM pl.rules (actsM pl.rules st i).2 i).1]))) a = some o := fun a o h e => by rw [upd_ne h]; exact e
          refine ⟨sc, _, _, rfl, sameUpd (s5.trans s6) nwl0, ?_, ?_, ?_⟩
          · rw [upd_same]
            show _ = some (HO.lst (((actsM pl.rules st i).1 ++ [(actM pl.rules (actsM pl.rules st i).2 i).1]).map sV))
            rw [List.map_append]
            rfl
          · refine hsw5.mono fun o z => ?_
            have z6 := s6 _ _ z
            rw [upd_ne (ne_of z6 (s6 _ _ hw5) (by intro q; cases q))]
            exact z6
          · obtain ⟨d6, f6, r6, rs6, z1, z2, z3, z4⟩ := hst6
            have kt := keepT (o' := .lst ((actsM pl.rules st i).1.map sV ++ [sV (actM pl.rules (actsM pl.rules st i).2 i).1])) (s6 _ _ hw5) (fun xs q => by cases q)
            exact ⟨d6, f6, r6, rs6, by rw [upd_ne (ne_of z1 (s6 _ _ hw5) (by intro q; cases q))]; exact z1, kt _ _ z2, kt _ _ z3, Paired.mapP z4 fun a r q => kt _ _ q⟩
      · rintro σ H5 ⟨sb, o4, o5, rfl, s5, hw5, hsw5, hst5⟩
        rw [elen] at hw5 hst5
        refine ⟨_, rfl, _, rfl, wl, _, rfl, .inl ⟨SqL.of hw5, fun wt nwt => ?_⟩⟩
        have s6 := sameUpd (o := .tup ((actsM pl.rules st m).1.map sV)) (Same.refl H5) nwt
        refine ⟨_, rfl, ?_⟩
        intro x dx0 nx ndx ne0
        refine init_at (names := ["swept", "words", "state"]) rfl nx ndx fun H7 sm7 hx => ⟨rfl, ?_⟩
        obtain ⟨d7, hd7⟩ := hx
        have em : nextM pl.rules st = ⟨st.robots.map (·.1), (actsM pl.rules st m).1, (actsM pl.rules st m).2⟩ := by
          unfold nextM
          rw [hw.ro]
        refine k x H7 (s5.trans (s6.trans sm7)) ?_
        rw [em]
        exact ⟨d7, sw, wt, sb, hd7, hsw5.mono fun _ z => sm7 _ _ (s6 _ _ z), sm7 _ _ upd_same, hst5.same (s6.trans sm7)⟩
end
end Sw

end

section
set_option maxRecDepth 100000
set_option maxHeartbeats 400000
/-! Story: made -/
namespace Sw
open PySem PySem.Spec PyProof.Rows L2 SwA
theorem ps_no {X : Cx} {st : Stmt} : PS X st (fun _ _ _ => False) := ⟨fun pins s σ H D I h => h.elim⟩
/-- what never changes -/
def FixS (K : PySem.W.Frag) : HO → Prop
  | .tup _ => True
  | .dT _ => True
  | .frz _ _ => True
  | .ins C _ _ => C ≠ He.ga K "Story"
  | _ => False
def FzS (K : PySem.W.Frag) (H H' : Hp) : Prop := ∀ a o, H a = some o → FixS K o → H' a = some o
theorem FzS.put {K : PySem.W.Frag} {H : Hp} {x : Addr} {o o' : HO} (hx : H x = some o) (nf : ¬ FixS K o) : FzS K H (upd H x o') := fun a u e f => by
  rw [upd_ne (ne_of e hx (fun q => nf (q ▸ f)))]
  exact e
structure ApS (K : PySem.W.Frag) : Prop where
  st : He.ga K "State" ≠ He.ga K "Story"
  pl : He.ga K "Plan" ≠ He.ga K "Story"
  tk : He.ga K "Tick" ≠ He.ga K "Story"
section
variable {K : PySem.W.Frag} {H H' : Hp}
theorem StateAt.fzS (A : ApS K) {a : Addr} {st : MSt} (s : FzS K H H') (h : StateAt K H a st) : StateAt K H' a st :=
  let ⟨dx, fa, ra, ras, e1, e2, e3, e4⟩ := h
  ⟨dx, fa, ra, ras, s _ _ e1 A.st, s _ _ e2 trivial, s _ _ e3 trivial, Paired.mapP e4 fun _ _ q => s _ _ q trivial⟩
theorem TickAt.fzS (A : ApS K) {a : Addr} {t : TickM} (s : FzS K H H') (h : TickAt K H a t) : TickAt K H' a t :=
  let ⟨dx, sw, wo, sa, e1, e2, e3, e4⟩ := h
  ⟨dx, sw, wo, sa, s _ _ e1 A.tk, e2.mono fun _ z => s _ _ z trivial, s _ _ e3 trivial, e4.fzS A s⟩
theorem PlanAt.fzS (A : ApS K) {a : Addr} {pl : Plan} (s : FzS K H H') (h : PlanAt K H a pl) : PlanAt K H' a pl := by
  obtain ⟨dx, sa, ma, fa, ra, rd, ras, e1, e2, e3, e4, e5, e6, kvs, e7, e8⟩ := h
  exact ⟨dx, sa, ma, fa, ra, rd, ras, s _ _ e1 A.pl, e2.mono fun _ z => s _ _ z trivial, e3.mono fun _ z => s _ _ z trivial, s _ _ e4 trivial, s _ _ e5 trivial, Paired.mapP e6 fun _ _ q => s _ _ q trivial, kvs, s _ _ e7 trivial, Paired.mapP e8 fun _ _ q => q.mono fun _ _ z => s _ _ z trivial⟩
end
abbrev stoFs (a b : V) : List (Str × V) := [("ticks", a), ("start", b)]
theorem lo_ticks {a b : V} : List.lookup ("ticks" : Str) (stoFs a b) = some a := by kernel_rfl
theorem lo_start {a b : V} : List.lookup ("start" : Str) (stoFs a b) = some b := by kernel_rfl
theorem put_s1 (a : V) : putF "ticks" a [] = ([("ticks", a)] : List (Str × V)) := by kernel_rfl
theorem put_s2 (a b : V) : putF "start" b [("ticks", a)] = stoFs a b := by kernel_rfl
theorem put_s3 (a b c : V) : putF "start" c (stoFs a b) = stoFs a c := by kernel_rfl
def ticksL (pl : Plan) (n : Nat) : List TickM := (List.range n).map (tkN pl)
/-- a finished story -/
def StoryAt (K : PySem.W.Frag) (H : Hp) (a : Addr) (pl : Plan) (n s : Nat) : Prop := ∃ (dx tl : Addr) (tas : List Addr), H a = some (.ins (He.ga K "Story") dx (stoFs (.ref tl) (.int s))) ∧ H tl = some (.lst (tas.map V.ref)) ∧ Paired (TickAt K H) tas (ticksL pl n) ∧ Rep (stN pl) n s ∧ n ≤ 20000
theorem StoryAt.same {K : PySem.W.Frag} {H H' : Hp} {a : Addr} {pl : Plan} {n s : Nat} (h : StoryAt K H a pl n s) (m : Same H H') : StoryAt K H' a pl n s :=
  let ⟨dx, tl, tas, e1, e2, e3, e4⟩ := h
  ⟨dx, tl, tas, m _ _ e1, m _ _ e2, Paired.mapP e3 fun _ _ q => q.same m, e4⟩
theorem hu9_of {A : Around} {k : Nat} (hr : Room k A) : A.units + 9 < cLine := by
  have := hr.units
  omega
structure StoT (K : PySem.W.Frag) (mg : Str → Option Value) : Prop where
  m : MachT K mg
  ap : ApS K
  key : PrT K "State" "key" "State.key" s_State_key
  MAX : ∃ t, mg "MAX_STATES" = some (.int 20000 t)
  sto : MkC K mg "Story" ["ticks", "start"]
  d_sto : FD K ("Story", some "__init__") "__init__" "Story.__init__" s_Story_init
section
variable {P : Program} {w : World} {K : PySem.W.Frag} {mg : Str → Option Value} {base : Heap}
def spKey (K : PySem.W.Frag) : Sp := fun vs H Q _ => ∃ (sa : Addr) (st : MSt), vs = [.ref sa] ∧ StateAt K H sa st ∧ ∀ (b : Addr) (H' : Hp), H b = none → Same H H' → KeyN H' (keyS st) b → Q (.ref b) H'
theorem sc_key : FnScope ["self"] ["self"] (defScope s_State_key) := ⟨rfl, rfl, rfl, by decide +kernel, rfl, by decide +kernel, by decide +kernel⟩
theorem nk_nums {H : Hp} : ∀ l : List Nat, NkAll H (l.map fun n : Nat => .num n) (l.map fun n : Nat => V.int n)
  | [] => .nil
  | _ :: l => .cons (.int _) (nk_nums l)
theorem nk_robs {H : Hp} : ∀ {ras : List Addr} {rs : List Rob}, Paired (Rob3At H) ras rs → NkAll H (rs.map robK) (ras.map V.ref)
  | _, _, .nil => .nil
  | _, _, .cons h t => .cons (.tup h (.cons (.int _) (.cons (.bl _) (.cons (.int _) .nil)))) (nk_robs t)
theorem ok_key (T : StoT K mg) : FnX P w K mg base CX0 1 (He5.wf K (He.ga K "State") "property" "key") ["self"] (spKey K) := by
  obtain ⟨fd, F⟩ := T.key.d
  refine ⟨fd, F.ok sc_key (fun vs H Q E h => ?_) (fun cdv A outer s H vs Q E hr h => ?_), F.bindsN fun _ _ _ _ _ _ us hl => match us, hl with | [_], _ => rfl⟩
  · obtain ⟨sa, st, rfl, _⟩ := h
    rfl
  · obtain ⟨sa, st, rfl, hS, k⟩ := h
    refine ⟨_, PSs.nox (pss_one (ps_ret (pe_tup (pa_cons (pe_fld (pv 0) rfl) (pa_cons (pe_fld (pv 0) rfl) pa_nil))))), ?_⟩
    obtain ⟨dx, fa, ra, ras, e1, e2, e3, e4⟩ := id hS
    refine ⟨_, rfl, sa, _, dx, _, _, rfl, e1, T.m.state.c, T.m.state.n _ (by simp), ls_floor, _, rfl, sa, _, dx, _, _, rfl, e1, T.m.state.c, T.m.state.n _ (by simp), ls_robots, (by show 2 ≤ sizeLine; decide), fun t nt => ?_⟩
    have s1 := sameUpd (o := .tup [.ref fa, .ref ra]) (Same.refl H) nt
    exact k t _ nt s1 ⟨.tup upd_same (.cons (.tup (s1 _ _ e2) (nk_nums _)) (.cons (.tup (s1 _ _ e3) (nk_robs (Paired.mapP e4 fun _ _ q => s1 _ _ q))) .nil)), depth_keyS st⟩
/-- while the story is told: n ticks so far -/
structure Tell (P : Program) (w : World) (K : PySem.W.Frag) (H0 H : Hp) (p dx tl sd pa sa : Addr) (tas : List Addr) (kvs : List KvN) (pl : Plan) (n : Nat) : Prop where
  sm : Same H0 H
  ob : H p = some (.ins (He.ga K "Story") dx (stoFs (.ref tl) .non))
  li : H tl = some (.lst (tas.map V.ref))
  di : DictN P w H sd kvs
  pn : PlanAt K H pa pl
  st : StateAt K H sa (stN pl n)
  ti : Paired (TickAt K H) tas (ticksL pl n)
  se : SeenI (stN pl) n kvs
  nd : ∀ i j, i < j → j < n → stN pl i ≠ stN pl j
theorem Tell.same {H0 H H' : Hp} {p dx tl sd pa sa : Addr} {tas : List Addr} {kvs : List KvN} {pl : Plan} {n : Nat} (h : Tell P w K H0 H p dx tl sd pa sa tas kvs pl n) (s : Same H H') : Tell P w K H0 H' p dx tl sd pa sa tas kvs pl n :=
  ⟨h.sm.trans s, s _ _ h.ob, s _ _ h.li, h.di.same s, h.pn.same s, h.st.same s, Paired.mapP h.ti fun _ _ q => q.same s, h.se, h.nd⟩
def spStory (K : PySem.W.Frag) : Sp := fun vs H Q _ => ∃ (H0 : Hp) (p dx pa : Addr) (pl : Plan), vs = [.ref p, .ref pa] ∧ H p = some (.ins (He.ga K "Story") dx []) ∧ Same H0 H ∧ H0 p = none ∧ PlanAt K H0 pa pl ∧ (∀ r ∈ pl.robots, r.1 < pl.floor.length) ∧ pl.floor.length ≤ 1000 ∧ pl.robots.length ≤ 1000 ∧ Early pl 20000 ∧
  ∀ (n s : Nat) (H' : Hp), Same H0 H' → StoryAt K H' p pl n s → Q .non H'
abbrev siN : List Str := ["self", "parsed", "state", "seen"]
theorem sc_story : FnScope siN ["self", "parsed"] (defScope s_Story_init) := ⟨rfl, rfl, rfl, by decide +kernel, rfl, by decide +kernel, by decide +kernel⟩
theorem ok_story (T : StoT K mg) : FnE P w K mg base CX0 5 ("Story", some "__init__") ["self", "parsed"] (spStory K) := by
  obtain ⟨fd, F⟩ := T.d_sto
  obtain ⟨fdF, GF, bF, kF⟩ := ok_first_state (P := P) (w := w) (base := base) T.m
  obtain ⟨fdN, GN, bN, kN⟩ := ok_next_tick (P := P) (w := w) (base := base) T.m
  obtain ⟨fdK, GK, bK⟩ := ok_key (P := P) (w := w) (base := base) T
  obtain ⟨tMX, mMX⟩ := T.MAX
  refine ⟨fd, F.ok sc_story (fun vs H Q E h => ?_) (fun cdv A outer s H vs Q E hr h => ?_), F.bindsN fun _ _ _ _ _ _ us hl => match us, hl with | [_, _], _ => rfl, F.kp⟩
  · obtain ⟨H0, p, dx, pa, pl, rfl, _⟩ := h
    rfl
  · obtain ⟨H0, p, dx, pa, pl, rfl, hp, sm, n0p, hpl, hrt, h1000, h1000r, hea, k⟩ := h
    have hr2 : Room 2 _ := hr.mono (by decide)
    have hr3 : Room 3 _ := hr.mono (by decide)
    have hr4 : Room 4 _ := hr.mono (by decide)
    refine ⟨_, PSs.nox (pss_cons (ps_fld (pv 0) (pe_lst pa_nil) rfl)
      (pss_cons (ps_fld (pv 0) pe_non rfl)
      (pss_cons (ps_par (i := 2) (j := 3) (by rfl) sc_story.nd rfl rfl (by decide) rfl rfl (pa_cons (pe_call GF hr3 rfl T.m.first_state.g kF bF .nil pass0 (pa_cons (pv 1) pa_nil)) (pa_cons (pe_dnewN (P := P) (w := w) rfl rfl) pa_nil)) (by rfl))
      (pss_one (ps_while PassesOwn.never (pt_cmpR op_isN (pe_fld (pv 0) rfl) pe_non (nomark _))
        (pss_one (ps_if (pt_cmp (pc_nin (P := P) (w := w) rfl rfl (hu9_of hr) (pe_prop (pv 2) T.m.state.c T.key.p GK hr2 bK .nil pass0 rfl) (pv 3)))
          (pss_one (ps_fld (pv 0) (pe_nget (P := P) (w := w) rfl rfl (hu9_of hr) (pv 3) (pe_prop (pv 2) T.m.state.c T.key.p GK hr2 bK .nil pass0 rfl) (fun _ _ => rfl)) rfl))
          (pss_cons (ps_if (pt_cmpR op_eq (pe_callB call_len_seq (by rfl) T.m.lo.p.l.len boot_len (pa_cons (pe_fld (pv 0) rfl) pa_nil)) (pe_glob (v := .int 20000) rfl mMX ⟨_, rfl⟩) (nomark _))
            (pss_one ps_no) pss_nil)
          (pss_cons (ps_nput (P := P) (w := w) rfl rfl (hu9_of hr) (pv 3) (pe_prop (pv 2) T.m.state.c T.key.p GK hr2 bK .nil pass0 rfl) (pe_callB call_len_seq (by rfl) T.m.lo.p.l.len boot_len (pa_cons (pe_fld (pv 0) rfl) pa_nil)) rfl)
          (pss_cons (ps_expr (pe_bm PySem.F.plainAttrs_list PySem.F.slot_list_append PySem.F.type_list_append mt_append (pe_fld (pv 0) rfl) (pa_cons (pe_call GN hr4 rfl T.m.next_tick.g kN bN .nil pass0 (pa_cons (pv 1) (pa_cons (pv 2) pa_nil))) pa_nil)))
          (pss_one (ps_set (i := 2) sc_story.nd rfl (.inl rfl) (pe_fld (pe_ix ix_list (pe_fld (pv 0) rfl) (pe_un un_neg pe_int) (fun _ _ => rfl)) rfl))))))))))))), ?_⟩
    refine ⟨(by show 0 ≤ sizeLine; decide), fun tl ntl => ?_⟩
    have ptl := ne_of_none hp ntl
    have n0tl := sm.free ntl
    have s1 := sameUpd (o := .lst []) (Same.refl H) ntl
    have htl := @upd_same H tl (.lst [])
    replace hp := s1 _ _ hp
    replace sm := sm.trans s1
    generalize upd H tl (.lst []) = H1 at *
    refine ⟨_, rfl, p, _, dx, _, rfl, hp, T.sto.c, T.sto.n _ (by simp), lnZ ln0, ?_⟩
    rw [put_s1]
    replace sm := sameUpd (o := .ins (He.ga K "Story") dx [("ticks", .ref tl)]) sm n0p
    replace htl : (upd H1 p (.ins (He.ga K "Story") dx [("ticks", .ref tl)])) tl = _ := (upd_ne (Ne.symm ptl)).trans htl
    replace hp := @upd_same H1 p (.ins (He.ga K "Story") dx [("ticks", .ref tl)])
    generalize upd H1 p (.ins (He.ga K "Story") dx [("ticks", .ref tl)]) = H2 at *
    refine ⟨_, rfl, p, _, dx, _, rfl, hp, T.sto.c, T.sto.n _ (by simp), lnZ (lnS ln0), ?_⟩
    rw [put_s2]
    replace sm := sameUpd (o := .ins (He.ga K "Story") dx (stoFs (.ref tl) .non)) sm n0p
    replace htl : (upd H2 p (.ins (He.ga K "Story") dx (stoFs (.ref tl) .non))) tl = _ := (upd_ne (Ne.symm ptl)).trans htl
    replace hp := @upd_same H2 p (.ins (He.ga K "Story") dx (stoFs (.ref tl) .non))
    generalize upd H2 p (.ins (He.ga K "Story") dx (stoFs (.ref tl) .non)) = H3 at *
    refine ⟨_, rfl, pa, pl, rfl, hpl.same sm, by omega, fun sa0 H4 nsa s4 hst => ?_⟩
    replace sm := sm.trans s4
    replace htl := s4 _ _ htl
    replace hp := s4 _ _ hp
    intro sd nsd
    have n0sd := sm.free nsd
    have s5 := sameUpd (o := DNo P w sd []) (Same.refl H4) nsd
    have hsd := @upd_same H4 sd (DNo P w sd [])
    replace hp := s5 _ _ hp
    replace htl := s5 _ _ htl
    replace sm := sm.trans s5
    replace hst := hst.same s5
    generalize upd H4 sd (DNo P w sd []) = H5 at *
    refine ⟨_, _, rfl, ?_⟩
    have T0 : Tell P w K H0 H5 p dx tl sd pa sa0 [] [] pl 0 := ⟨sm, hp, htl, ⟨hsd, fun x hx => by cases hx⟩, hpl.same sm, hst, .nil, rfl, fun i j _ hj => by omega⟩
    have hlt : ∀ {n : Nat}, (∀ i j, i < j → j < n → stN pl i ≠ stN pl j) → n ≤ 20000 := fun {n} nd => by
      obtain ⟨i, j, h1, h2, h3⟩ := hea
      rcases Nat.lt_or_ge j n with z | z
      · exact absurd h3 (nd i j h1 z)
      · omega
    refine ⟨fun m σ Hx => (∃ (sa : Addr) (tas : List Addr) (kvs : List KvN) (n : Nat), σ = [some (.ref p), some (.ref pa), some (.ref sa), some (.ref sd)] ∧ Tell P w K H0 Hx p dx tl sd pa sa tas kvs pl n ∧ m = 20001 - n) ∨
      ∃ (sa : Addr) (n s : Nat), σ = [some (.ref p), some (.ref pa), some (.ref sa), some (.ref sd)] ∧ Same H0 Hx ∧ StoryAt K Hx p pl n s ∧ m = 0, ⟨20001, .inl ⟨sa0, [], [], 0, rfl, T0, rfl⟩⟩, ?_⟩
    rintro m σ Hx (⟨sa, tas, kvs, n, rfl, t, rfl⟩ | ⟨sa, n, s2, rfl, sm, hS, rfl⟩)
    rotate_left
    · obtain ⟨ds, tl2, tas, e1, _⟩ := id hS
      refine ⟨_, rfl, p, _, ds, _, _, rfl, e1, T.sto.c, T.sto.n _ (by simp), lo_start, rfl, _, rfl, ?_⟩
      exact k n s2 Hx sm hS
    have hn := hlt t.nd
    refine ⟨_, rfl, p, _, dx, _, _, rfl, t.ob, T.sto.c, T.sto.n _ (by simp), lo_start, rfl, _, rfl, ?_⟩
    refine ⟨fun σ' H' => ∃ m', m' < 20001 - n ∧ ((∃ (sa : Addr) (tas : List Addr) (kvs : List KvN) (n : Nat), σ' = [some (.ref p), some (.ref pa), some (.ref sa), some (.ref sd)] ∧ Tell P w K H0 H' p dx tl sd pa sa tas kvs pl n ∧ m' = 20001 - n) ∨
      ∃ (sa : Addr) (n s : Nat), σ' = [some (.ref p), some (.ref pa), some (.ref sa), some (.ref sd)] ∧ Same H0 H' ∧ StoryAt K H' p pl n s ∧ m' = 0), fun _ _ z => z, ?_⟩
    obtain ⟨ds, fa, ra, ras, q1, _⟩ := id t.st
    refine ⟨_, rfl, sa, ds, _, rfl, q1, sa, _, rfl, t.st, fun b H6 nb s6 hk => ?_⟩
    have t6 := t.same s6
    refine ⟨_, rfl, sd, kvs, _, b, rfl, rfl, t6.di, hk, ?_⟩
    by_cases hse : ∃ s, s < n ∧ stN pl s = stN pl n
    · obtain ⟨s2, hs2, es⟩ := hse
      have hit := t.se.hit t.nd hs2 es
      rw [hit]
      refine ⟨_, rfl, iteT ?_⟩
      obtain ⟨ds, fa, ra, ras, q1, _⟩ := id t6.st
      refine ⟨_, rfl, _, rfl, sa, ds, _, rfl, q1, sa, _, rfl, t6.st, fun b2 H7 nb2 s7 hk2 => ?_⟩
      have t7 := t6.same s7
      refine ⟨sd, kvs, _, b2, _, rfl, rfl, t7.di, hk2, hit, ?_⟩
      refine ⟨_, rfl, p, _, dx, _, rfl, t7.ob, T.sto.c, T.sto.n _ (by simp), (by show 2 < 1000; decide), ?_⟩
      rw [put_s3]
      have fz := FzS.put (K := K) (o' := .ins (He.ga K "Story") dx (stoFs (.ref tl) (.int s2))) t7.ob (fun q => q rfl)
      refine ⟨0, by omega, .inr ⟨sa, n, s2, rfl, sameUpd t7.sm n0p, ⟨dx, tl, tas, upd_same, (upd_ne (Ne.symm ptl)).trans t7.li, Paired.mapP t7.ti fun _ _ q => q.fzS T.ap fz, ⟨hs2, es.symm, t.nd⟩, hn⟩, rfl⟩⟩
    · have hno : ∀ i < n, stN pl i ≠ stN pl n := fun i hi z => hse ⟨i, hi, z⟩
      have miss := t.se.miss hno
      rw [miss]
      refine ⟨_, rfl, iteF ?_⟩
      have hn2 : n ≠ 20000 := fun z => by
        obtain ⟨i, j, h1, h2, h3⟩ := hea
        rcases Nat.lt_or_ge j n with y | y
        · exact t.nd i j h1 y h3
        · have : j = n := by omega
          rw [this] at h1 h3
          exact hno i h1 h3
      have htl6 := t6.ti.length
      have hlen : tas.length = n := by rw [htl6, ticksL, List.length_map, List.length_range]
      refine ⟨_, rfl, p, _, dx, _, _, rfl, t6.ob, T.sto.c, T.sto.n _ (by simp), lo_ticks, tl, _, rfl, .inl (SqL.of t6.li), rfl, _, rfl, ?_⟩
      rw [List.length_map, hlen, decide_eq_false (fun z => hn2 (by have := V.int.inj z; omega))]
      refine iteF ?_
      refine ⟨_, rfl, p, _, dx, _, _, rfl, t6.ob, T.sto.c, T.sto.n _ (by simp), lo_ticks, tl, _, rfl, .inl (SqL.of t6.li), ?_⟩
      rw [List.length_map, hlen]
      obtain ⟨ds, fa, ra, ras, q1, _⟩ := id t6.st
      refine ⟨_, rfl, _, rfl, sa, ds, _, rfl, q1, sa, _, rfl, t6.st, fun b2 H7 nb2 s7 hk2 => ?_⟩
      have t7 := t6.same s7
      have hkl : kvs.length = n := by
        have := congrArg List.length t.se
        rw [List.length_map, List.length_map, List.length_range] at this
        exact this
      refine ⟨sd, kvs, _, b2, rfl, rfl, t7.di, hk2, miss, by rw [hkl, sizeLine_eq]; omega, ?_⟩
      -- seen
      have fz := FzS.put (K := K) (o' := DNo P w sd (kvs ++ [(keyS (stN pl n), b2, V.int n)])) t7.di.1 (fun q => q)
      have psd : p ≠ sd := ne_of t7.ob t7.di.1 (fun z => nomatch z)
      have tsd : tl ≠ sd := ne_of t7.li t7.di.1 (fun z => nomatch z)
      have ob8 : (upd H7 sd (DNo P w sd (kvs ++ [(keyS (stN pl n), b2, V.int n)]))) p = _ := (upd_ne psd).trans t7.ob
      have li8 : (upd H7 sd (DNo P w sd (kvs ++ [(keyS (stN pl n), b2, V.int n)]))) tl = _ := (upd_ne tsd).trans t7.li
      have st8 := t7.st.fzS T.ap fz
      have ti8 := Paired.mapP t7.ti fun _ _ q => TickAt.fzS T.ap fz q
      have sm8 := sameUpd (o := DNo P w sd (kvs ++ [(keyS (stN pl n), b2, V.int n)])) t7.sm n0sd
      have kt : ∀ b xs, H7 b = some (.tup xs) → (upd H7 sd (DNo P w sd (kvs ++ [(keyS (stN pl n), b2, V.int n)]))) b = some (.tup xs) := fun b xs e => fz _ _ e trivial
      have di8 : DictN P w (upd H7 sd (DNo P w sd (kvs ++ [(keyS (stN pl n), b2, V.int n)]))) sd (kvs ++ [(keyS (stN pl n), b2, V.int n)]) := ⟨upd_same, fun x hx => by
        rcases List.mem_append.mp hx with z | z
        · exact (t7.di.2 x z).keep kt
        · rw [List.mem_singleton.mp z]
          exact hk2.keep kt⟩
      generalize upd H7 sd (DNo P w sd (kvs ++ [(keyS (stN pl n), b2, V.int n)])) = H8 at *
      -- the tick
      refine ⟨_, rfl, p, _, dx, _, _, rfl, ob8, T.sto.c, T.sto.n _ (by simp), lo_ticks, .inl ⟨rfl, _, SqL.of li8⟩, _, rfl, _, rfl, pa, sa, _, _, pl, _, rfl, hpl.same sm8, st8, st_wf hrt n, h1000, h1000r, fun ta H9 s9 htk => ?_⟩
      replace ob8 := s9 _ _ ob8
      replace li8 := s9 _ _ li8
      replace ti8 := Paired.mapP ti8 fun _ _ q => TickAt.same s9 q
      replace sm8 := sm8.trans s9
      replace di8 := di8.same s9
      refine ⟨tl, _, _, rfl, rfl, li8, by rw [List.length_map, hlen, sizeLine_eq]; omega, ?_⟩
      have fz2 := FzS.put (K := K) (o' := .lst (tas.map V.ref ++ [V.ref ta])) li8 (fun q => q)
      have ob9 : (upd H9 tl (.lst (tas.map V.ref ++ [V.ref ta]))) p = _ := (upd_ne ptl).trans ob8
      have li9 := @upd_same H9 tl (.lst (tas.map V.ref ++ [V.ref ta]))
      have ti9 := Paired.mapP ti8 fun _ _ q => TickAt.fzS T.ap fz2 q
      have sm9 := sameUpd (o := .lst (tas.map V.ref ++ [V.ref ta])) sm8 n0tl
      have di9 := di8.keep (fun b xs e => fz2 _ _ e trivial) (upd_ne (o := .lst (tas.map V.ref ++ [V.ref ta])) (Ne.symm tsd))
      replace htk := htk.fzS T.ap fz2
      generalize upd H9 tl (.lst (tas.map V.ref ++ [V.ref ta])) = H10 at *
      obtain ⟨dt, sw, wo, sb, w1, w2, w3, w4⟩ := id htk
      have hat : atI (tas.map V.ref ++ [V.ref ta]) (-1) = some (V.ref ta) := by
        unfold atI ixN
        rw [if_neg (by decide), if_pos (by rw [List.length_append, List.length_singleton]; omega)]
        have e : ((-1 : Int) + ((tas.map V.ref ++ [V.ref ta]).length : Nat)).toNat = (tas.map V.ref).length := by
          rw [List.length_append, List.length_singleton]
          omega
        rw [e]
        simp
      refine ⟨_, rfl, p, _, dx, _, _, rfl, ob9, T.sto.c, T.sto.n _ (by simp), lo_ticks, _, rfl, tl, _, _, _, rfl, rfl, SqL.of li9, hat, ta, _, dt, _, _, rfl, w1, T.m.tick.c, T.m.tick.n _ (by simp), lt_state, ?_⟩
      refine ⟨20001 - (n + 1), by omega, .inl ⟨sb, tas ++ [ta], _, n + 1, rfl, ⟨sm9, ob9, by rw [li9, List.map_append]; rfl, di9, hpl.same sm9, w4, ?_, t.se.more, ?_⟩, rfl⟩⟩
      · unfold ticksL
        rw [List.range_succ, List.map_append]
        exact paired_append ti9 (.cons htk .nil)
      · intro i j hi hj
        rcases Nat.lt_or_ge j n with z | z
        · exact t.nd i j hi z
        · have : j = n := by omega
          rw [this]
          exact hno i (by omega)
end
end Sw

end

section
set_option maxRecDepth 100000
set_option maxHeartbeats 4000000
/-! load, where all is well -/
namespace Sw
open PySem PySem.Spec PyProof.Rows L2 SwA
theorem FnE.calmG {P : Program} {w : World} {K : PySem.W.Frag} {mg : Str → Option Value} {base : Heap} {k : Nat} {p : Str × Option Str} {ps : List Str} {sp : Sp} (h : FnE P w K mg base (L2.CX P w) k p ps sp) :
    FnE P w K mg base CX0 k p ps (fun vs H Q _ => sp vs H Q fun _ _ _ => False) := by
  obtain ⟨fd, G, b, q⟩ := h
  refine ⟨fd, ⟨fun vs H Q E z => G.len vs H Q _ z, fun A outer s H args us vs Q E hr he hb hv hs => codeAny_mono (G.run A outer s H args us vs Q _ hr he hb hv hs) fun r s' z => ?_⟩, b, q⟩
  match r, z with
  | .ok (.ret u), z => exact z
  | .error e, ⟨_, _, _, _, _, _, _, _, _, _, _, _, f⟩ => exact f.elim
/-- the text is read as the plan -/
def Reads (text : Cs) (pl : Plan) : Prop := text.length ≤ 90000 ∧ ∃ n s, loads text = .ok (n, s) ∧ s.faults = [] ∧ planOf n s = pl
theorem FnE.impS {P : Program} {w : World} {K : PySem.W.Frag} {mg : Str → Option Value} {base : Heap} {CX : CXT} {k : Nat} {p : Str × Option Str} {ps : List Str} {sp sp' : Sp} (h : FnE P w K mg base CX k p ps sp) (i : ∀ vs H Q E, sp' vs H Q E → sp vs H Q E) : FnE P w K mg base CX k p ps sp' := by
  obtain ⟨fd, G, b, q⟩ := h
  exact ⟨fd, G.imp i, b, q⟩
section
variable {P : Program} {w : World} {K : PySem.W.Frag} {mg : Str → Option Value} {base : Heap}
def spRead (K : PySem.W.Frag) : Sp := fun vs H Q _ => ∃ (text : Cs) (pl : Plan), vs = [sV text] ∧ Reads text pl ∧ ∀ (a : Addr) (H' : Hp), H a = none → Same H H' → PlanAt K H' a pl → Q (.ref a) H'
theorem ok_read (T : LoadT K mg) : FnE P w K mg base CX0 8 ("load", none) ["plan"] (spRead K) := by
  refine ((ok_load (P := P) (w := w) (base := base) T).calmG).impS fun vs H Q E ⟨text, pl, e, ⟨hl, n, s, h1, h2, h3⟩, k⟩ => ⟨text, e, hl, fun n2 s2 h => ?_, fun l c h => by rw [h1] at h; cases h⟩
  rw [h1] at h
  cases h
  rw [h3]
  exact ⟨h2, k⟩
end
end Sw

end

section
set_option maxRecDepth 100000
set_option maxHeartbeats 4000000
/-! Story: size, happens -/
namespace Sw
open PySem PySem.Spec PyProof.Rows L2 SwA
structure HapT (K : PySem.W.Frag) (mg : Str → Option Value) : Prop where
  s : StoT K mg
  size : PrT K "Story" "size" "Story.size" s_Story_size
  happens : MeT K "Story" "happens" "Story.happens" s_Story_happens
theorem story_at {K : PySem.W.Frag} {H1 : Hp} {pa x dx : Addr} {pl : Plan} {Q : VK} {E : XK} (hpl : PlanAt K H1 pa pl) (hr : ∀ r ∈ pl.robots, r.1 < pl.floor.length) (hn : pl.floor.length ≤ 1000) (hm : pl.robots.length ≤ 1000) (hea : Early pl 20000) (nx : H1 x = none) (ndx : H1 dx = none)
    (k : ∀ (n s : Nat) (H' : Hp), Same H1 H' → StoryAt K H' x pl n s → Q .non H') : spStory K [.ref x, .ref pa] (upd (upd H1 dx (.own x)) x (.ins (He.ga K "Story") dx [])) Q E :=
  ⟨H1, x, dx, pa, pl, rfl, upd_same, sameUpd (sameUpd (Same.refl H1) ndx) nx, nx, hpl, hr, hn, hm, hea, k⟩
theorem story_wf {K : PySem.W.Frag} {H1 : Hp} {pa x dx : Addr} {pl : Plan} {Q : VK} {E : XK} (hpl : PlanAt K H1 pa pl) (wf : WfP pl) (hea : Early pl 20000) (nx : H1 x = none) (ndx : H1 dx = none)
    (k : ∀ (n s : Nat) (H' : Hp), Same H1 H' → StoryAt K H' x pl n s → Q .non H') : spStory K [.ref x, .ref pa] (upd (upd H1 dx (.own x)) x (.ins (He.ga K "Story") dx [])) Q E :=
  story_at hpl wf.rt (Nat.le_trans wf.n16 (by decide)) (Nat.le_trans wf.r3 (by decide)) hea nx ndx k
theorem lo_no_happens {a b : V} : List.lookup ("happens" : Str) (stoFs a b) = none := by kernel_rfl
theorem lo_no_count {a b : V} : List.lookup ("count" : Str) (stoFs a b) = none := by kernel_rfl
section
variable {P : Program} {w : World} {K : PySem.W.Frag} {mg : Str → Option Value} {base : Heap}
def spSize (K : PySem.W.Frag) : Sp := fun vs H Q _ => ∃ (a : Addr) (pl : Plan) (n s : Nat), vs = [.ref a] ∧ StoryAt K H a pl n s ∧ Q (.int ((n : Int) - (s : Int))) H
theorem sc_size : FnScope ["self"] ["self"] (defScope s_Story_size) := ⟨rfl, rfl, rfl, by decide +kernel, rfl, by decide +kernel, by decide +kernel⟩
theorem tas_len {K : PySem.W.Frag} {H : Hp} {tas : List Addr} {pl : Plan} {n : Nat} (h : Paired (TickAt K H) tas (ticksL pl n)) : tas.length = n := by rw [h.length, ticksL, List.length_map, List.length_range]
theorem ok_size (T : HapT K mg) : FnX P w K mg base CX0 1 (He5.wf K (He.ga K "Story") "property" "size") ["self"] (spSize K) := by
  obtain ⟨fd, F⟩ := T.size.d
  refine ⟨fd, F.ok sc_size (fun vs H Q E h => ?_) (fun cdv A outer s H vs Q E hr h => ?_), F.bindsN fun _ _ _ _ _ _ us hl => match us, hl with | [_], _ => rfl⟩
  · obtain ⟨a, pl, n, s, rfl, _⟩ := h
    rfl
  · obtain ⟨a, pl, n, s2, rfl, hS, k⟩ := h
    refine ⟨_, PSs.nox (pss_one (ps_ret (pe_op op_sub (pe_callB call_len_seq (by rfl) T.s.m.lo.p.l.len boot_len (pa_cons (pe_fld (pv 0) rfl) pa_nil)) (pe_fld (pv 0) rfl)))), ?_⟩
    obtain ⟨dx, tl, tas, e1, e2, e3, e4, e5⟩ := id hS
    have hl := tas_len e3
    refine ⟨_, rfl, a, _, dx, _, _, rfl, e1, T.s.sto.c, T.s.sto.n _ (by simp), lo_ticks, tl, _, rfl, .inl (SqL.of e2), _, rfl, a, _, dx, _, _, rfl, e1, T.s.sto.c, T.s.sto.n _ (by simp), lo_start, _, _, rfl, rfl, ?_⟩
    rw [List.length_map, hl]
    exact k
def spHappens (K : PySem.W.Frag) : Sp := fun vs H Q _ => ∃ (a : Addr) (pl : Plan) (n s t : Nat), vs = [.ref a, .int t] ∧ StoryAt K H a pl n s ∧ ∀ (ta : Addr), TickAt K H ta (tkN pl t) → Q (.ref ta) H
theorem sc_happens : FnScope ["self", "tick"] ["self", "tick"] (defScope s_Story_happens) := ⟨rfl, rfl, rfl, by decide +kernel, rfl, by decide +kernel, by decide +kernel⟩
theorem ok_happens (T : HapT K mg) : FnE P w K mg base CX0 3 ("Story", some "happens") ["self", "tick"] (spHappens K) := by
  obtain ⟨fd, F⟩ := T.happens.d
  obtain ⟨fdZ, GZ, bZ⟩ := ok_size (P := P) (w := w) (base := base) T
  refine ⟨fd, F.ok sc_happens (fun vs H Q E h => ?_) (fun cdv A outer s H vs Q E hr h => ?_), F.bindsN fun _ _ _ _ _ _ us hl => match us, hl with | [_, _], _ => rfl, F.kp⟩
  · obtain ⟨a, pl, n, s, t, rfl, _⟩ := h
    rfl
  · obtain ⟨a, pl, n, s2, t, rfl, hS, k⟩ := h
    refine ⟨_, PSs.nox (pss_one (ps_ret (pe_ix ix_list (pe_fld (pv 0) rfl) (pe_ifExp (pt_cmpR op_lt (pv 1) (pe_callB call_len_seq (by rfl) T.s.m.lo.p.l.len boot_len (pa_cons (pe_fld (pv 0) rfl) pa_nil)) (nomark _)) (pv 1) (pe_op op_add (pe_fld (pv 0) rfl) (pe_op op_mod (pe_op op_sub (pv 1) (pe_fld (pv 0) rfl)) (pe_prop (pv 0) T.s.sto.c T.size.p GZ hr bZ .nil pass0 rfl)))) (fun _ _ => rfl)))), ?_⟩
    obtain ⟨dx, tl, tas, e1, e2, e3, e4, e5⟩ := id hS
    have hl := tas_len e3
    have hlt := e4.lt
    have hfo : ∀ i : Nat, i = foldT n s2 t → atI (tas.map V.ref) (i : Int) = some (V.ref (tas.getD i 0)) ∧ TickAt K H (tas.getD i 0) (tkN pl t) := fun i hi => by
      have hi2 : i < n := by rw [hi]; exact foldT_lt hlt
      have hi3 : i < tas.length := by omega
      have eg : tas[i]? = some (tas.getD i 0) := by rw [List.getD_eq_getElem?_getD, List.getElem?_eq_getElem hi3]; rfl
      refine ⟨atI_nat (by rw [List.getElem?_map, eg]; rfl), ?_⟩
      obtain ⟨y, hy, hT⟩ := Paired_idx e3 eg
      unfold ticksL at hy
      rw [List.getElem?_map, List.getElem?_range hi2] at hy
      cases hy
      rw [← tk_fold e4 t, ← hi]
      exact hT
    refine ⟨_, rfl, a, _, dx, _, _, rfl, e1, T.s.sto.c, T.s.sto.n _ (by simp), lo_ticks, _, rfl, _, rfl, a, _, dx, _, _, rfl, e1, T.s.sto.c, T.s.sto.n _ (by simp), lo_ticks, tl, _, rfl, .inl (SqL.of e2), _, _, rfl, rfl, _, rfl, ?_⟩
    rw [List.length_map, hl]
    by_cases h : t < n
    · rw [decide_eq_true (show (t : Int) < (n : Nat) by omega)]
      obtain ⟨f1, f2⟩ := hfo t (by unfold foldT; rw [if_pos h])
      exact iteT ⟨_, rfl, tl, _, _, _, rfl, rfl, SqL.of e2, f1, k _ f2⟩
    · rw [decide_eq_false (show ¬ (t : Int) < (n : Nat) by omega)]
      obtain ⟨f1, f2⟩ := hfo (s2 + (t - s2) % (n - s2)) (by unfold foldT; rw [if_neg h])
      refine iteF ⟨_, rfl, a, _, dx, _, _, rfl, e1, T.s.sto.c, T.s.sto.n _ (by simp), lo_start, _, rfl, _, rfl, a, _, dx, _, _, rfl, e1, T.s.sto.c, T.s.sto.n _ (by simp), lo_start, _, _, rfl, rfl, _, rfl, a, dx, _, rfl, e1, a, pl, n, s2, rfl, hS, ?_⟩
      refine ⟨_, _, rfl, rfl, by omega, _, _, rfl, rfl, tl, _, _, _, rfl, rfl, SqL.of e2, ?_, k _ f2⟩
      rw [← f1]
      congr 1
      have e6 : ((t : Int) - (s2 : Int)) % ((n : Int) - (s2 : Int)) = (((t - s2) % (n - s2) : Nat) : Int) := by
        rw [Int.natCast_emod]
        congr 1 <;> omega
      rw [e6]
      rfl
end
end Sw

end

section
set_option maxRecDepth 100000
set_option maxHeartbeats 4000000
/-! numbers among numbers -/
namespace Sw
open PySem PySem.Spec PyProof.Rows L2 SwA
theorem in_nats {x : Nat} : ∀ {xs : List Nat}, inV (.int x) (xs.map fun n : Nat => V.int n) = decide (x ∈ xs)
  | [] => rfl
  | y :: ys => by
    have ih := in_nats (x := x) (xs := ys)
    unfold inV at ih ⊢
    rw [List.map_cons, List.any_cons, ih]
    by_cases h : x = y
    · subst h
      simp [eqV]
    · have : (y == x) = false := by simp; omega
      simp [eqV, h]
      omega
theorem flat_nats : ∀ {xs : List Nat}, (xs.map fun n : Nat => V.int n).all flatV = true
  | [] => rfl
  | _ :: ys => flat_nats (xs := ys)
theorem valV_at2 {kvs : List (Key × V)} {k j : Nat} {y : V} : valV (putK kvs (.inl (k : Int)) y) (.inl (j : Int)) = if j = k then some y else valV kvs (.inl (j : Int)) := by
  rw [valV_put]
  by_cases h : j = k
  · subst h
    rw [if_pos rfl, if_pos rfl]
  · rw [if_neg h, if_neg fun z => h (by
      have : (j : Int) = (k : Int) := Sum.inl.inj z
      omega)]
end Sw

end

section
set_option maxRecDepth 100000
set_option maxHeartbeats 4000000
/-! longest_wait -/
namespace Sw
open PySem PySem.Spec PyProof.Rows L2 SwA
structure LwT (K : PySem.W.Frag) (mg : Str → Option Value) : Prop where
  h : HapT K mg
  range : mg "range" = none
  lw : DeT K mg "longest_wait" s_longest_wait
/-- ticks in which a tile is swept -/
def ticksOf (pl : Plan) (tile m : Nat) : List Nat := (List.range m).filter fun t => decide (tile ∈ (tkN pl t).swept)
/-- (wait, its first tick) of neighbours -/
def gaps : List Nat → List (Nat × Nat)
  | a :: b :: r => (b - a, a) :: gaps (b :: r)
  | _ => []
abbrev Wt := Nat × Nat × Nat
def waitsOf (pl : Plan) (tile m : Nat) : List Wt := (gaps (ticksOf pl tile m)).map fun g => (g.1, tile, g.2)
def allW (pl : Plan) (k m : Nat) : List Wt := (List.range k).flatMap fun tile => waitsOf pl tile m
def bestStep (best : Option Wt) (x : Wt) : Option Wt := match best with
  | none => some x
  | some y => if y.1 < x.1 then some x else some y
def bestW (best : Option Wt) (l : List Wt) : Option Wt := l.foldl bestStep best
def longM (pl : Plan) (n s : Nat) : Option Wt := bestW none (allW pl pl.floor.length (n + (n - s)))
theorem bestW_app (b : Option Wt) (l m : List Wt) : bestW b (l ++ m) = bestW (bestW b l) m := List.foldl_append
theorem allW_succ (pl : Plan) (k m : Nat) : allW pl (k + 1) m = allW pl k m ++ waitsOf pl k m := by
  unfold allW
  rw [List.range_succ, List.flatMap_append]
  simp
theorem gaps_len : ∀ l : List Nat, (gaps l).length = l.length - 1
  | [] => rfl
  | [_] => rfl
  | a :: b :: r => by
    have := gaps_len (b :: r)
    simp only [gaps, List.length_cons] at this ⊢
    omega
theorem gaps_at : ∀ (l : List Nat) (j a b : Nat), l[j]? = some a → l[j + 1]? = some b → (gaps l)[j]? = some (b - a, a)
  | [], j, a, b, h, _ => by simp at h
  | [x], j, a, b, h, h2 => by simp at h2
  | x :: y :: r, 0, a, b, h, h2 => by
    have h : x = a := by simpa using h
    have h2 : y = b := by simpa using h2
    subst h h2
    rfl
  | x :: y :: r, j + 1, a, b, h, h2 => gaps_at (y :: r) j a b (by simpa using h) (by simpa using h2)
/-- a wait or None in the heap -/
def WtV (H : Hp) (v : V) : Option Wt → Prop
  | none => v = .non
  | some x => ∃ p : Addr, v = .ref p ∧ H p = some (.tup [.int x.1, .int x.2.1, .int x.2.2])
theorem WtV.same {H H' : Hp} {v : V} : ∀ {o : Option Wt}, WtV H v o → Same H H' → WtV H' v o
  | none, h, _ => h
  | some _, ⟨p, e, h⟩, s => ⟨p, e, s _ _ h⟩
section
variable {P : Program} {w : World} {K : PySem.W.Frag} {mg : Str → Option Value} {base : Heap}
def spLw (K : PySem.W.Frag) : Sp := fun vs H Q _ => ∃ (text : Cs) (pl : Plan), vs = [sV text] ∧ Reads text pl ∧ WfP pl ∧ Early pl 20000 ∧
  ∀ (n s : Nat) (v : V) (H' : Hp), Rep (stN pl) n s → Same H H' → WtV H' v (longM pl n s) → Q v H'
abbrev lwN : List Str := ["plan", "parsed", "story", "best", "tile", "ticks", "tick", "place", "wait"]
theorem sc_lw : FnScope lwN ["plan"] (defScope s_longest_wait) := ⟨rfl, rfl, rfl, by decide +kernel, rfl, by decide +kernel, by decide +kernel⟩
theorem ok_lw (T : LwT K mg) : FnE P w K mg base CX0 9 ("longest_wait", none) ["plan"] (spLw K) := by
  obtain ⟨fd, F⟩ := T.lw.d
  obtain ⟨fdL, GL, bL, kL⟩ := ok_read (P := P) (w := w) (base := base) T.h.s.m.lo
  obtain ⟨fdS, GS, bS, kS⟩ := ok_story (P := P) (w := w) (base := base) T.h.s
  obtain ⟨fdH, GH, bH, kH⟩ := ok_happens (P := P) (w := w) (base := base) T.h
  obtain ⟨fdZ, GZ, bZ⟩ := ok_size (P := P) (w := w) (base := base) T.h
  refine ⟨fd, F.ok sc_lw (fun vs H Q E h => ?_) (fun cdv A outer s H vs Q E hr h => ?_), F.bindsN fun _ _ _ _ _ _ us hl => match us, hl with | [_], _ => rfl, F.kp⟩
  · obtain ⟨text, pl, rfl, _⟩ := h
    rfl
  · obtain ⟨text, pl, rfl, hR, wf, hea, k⟩ := h
    have hr2 : Room 2 _ := hr.mono (by decide)
    have hr3 : Room 3 _ := hr.mono (by decide)
    have hr6 : Room 6 _ := hr.mono (by decide)
    have hr8 : Room 8 _ := hr.mono (by decide)
    have hu := hu_of hr
    refine ⟨_, PSs.nox (pss_cons (ps_set (i := 1) sc_lw.nd rfl (.inl rfl) (pe_call GL hr8 rfl T.h.s.m.lo.g_load kL bL .nil pass0 (pa_cons (pv 0) pa_nil)))
      (pss_cons (ps_asg (pe_tup (pa_cons (pe_make T.h.s.sto.m GS hr6 rfl T.h.s.sto.g bS .nil pass0 (pa_cons (pv 1) pa_nil)) (pa_cons pe_non pa_nil)))
        (pg_tup rfl (pgs_cons (pg_name (i := 2) sc_lw.nd rfl (.inr rfl)) (pgs_cons (pg_name (i := 3) sc_lw.nd rfl (.inl rfl)) pgs_nil))))
      (pss_cons (ps_for PassesOwn.never rfl (pi_range1 (by rfl) T.range (pa_cons (pe_callB call_len_seq (by rfl) T.h.s.m.lo.p.l.len boot_len (pa_cons (pe_fld (pv 1) rfl) pa_nil)) pa_nil)) (pg_name (i := 4) sc_lw.nd rfl (.inr rfl))
        (pss_cons (ps_setLc (i := 5) (own := [("tick", 6)]) (g := (gName 6)) (tt := tTest (tOp (rIn K false) (tVar 4) (tFld K (tMeth (He.ga K "Story") "happens" (spHappens K) [] E0 (tVar 2) (tCons (tVar 6) tNil)) "swept"))) rfl sc_lw.nd rfl rfl (sw_true rfl rfl rfl (by decide +kernel)) (pi_range1 (by rfl) T.range (pa_cons (pe_op op_add (pe_callB call_len_seq (by rfl) T.h.s.m.lo.p.l.len boot_len (pa_cons (pe_fld (pv 2) rfl) pa_nil)) (pe_prop (pv 2) T.h.s.sto.c T.h.size.p GZ hr2 bZ .nil pass0 rfl)) pa_nil)) (blkOk_by (own := [("tick", 6)]) (N := lwN) (sc := defScope s_longest_wait) (by decide +kernel)) (fun _ _ _ _ _ => (pg_name (i := 6) sc_lw.nd rfl (.inl rfl))) (fun _ _ _ _ _ => (pts_one (pt_cmpR op_in_seq (pv 4) (pe_fld (pe_meth (pv 2) T.h.s.sto.c T.h.happens.m GH hr3 bH .nil pass0 (pa_cons (pv 6) pa_nil)) rfl) (by rfl)))) (fun _ _ _ _ _ => (pv 6)))
        (pss_one (ps_for PassesOwn.never rfl (pi_range1 (by rfl) T.range (pa_cons (pe_op op_sub (pe_callB call_len_seq (by rfl) T.h.s.m.lo.p.l.len boot_len (pa_cons (pv 5) pa_nil)) pe_int) pa_nil)) (pg_name (i := 7) sc_lw.nd rfl (.inl rfl))
          (pss_cons (ps_set (i := 8) sc_lw.nd rfl (.inl rfl) (pe_op op_sub (pe_ix ix_list (pv 5) (pe_op op_add (pv 7) pe_int) (fun _ _ => rfl)) (pe_ix ix_list (pv 5) (pv 7) (fun _ _ => rfl))))
          (pss_one (ps_if (PW.pt (pw_or (pt_cmpR op_isN (pv 3) pe_non (nomark _)) (pw_or1 (pt_cmpR op_gt (pv 8) (pe_ix ix_tup (pv 3) pe_int (fun _ _ => rfl)) (nomark _)))))
            (pss_one (ps_set (i := 3) sc_lw.nd rfl (.inl rfl) (pe_tup (pa_cons (pv 8) (pa_cons (pv 4) (pa_cons (pe_ix ix_list (pv 5) (pv 7) (fun _ _ => rfl)) pa_nil)))))) pss_nil)))))))
      (pss_one (ps_ret (pv 3)))))), ?_⟩
    refine ⟨_, rfl, text, pl, rfl, hR, fun pa H1 npa s1 hpl => ?_⟩
    refine ⟨_, rfl, ?_⟩
    intro y dy ny ndy ney
    refine story_wf hpl wf hea ny ndy fun n s2 H2 s12 hS => ⟨rfl, ?_⟩
    refine ⟨(by show 2 ≤ sizeLine; decide), fun t0 nt0 => ?_⟩
    have s23 := sameUpd (o := .tup [.ref y, .non]) (Same.refl H2) nt0
    have ht0 := @upd_same H2 t0 (.tup [.ref y, .non])
    generalize upd H2 t0 (.tup [.ref y, .non]) = H3 at *
    refine ⟨t0, _, rfl, SqT.of ht0, rfl, _, _, rfl, _, _, rfl, rfl, ?_⟩
    have hS3 := hS.same s23
    obtain ⟨dx, tl, tas, e1, e2, e3, e4, e5⟩ := id hS3
    have hl := tas_len e3
    have hlt := e4.lt
    have s13 := s12.trans s23
    have s03 := s1.trans s13
    obtain ⟨dp, sga, mda, fla, rba, rda, ras3, p1, p2, p3, p4, p5⟩ := id hpl
    have hn16 := wf.n16
    refine ⟨_, rfl, pa, _, dp, _, _, rfl, s13 _ _ p1, T.h.s.m.lo.plan.c, T.h.s.m.lo.plan.n _ (by simp), lpl_floor, fla, _, rfl, .inr (SqT.of (s13 _ _ p4)), _, rfl, by rw [List.length_map]; omega, by rw [List.length_map]; omega, ?_⟩
    rw [List.length_map]
    clear ht0 hS
    refine for_range (lo := 0) (n := ((pl.floor.length : Nat) : Int).toNat) (fun i σ Hx => ∃ (vb : V) (o4 o5 o7 o8 : Option V), σ = [some (sV text), some (.ref pa), some (.ref y), some vb, o4, o5, none, o7, o8] ∧ Same H3 Hx ∧ WtV Hx vb (bestW none (allW pl i (n + (n - s2))))) ⟨.non, none, none, none, none, rfl, Same.refl _, rfl⟩ ?_ ?_
    · rintro i σ Hx hi ⟨vb, o4, o5, o7, o8, rfl, sm, hvb⟩
      rw [Int.toNat_natCast] at hi
      rw [Int.zero_add, allW_succ, bestW_app]
      refine ⟨_, rfl, y, _, dx, _, _, rfl, sm _ _ e1, T.h.s.sto.c, T.h.s.sto.n _ (by simp), lo_ticks, tl, _, rfl, .inl (SqL.of (sm _ _ e2)), _, rfl, y, dx, _, rfl, sm _ _ e1, y, pl, n, s2, rfl, hS3.same sm, ?_⟩
      rw [List.length_map, hl]
      refine ⟨_, _, rfl, rfl, _, rfl, by omega, by omega, fun D nD => ?_⟩
      have em : ((n : Int) + ((n : Int) - (s2 : Int))).toNat = n + (n - s2) := by omega
      have hmm : n + (n - s2) ≤ 40000 := by omega
      refine lc_range (lo := 0) (n := ((n : Int) + ((n : Int) - (s2 : Int))).toNat) (fun j Hy => Same Hx Hy ∧ Hy D = some (.lst ((ticksOf pl i j).map fun n : Nat => V.int n))) ⟨sameUpd (Same.refl Hx) nD, upd_same⟩ ?_ ?_
      · rintro j Hy hj ⟨sy, hD⟩
        rw [em] at hj
        rw [Int.zero_add]
        have hS5 := hS3.same (sm.trans sy)
        refine ⟨rfl, _, rfl, _, rfl, y, dx, _, rfl, sy _ _ (sm _ _ e1), lo_no_happens, _, rfl, y, pl, n, s2, j, rfl, hS5, fun ta hT => ?_⟩
        obtain ⟨dt, sw, wo, sb, w1, w2, w3, w4⟩ := id hT
        refine ⟨ta, _, dt, _, _, rfl, w1, T.h.s.m.tick.c, T.h.s.m.tick.n _ (by simp), lt_swept, sw, _, rfl, .inr w2.sq, rfl, flat_nats, _, rfl, ?_⟩
        rw [if_neg (by decide), in_nats]
        have htl : (ticksOf pl i j).length ≤ j := by
          have := List.length_filter_le (fun t => decide (i ∈ (tkN pl t).swept)) (List.range j)
          rw [List.length_range] at this
          exact this
        have hts : ticksOf pl i (j + 1) = ticksOf pl i j ++ if i ∈ (tkN pl j).swept then [j] else [] := by
          unfold ticksOf
          rw [List.range_succ, List.filter_append]
          by_cases z : i ∈ (tkN pl j).swept <;> simp [z]
        by_cases hin : i ∈ (tkN pl j).swept
        · rw [decide_eq_true hin]
          refine iteT ⟨_, rfl, _, hD, by rw [List.length_map, sizeLine_eq]; omega, sameUpd sy nD, ?_⟩
          rw [upd_same, hts, if_pos hin, List.map_append]
          rfl
        · rw [decide_eq_false hin]
          refine iteF ⟨sy, ?_⟩
          rw [hts, if_neg hin, List.append_nil]
          exact hD
      · rintro Hy ⟨sy, hD⟩
        rw [em] at hD
        have htl : (ticksOf pl i (n + (n - s2))).length ≤ n + (n - s2) := by
          have := List.length_filter_le (fun t => decide (i ∈ (tkN pl t).swept)) (List.range (n + (n - s2)))
          rw [List.length_range] at this
          exact this
        have hpw : (ticksOf pl i (n + (n - s2))).Pairwise (· < ·) := List.pairwise_lt_range.filter _
        have hwl : (waitsOf pl i (n + (n - s2))).length = (ticksOf pl i (n + (n - s2))).length - 1 := by
          unfold waitsOf
          rw [List.length_map, gaps_len]
        have hwa : ∀ (j a b : Nat), (ticksOf pl i (n + (n - s2)))[j]? = some a → (ticksOf pl i (n + (n - s2)))[j + 1]? = some b → (waitsOf pl i (n + (n - s2)))[j]? = some (b - a, i, a) := fun j a b h1 h2 => by
          unfold waitsOf
          rw [List.getElem?_map, gaps_at _ _ _ _ h1 h2]
          rfl
        replace hvb := hvb.same sy
        have smy := sm.trans sy
        generalize ticksOf pl i (n + (n - s2)) = tk at *
        generalize bestW none (allW pl i (n + (n - s2))) = B0 at *
        generalize waitsOf pl i (n + (n - s2)) = ws at *
        refine ⟨_, rfl, D, _, rfl, .inl (SqL.of hD), ?_⟩
        rw [List.length_map]
        refine ⟨_, _, rfl, rfl, _, rfl, by omega, by omega, ?_⟩
        refine for_range (lo := 0) (n := ((tk.length : Int) - 1).toNat) (fun j σ Hz => ∃ (vb : V) (o7 o8 : Option V), σ = [some (sV text), some (.ref pa), some (.ref y), some vb, some (.int i), some (.ref D), none, o7, o8] ∧ Same Hy Hz ∧ WtV Hz vb (bestW B0 (ws.take j))) ⟨vb, o7, o8, rfl, Same.refl _, hvb⟩ ?_ ?_
        · rintro j σ Hz hj ⟨vb, o7, o8, rfl, sz, hvb⟩
          have hj1 : j + 1 < tk.length := by omega
          have ha : tk[j]? = some tk[j] := List.getElem?_eq_getElem (by omega)
          have hb : tk[j + 1]? = some tk[j + 1] := List.getElem?_eq_getElem hj1
          have hab : tk[j] < tk[j + 1] := (List.pairwise_iff_getElem.mp hpw) j (j + 1) (by omega) hj1 (by omega)
          have hw := hwa j _ _ ha hb
          have htake : ws.take (j + 1) = ws.take j ++ [(tk[j + 1] - tk[j], i, tk[j])] := by
            rw [List.take_succ, hw]
            rfl
          rw [htake, bestW_app]
          generalize bestW B0 (ws.take j) = B1 at *
          have ez : (0 : Int) + (j : Nat) = (j : Nat) := by omega
          rw [ez]
          have ez2 : (j : Int) + 1 = ((j + 1 : Nat) : Int) := by push_cast; rfl
          have hDz := sz _ _ hD
          have hm1 : (tk.map fun n : Nat => V.int n)[j]? = some (V.int (tk[j] : Nat)) := by rw [List.getElem?_map, ha]; rfl
          have hm2 : (tk.map fun n : Nat => V.int n)[j + 1]? = some (V.int (tk[j + 1] : Nat)) := by rw [List.getElem?_map, hb]; rfl
          refine ⟨_, rfl, _, rfl, _, _, rfl, rfl, ?_⟩
          refine ⟨D, _, (j : Int) + 1, _, rfl, rfl, SqL.of hDz, (by rw [ez2]; exact atI_nat hm2), _, rfl, _, rfl, D, _, _, _, rfl, rfl, SqL.of hDz, atI_nat hm1, _, _, rfl, rfl, ?_⟩
          dsimp only
          have ew : ((tk[j + 1] : Nat) : Int) - ((tk[j] : Nat) : Int) = ((tk[j + 1] - tk[j] : Nat) : Int) := by omega
          rw [ew]
          generalize tk[j + 1] - tk[j] = wt at *
          generalize tk[j] = a at *
          refine ⟨_, rfl, rfl, _, rfl, ?_⟩
          have fin : ∀ (Q' : Option Wt), Q' = some (wt, i, a) → ∀ q, Hz q = none → ∃ (vb' : V) (o7 o8 : Option V), [some (sV text), some (.ref pa), some (.ref y), some (.ref q), some (.int i), some (.ref D), none, some (.int (j : Int)), some (.int (wt : Int))] = [some (sV text), some (.ref pa), some (.ref y), some vb', some (.int (i : Int)), some (.ref D), none, o7, o8] ∧ Same Hy (upd Hz q (.tup [.int (wt : Int), .int (i : Int), .int (a : Int)])) ∧ WtV (upd Hz q (.tup [.int (wt : Int), .int (i : Int), .int (a : Int)])) vb' Q' := by
            rintro _ rfl q nq
            exact ⟨_, _, _, rfl, sameUpd sz (sz.free nq), q, rfl, upd_same⟩
          cases B1 with
          | none =>
            obtain rfl : vb = .non := hvb
            rw [decide_eq_true rfl]
            refine iteT (iteT ⟨_, rfl, _, rfl, _, rfl, _, rfl, D, _, _, _, rfl, rfl, SqL.of hDz, atI_nat hm1, (by show 3 ≤ sizeLine; decide), fun q nq => fin _ rfl q nq⟩)
          | some x =>
            obtain ⟨p, rfl, hp⟩ := hvb
            rw [decide_eq_false (fun z => by cases z)]
            refine iteF ⟨_, rfl, _, rfl, p, _, _, _, rfl, rfl, SqT.of hp, atI_nat (j := 0) rfl, _, _, rfl, rfl, _, rfl, ?_⟩
            by_cases hlt2 : x.1 < wt
            · rw [decide_eq_true (show ((x.1 : Nat) : Int) < (wt : Int) by omega)]
              refine iteT ⟨_, rfl, _, rfl, _, rfl, _, rfl, D, _, _, _, rfl, rfl, SqL.of hDz, atI_nat hm1, (by show 3 ≤ sizeLine; decide), fun q nq => fin _ (by show (if x.1 < wt then some (wt, i, a) else some x) = _; rw [if_pos hlt2]) q nq⟩
            · rw [decide_eq_false (show ¬ ((x.1 : Nat) : Int) < (wt : Int) by omega)]
              refine iteF ⟨_, _, _, rfl, sz, ?_⟩
              rw [show bestW (some x) [(wt, i, a)] = some x by show (if x.1 < wt then some (wt, i, a) else some x) = _; rw [if_neg hlt2]]
              exact ⟨p, rfl, hp⟩
        · rintro σ Hz ⟨vb, o7, o8, rfl, sz, hvb⟩
          refine ⟨vb, _, _, _, _, rfl, smy.trans sz, ?_⟩
          rw [List.take_of_length_le (by omega)] at hvb
          exact hvb
    · rintro σ Hx ⟨vb, o4, o5, o7, o8, rfl, sm, hvb⟩
      rw [Int.toNat_natCast] at hvb
      exact ⟨_, rfl, k n s2 vb Hx e4 (s03.trans sm) hvb⟩
end
end Sw

end

section
set_option maxRecDepth 100000
set_option maxHeartbeats 4000000
/-! check_tick, where all is well -/
namespace Sw
open PySem PySem.Spec PyProof.Rows L2 SwA
structure CkT (K : PySem.W.Frag) (mg : Str → Option Value) : Prop where
  h : HapT K mg
  MAXT : ∃ t, mg "MAX_TICK" = some (.int 1000000000000000000 t)
  ck : DeT K mg "check_tick" s_check_tick
section
variable {P : Program} {w : World} {K : PySem.W.Frag} {mg : Str → Option Value} {base : Heap}
def spCkTick (K : PySem.W.Frag) : Sp := fun vs H Q _ => ∃ (t : Nat), vs = [.int t] ∧ t ≤ 1000000000000000000 ∧ Q .non H
theorem sc_ckt : FnScope ["tick"] ["tick"] (defScope s_check_tick) := ⟨rfl, rfl, rfl, by decide +kernel, rfl, by decide +kernel, by decide +kernel⟩
theorem ok_ckt (T : CkT K mg) : FnE P w K mg base CX0 2 ("check_tick", none) ["tick"] (spCkTick K) := by
  obtain ⟨fd, F⟩ := T.ck.d
  obtain ⟨fdI, GI, bI, kI⟩ := ok_is_int_in (P := P) (w := w) (base := base) T.h.s.m
  obtain ⟨tMT, mMT⟩ := T.MAXT
  refine ⟨fd, F.ok sc_ckt (fun vs H Q E h => ?_) (fun cdv A outer s H vs Q E hr h => ?_), F.bindsN fun _ _ _ _ _ _ us hl => match us, hl with | [_], _ => rfl, F.kp⟩
  · obtain ⟨t, rfl, _⟩ := h
    rfl
  · obtain ⟨t, rfl, ht, k⟩ := h
    refine ⟨_, PSs.nox (pss_one (ps_if (pt_not (pt_val (pe_call GI hr rfl T.h.s.m.is_int_in.g kI bI .nil pass0 (pa_cons (pv 0) (pa_cons pe_int (pa_cons (pe_glob (v := .int 1000000000000000000) rfl mMT ⟨_, rfl⟩) pa_nil))))))
        (pss_one ps_no) pss_nil)), ?_⟩
    have hI : isIntIn (.int t) 0 1000000000000000000 = true := by
      unfold isIntIn
      simp
      omega
    refine ⟨_, rfl, .int t, _, 0, 1000000000000000000, rfl, .int _, ?_⟩
    rw [hI]
    exact ⟨_, rfl, k⟩
end
end Sw

end

section
set_option maxRecDepth 100000
set_option maxHeartbeats 1000000
/-! a for loop in a generator def -/
namespace L2
open PySem PySem.Spec PyProof.Rows GenW
section
variable {M : Model} {A : Around} {R : GenEnd} {Y : Protocol} {n : Nat} {s₀ : Shared} {c : Code} {fs : List Frame} {s : Shared} {env : Env}
  {K : Flow → Sem PySem.Fin} {J : Value → Sem PySem.Fin} {gd : Bool → Bool} {lv : List Value → List Value}
theorem seg_For {target iter : Expr} {body orelse : List Stmt} {pos : Pos} (hs : ∀ x, foldedSetIterable iter env x = pure x)
    (h : wpAny M (A.over c fs) (eval iter env) (fun x s₁ => wpAny M (A.over c fs) (pyIter x) (fun it s₂ => ∀ p, Seg M A R Y n s₀ (.forLoop target it body orelse env) (M.den (.forLoop target it body orelse env))
      (.ret (fun r => ((match r with | .ok f => (.pure f : Sem Flow) | .error e => .raise e).onRaise (cameBack env)).wrap K J gd lv) none (gd false) (lv []) c p [] :: fs) s₂) (fun x s' => Seg M A R Y n s₀ c (J x) fs s') s₁) (fun x s' => Seg M A R Y n s₀ c (J x) fs s') s) :
    Seg M A R Y n s₀ c ((exec (.For target iter body orelse pos) env).wrap K J gd lv) fs s := by
  rw [exec_For]
  refine seg_bind_wrap (wpAny_standAt ?_)
  refine seg_bind_wrap (wpAny_mono h (fun x s1 h1 => ?_) fun _ _ z => z)
  refine seg_bind_wrap (wpAny_of_eq (hs x) ?_)
  refine seg_bind_wrap (wpAny_standAt ?_)
  refine seg_bind_wrap (wpAny_holding (wpAny_mono h1 (fun it s2 h2 => ?_) fun _ _ z => z))
  exact seg_call h2
end
section
variable {prog : Program} {w : World} {A : Around} {R : GenEnd} {Y : Protocol} {n : Nat} {s₀ : Shared} {fs : List Frame} {s : Shared} {env : Env}
def eeOf (env : Env) (e : Value) : Sem PySem.Fin := (do noteFrame e env; theTreesLotGoes e : Sem Unit).wrap (fun _ => .raise e) .raise id id
theorem seg_forLoop {tg : Expr} {it : Value} {body : List Stmt}
    (h : wpAny (model prog w) (A.over (.forLoop tg it body [] env) fs) (pyNext it) (fun r s₁ => match r with
      | none => Seg (model prog w) A R Y n s₀ (.forLoop tg it body [] env) (.pure (.again (.block [] env))) fs s₁
      | some v => wpAny (model prog w) (A.over (.forLoop tg it body [] env) fs) (letOwnedTupleGo tg it v) (fun _ s₂ => wpAny (model prog w) (A.over (.forLoop tg it body [] env) fs) (assign tg env v) (fun _ s₃ =>
          Seg (model prog w) A R Y n s₀ (.forLoop tg it body [] env) ((execs body env).wrap (fun f => match f with
            | .next | .cont => .pure (.again (.forLoop tg it body [] env))
            | .brk => .pure (.done .next)
            | .ret v => .pure (.done (.ret v))) (eeOf env) id id) fs s₃)
          (fun x s' => Seg (model prog w) A R Y n s₀ (.forLoop tg it body [] env) (eeOf env x) fs s') s₂) (fun x s' => Seg (model prog w) A R Y n s₀ (.forLoop tg it body [] env) (eeOf env x) fs s') s₁)
      (fun x s' => Seg (model prog w) A R Y n s₀ (.forLoop tg it body [] env) (eeOf env x) fs s') s) :
    Seg (model prog w) A R Y n s₀ (.forLoop tg it body [] env) ((model prog w).den (.forLoop tg it body [] env)) fs s := by
  show Seg _ A R Y n s₀ _ ((forTurn tg it body [] env).onRaise (fun x => do noteFrame x env; theTreesLotGoes x)) fs s
  simp only [forTurn]
  rw [Sem.onRaise_eq_wrap]
  have eEE : ∀ e, ((do noteFrame e env; theTreesLotGoes e : Sem Unit).bind fun _ => (Sem.raise e : Sem PySem.Fin)) = eeOf env e := fun e => Sem.bind_eq_wrap _ _
  have hx : ∀ (x : Value) (s' : Shared), Seg (model prog w) A R Y n s₀ (.forLoop tg it body [] env) (eeOf env x) fs s' → Seg (model prog w) A R Y n s₀ (.forLoop tg it body [] env) ((do noteFrame x env; theTreesLotGoes x : Sem Unit).bind fun _ => (Sem.raise x : Sem PySem.Fin)) fs s' := fun x s' z => by rw [eEE]; exact z
  refine seg_bind_wrap (wpAny_standAt ?_)
  refine seg_bind_wrap (wpAny_onRaise (wpAny_mono h (fun r s1 h1 => ?_) fun x s1 z => wpAny_standAt (hx _ _ z)))
  cases r with
  | none => exact h1
  | some v =>
    refine seg_bind_wrap (wpAny_mono h1 (fun _ s2 h2 => ?_) fun x s1 z => hx _ _ z)
    refine seg_bind_wrap (wpAny_mono h2 (fun _ s3 h3 => ?_) fun x s1 z => hx _ _ z)
    rw [Sem.bind_eq_wrap', Sem.wrap_wrap]
    refine Eq.mpr (congrArg (fun t => Seg (model prog w) A R Y n s₀ (.forLoop tg it body [] env) t fs s3) (Sem.wrap_congr (execs body env) _ _ (fun f => ?_) (fun e => eEE e))) h3
    cases f <;> rfl
end
section
variable {X : Cx} {tg : Expr}
def tGFor (wi : TI) (g : TG) (tb : TGn) : TGn := fun D ys σ H => wi σ H fun Jt H1 => ∃ W : Nat → Nat → List V → St → Hp → Prop, (∃ m, W 0 m ys σ H1) ∧ ∀ i m ys σ H, W i m ys σ H →
  (Jt.stop i H ∧ D.nx ys σ H) ∨ (Jt.go i H ∧ ∃ N : List V → St → Hp → Prop, (∀ ys' σ' H', N ys' σ' H' → ∃ m', m' < m ∧ W (i + 1) m' ys' σ' H') ∧ ∀ x H', Jt.yld i H x H' → g x σ H' fun σ2 H2 => tb { D with nx := N, ct := N, bk := D.nx } ys σ2 H2)
theorem gs_for {iter : Expr} {body : List Stmt} {pos : Pos} {wi : TI} {g : TG} {tb : TGn} (hp : PassesOwn (model X.prog X.w) X.A X.env X.xe) (hc : X.calm = true) (hi : PI X tg iter wi) (hg : PG X tg g) (hb : GSs X body tb)
    (hs : ∀ x, foldedSetIterable iter X.env x = pure x := by intro _; rfl) : GS X (.For tg iter body [] pos) (tGFor wi g tb) := by
  refine ⟨fun A S ip R n ys s₀ c fs K J gd lv s σ H D gc hn k hI ht => ?_⟩
  refine seg_For hs ?_
  rw [gc.over]
  obtain ⟨acc0, cc0, r0, I0⟩ := hI
  refine wpAny_mono (hi.run _ s σ H _ I0 ht) (fun v s1 h1 => wpAny_mono h1 (fun itv s2 h2 => ?_) fun x s' hx => k.exc n s₀ x s' hx) fun x s' hx => k.exc n s₀ x s' hx
  obtain ⟨it, fp, tn, Jt, H2, e, I2, T, st2, f2, W, ⟨m0, w0⟩, turn⟩ := h2
  subst e
  intro p
  have stat : ∀ {acc : Array Value} {cc : Nat} {H' : Hp}, (∀ b ∈ fp, H' b = none) → ∀ b ∈ fp, FpOk X ((S, lstObj acc cc) :: ip) H' b := fun hn b hb => ⟨hn b hb, (f2 b hb).2.1, (f2 b hb).2.2.1, (f2 b hb).2.2.2.1, (f2 b hb).2.2.2.2.1, fun q hq => by
    have q0 := (f2 b hb).2.2.2.2.2
    rcases List.mem_append.mp hq with z | z
    · exact q0 q (List.mem_append_left _ z)
    · rcases List.mem_cons.mp z with z | z
      · rw [z]
        exact q0 (S, lstObj acc0 cc0) (List.mem_append_right _ List.mem_cons_self)
      · exact q0 q (List.mem_append_right _ (List.mem_cons_of_mem _ z))⟩
  have hfS : ∀ b ∈ fp, b ≠ S := fun b hb z => (f2 b hb).2.2.2.2.2 (S, lstObj acc0 cc0) (List.mem_append_right _ List.mem_cons_self) z.symm
  have gl := fun (kk : Result → Sem PySem.Fin) => gc_loop (k := kk) (c' := .forLoop tg (.ref it) body [] X.env) (l := lv []) (kp := []) (p := p) gc rfl rfl
  have loop : ∀ (m i n : Nat) (ys : List V) (s₀ s : Shared) (σ : St) (H : Hp), n + ys.length = sizeLine → W i m ys σ H → GI X S ip ys σ H s → tn i s.heap → (∀ b ∈ fp, H b = none) →
      Seg (model X.prog X.w) A R (GY X S) n s₀ (.forLoop tg (.ref it) body [] X.env) ((model X.prog X.w).den (.forLoop tg (.ref it) body [] X.env))
        (.ret (fun r => ((match r with | .ok f => (.pure f : Sem Flow) | .error e => .raise e).onRaise (cameBack X.env)).wrap K J gd lv) none (gd false) (lv []) c p [] :: fs) s := by
    intro m
    induction m using Nat.strongRecOn with
    | ind m ih =>
      intro i n ys s₀ s σ H hn w hI ht fr
      have ee : ∀ (n : Nat) (s₀ : Shared) (x : Value) (s' : Shared), X.xe x s' → Seg (model X.prog X.w) A R (GY X S) n s₀ (.forLoop tg (.ref it) body [] X.env) (eeOf X.env x)
          (.ret (fun r => ((match r with | .ok f => (.pure f : Sem Flow) | .error e => .raise e).onRaise (cameBack X.env)).wrap K J gd lv) none (gd false) (lv []) c p [] :: fs) s' := fun n s₀ x s' hx => by
        refine seg_wrap ?_
        rw [(gl _).over]
        refine wpAny_bind (wpAny_mono (hp x s' hx) (fun _ s'' hcb => wpAny_theTreesLotGoes ?_) fun y s'' hcb => ?_)
        · exact seg_leaf (.error x) (seg_cameBack gc k hcb)
        · exact seg_leaf (.error y) (seg_cameBack gc k hcb)
      refine seg_forLoop ?_
      rw [(gl _).over]
      obtain ⟨acc, cc, r, I⟩ := hI
      rcases turn i m ys σ H w with ⟨stop, qn⟩ | ⟨go, N, hN, step⟩
      · refine wpAny_mono (T.done X rfl rfl rfl hc i _ s σ H X.xe I (stat fr) ht stop) (fun rr s4 hr => ?_) fun x s' hx => ee n s₀ x s' hx
        obtain ⟨hr, I4⟩ := hr
        subst hr
        refine seg_again rfl ?_
        exact seg_leaf (.ok .next) (k.ok n ys s₀ s4 .next hn ⟨σ, H, ⟨acc, cc, r, I4⟩, qn⟩)
      · refine wpAny_mono (T.item X rfl rfl rfl hc i _ s σ H X.xe I (stat fr) ht go) (fun rr s4 hr => ?_) fun x s' hx => ee n s₀ x s' hx
        obtain ⟨u, hr, h4⟩ := hr
        subst hr
        refine wpAny_mono h4 (fun _ s5 h5 => ?_) fun x s' hx => ee n s₀ x s' hx
        obtain ⟨x, H5, I5, r5, y5, st5, fr5⟩ := h5
        have I5' := I5.pinned (stat fr5) (T.obj _ _ st5)
        refine wpAny_mono (hg.run _ s5 σ H5 x u _ I5' r5 (step x H5 y5)) (fun _ s6 h6 => ?_) fun x s' hx => ee n s₀ x s' hx
        obtain ⟨σ6, H6, I6, q6⟩ := h6
        have gl2 : GC X S (ip ++ pinsAt fp s5.heap) A (.forLoop tg (.ref it) body [] X.env) (.ret (fun r => ((match r with | .ok f => (.pure f : Sem Flow) | .error e => .raise e).onRaise (cameBack X.env)).wrap K J gd lv) none (gd false) (lv []) c p [] :: fs) id :=
          ⟨gc.pn, fun q hq => (List.mem_append.mp hq).elim (fun z => gc.ip q z) (fun z => hfS _ (of_pinsAt z).1), gc.apart, (gl _).over, (gl _).split, (gl _).guard, rfl⟩
        refine hb.run A S (ip ++ pinsAt fp s5.heap) R n ys s₀ _ _ _ _ id id s6 σ6 H6 { D with nx := N, ct := N, bk := D.nx } gl2 hn ⟨fun n' ys' s₀' s3 f hn' hs => ?_, fun n' s₀' x s3 hx => ee n' s₀' x s3 hx⟩ ⟨acc, cc, r, I6⟩ q6
        have un : ∀ {ys : List V} {σ : St} {H : Hp}, GI X S (ip ++ pinsAt fp s5.heap) ys σ H s3 → GI X S ip ys σ H s3 := fun {ys σ H} ⟨acc, cc, r, I⟩ => ⟨acc, cc, r, Inv.unpinned (pins := (S, lstObj acc cc) :: ip) I⟩
        have again : ∀ {σ7 : St} {H7 : Hp}, GI X S (ip ++ pinsAt fp s5.heap) ys' σ7 H7 s3 → N ys' σ7 H7 → Seg (model X.prog X.w) A R (GY X S) n' s₀' (.forLoop tg (.ref it) body [] X.env) (.pure (.again (.forLoop tg (.ref it) body [] X.env)))
            (.ret (fun r => ((match r with | .ok f => (.pure f : Sem Flow) | .error e => .raise e).onRaise (cameBack X.env)).wrap K J gd lv) none (gd false) (lv []) c p [] :: fs) s3 := fun {σ7 H7} G7 n7 => by
          obtain ⟨m', hm, w7⟩ := hN ys' σ7 H7 n7
          obtain ⟨acc7, cc7, r7, I7⟩ := id G7
          refine seg_again rfl (ih m' hm (i + 1) n' ys' s₀' s3 σ7 H7 hn' w7 (un G7) (T.keep _ _ _ st5 fun b hb o e => (I7.pin (b, o) (List.mem_append_right _ (List.mem_cons_of_mem _ (List.mem_append_right _ (mem_pinsAt hb e))))).1) fun b hb => ?_)
          obtain ⟨o, e, d⟩ := T.obj _ _ st5 b hb
          exact (I7.pin (b, o) (List.mem_append_right _ (List.mem_cons_of_mem _ (List.mem_append_right _ (mem_pinsAt hb e))))).2.1
        cases f with
        | next =>
          obtain ⟨σ3, H3, G3, n3⟩ := hs
          exact again G3 n3
        | cont =>
          obtain ⟨σ3, H3, G3, n3⟩ := hs
          exact again G3 n3
        | brk =>
          obtain ⟨σ3, H3, G3, q3⟩ := hs
          exact seg_leaf (.ok .next) (k.ok n' ys' s₀' s3 .next hn' ⟨σ3, H3, un G3, q3⟩)
        | ret v =>
          obtain ⟨x3, σ3, H3, G3, r3, q3⟩ := hs
          exact seg_leaf (.ok (.ret v)) (k.ok n' ys' s₀' s3 (.ret v) hn' ⟨x3, σ3, H3, un G3, r3, q3⟩)
  exact loop m0 0 n ys s₀ s2 σ H2 hn w0 ⟨acc0, cc0, r0, I2⟩ st2 fun b hb => (f2 b hb).1
end
end L2

end

section
set_option maxRecDepth 100000
set_option maxHeartbeats 1000000
/-! enumerate(zip(s, t)) of two tuples: the pairs of zip stay alive in the triples -/
namespace SwA
open PySem PySem.Spec PyProof.Rows L2
abbrev ZipO (h : Heap) (z ti tu : Addr) (f : Value) (b : Bool) : Prop := h.get? z = some { cls := .type "zip", dict := none, data := .fields #[f, .bool b, .bool false, .ref ti, .ref tu], slots := #[] }
abbrev DuoO (h : Heap) (t : Addr) (x y : Value) : Prop := h.get? t = some { cls := .type "tuple", data := .seq #[x, y] }
/-- the iterator's own things lie apart -/
structure EzA (z ti tu j k a b : Addr) : Prop where
  zt : z ≠ ti
  zu : z ≠ tu
  zj : z ≠ j
  zk : z ≠ k
  za : z ≠ a
  zb : z ≠ b
  ut : tu ≠ ti
  uj : tu ≠ j
  uk : tu ≠ k
  ua : tu ≠ a
  ub : tu ≠ b
  jk : j ≠ k
  ja : j ≠ a
  jb : j ≠ b
  jt : j ≠ ti
  ka : k ≠ a
  kb : k ≠ b
  kt : k ≠ ti
def FreeV (f : Value) : Prop := f = .none ∨ ∃ q : Int, f = .int q 0
section
variable {prog : Program} {w : World} {A : Around} {E : Value → Shared → Prop} {z ti tu j k a b : Addr} {f : Value} {bb : Bool} {i : Nat}
theorem owned_ask {s : Shared} {Q : Bool → Shared → Prop} (hf : FreeV f) (hz : ZipO s.heap z ti tu f bb) (h1 : Q true s) (h2 : ∀ h', ZipO h' z ti tu f true → Heap.SameBut z s.heap h' → Q false { s with heap := h' }) :
    wpAny (model prog w) A (Builtin.SmallTypes.ownedTupleIsFree (.ref z)) Q E s := by
  unfold Builtin.SmallTypes.ownedTupleIsFree
  rcases hf with rfl | ⟨q, rfl⟩
  · exact wpAny_bind (wpAny_field hz rfl (x := .none) rfl (wpAny_pure h1))
  · refine wpAny_bind (wpAny_field hz rfl (x := .int q 0) rfl ?_)
    refine wpAny_bind (fun Γ p hΓ => ?_)
    show Sem.wp _ _ (.loadIfAlive q.toNat .pure) _ _ _ _
    rw [Sem.wp_loadIfAlive]
    cases hg : s.heap.get? q.toNat with
    | none =>
      revert Γ p hΓ
      exact wpAny_pure (by simp only [Option.isNone_none, if_true]; exact wpAny_pure h1)
    | some o =>
      revert Γ p hΓ
      refine wpAny_pure ?_
      simp only [Option.isNone_some, Bool.false_eq_true, if_false]
      refine wpAny_bind (wpAny_field hz rfl (x := .bool bb) rfl ?_)
      cases bb with
      | true => exact wpAny_pure (h2 s.heap hz ⟨rfl, fun _ _ => rfl⟩)
      | false =>
        refine wpAny_bind (wpAny_setField_rec hz (by simp) fun h' hz' hs' => wpAny_pure (h2 h' hz' hs'))
/-- how zip's things stand at turn i -/
structure EzS (h : Heap) (z ti tu j k a b : Addr) (i : Nat) : Prop where
  z : ∃ (f : Value) (b : Bool), FreeV f ∧ ZipO h z ti tu f b
  t : DuoO h ti (.ref j) (.ref k)
  u : ∃ x y, DuoO h tu x y
  j : h.IsTupleIter j a i
  k : h.IsTupleIter k b i
theorem zip_go {s : Shared} {xs ys : Array Value} {x y : Value} {Q : Value → Shared → Prop} (D : EzA z ti tu j k a b) (S : EzS s.heap z ti tu j k a b i) (ha : s.heap.IsTuple a xs) (hb : s.heap.IsTuple b ys) (hx : xs[i]? = some x) (hy : ys[i]? = some y)
    (hQ : ∀ h', EzS h' z ti tu j k a b (i + 1) → DuoO h' s.heap.objs.size x y → h'.objs.size = s.heap.objs.size + 1 → (∀ c o, c ≠ z → c ≠ tu → c ≠ j → c ≠ k → s.heap.get? c = some o → h'.get? c = some o) → Q (.ref s.heap.objs.size) { s with heap := h' }) :
    wpAny (model prog w) A (Builtin.«zip.__next__» ⟨[.ref z], []⟩) (fun fin s' => ∃ v, fin = .done (.ret v) ∧ Q v s') E s := by
  obtain ⟨hp, gn, dr, tk, os⟩ := s
  obtain ⟨⟨f, bb, hf, hz⟩, ht, ⟨u0, u1, hu⟩, hj, hk⟩ := S
  change wpAny (model prog w) A (field (.ref z) 2 >>= _) (fun fin s' => _) E ⟨hp, gn, dr, tk, os⟩
  refine wpAny_bind (wpAny_field hz rfl (x := .bool false) rfl ?_)
  change wpAny (model prog w) A (field (.ref z) 3 >>= _) (fun fin s' => _) E ⟨hp, gn, dr, tk, os⟩
  refine wpAny_bind (wpAny_field hz rfl (x := .ref ti) rfl (wpAny_bind (wpAny_seqItems ht rfl ?_)))
  change wpAny (model prog w) A (Builtin.SmallTypes.ownedTupleIsFree (.ref z) >>= _) (fun fin s' => _) E ⟨hp, gn, dr, tk, os⟩
  refine wpAny_bind ?_
  refine owned_ask hf hz ?_ fun h' hz' hs' => ?_
  · simp only [if_true]
    refine wpAny_bind (wpAny_rule (wpAny_bind (wpAny_field hz rfl (x := .ref tu) rfl (wpAny_bind (wpAny_setField_rec hz (by simp) fun g0 z0 s0 => wpAny_bind ?_)))))
    replace z0 : ZipO g0 z ti tu .ellipsis bb := z0
    replace s0 : Heap.SameBut z hp g0 := s0
    simp only [List.zipIdx_cons, List.zipIdx_nil, List.forIn_cons, List.forIn_nil]
    refine wpAny_bind (wpAny_bind (wpAny_onRaise ?_))
    change wpAny (model prog w) A (Builtin.SmallTypes.nextOf (.ref j) >>= _) _ _ ⟨g0, gn, dr, tk, os⟩
    refine wpAny_bind (wpAny_nextOf_tuple_item (hj.at fun o q => (s0.2 j (Ne.symm D.zj)).trans q) (ha.at fun o q => (s0.2 a (Ne.symm D.za)).trans q) hx fun g1 j1 s1 => wpAny_pure ?_)
    replace s1 : Heap.SameBut j g0 g1 := s1
    replace j1 : g1.IsTupleIter j a (i + 1) := j1
    have u1' : DuoO g1 tu u0 u1 := (s1.2 tu D.uj).trans ((s0.2 tu (Ne.symm D.zu)).trans hu)
    refine wpAny_bind (wpAny_seqItems (s := ⟨g1, gn, dr, tk, os⟩) u1' rfl (wpAny_bind (updateSeq_IsTupOf2 (s := ⟨g1, gn, dr, tk, os⟩) u1' fun g2 u2 s2 => wpAny_bind (wpAny_letGo (wpAny_pure ?_)))))
    replace u2 : DuoO g2 tu x u1 := u2
    replace s2 : Heap.SameBut tu g1 g2 := s2
    refine wpAny_bind (wpAny_bind (wpAny_onRaise ?_))
    change wpAny (model prog w) A (Builtin.SmallTypes.nextOf (.ref k) >>= _) _ _ ⟨g2, gn, dr, tk, os⟩
    have up2 : ∀ c, c ≠ z → c ≠ tu → c ≠ j → g2.get? c = hp.get? c := fun c c1 c2 c3 => (s2.2 c c2).trans ((s1.2 c c3).trans (s0.2 c c1))
    refine wpAny_bind (wpAny_nextOf_tuple_item (hk.at fun o q => (up2 k (Ne.symm D.zk) (Ne.symm D.uk) (Ne.symm D.jk)).trans q) (hb.at fun o q => (up2 b (Ne.symm D.zb) (Ne.symm D.ub) (Ne.symm D.jb)).trans q) hy fun g3 k3 s3 => wpAny_pure ?_)
    replace s3 : Heap.SameBut k g2 g3 := s3
    replace k3 : g3.IsTupleIter k b (i + 1) := k3
    have u3 : DuoO g3 tu x u1 := (s3.2 tu D.uk).trans u2
    refine wpAny_bind (wpAny_seqItems (s := ⟨g3, gn, dr, tk, os⟩) u3 rfl (wpAny_bind (updateSeq_IsTupOf2 (s := ⟨g3, gn, dr, tk, os⟩) u3 fun g4 u4 s4 => wpAny_bind (wpAny_letGo (wpAny_pure (wpAny_pure ?_))))))
    replace u4 : DuoO g4 tu x y := u4
    replace s4 : Heap.SameBut tu g3 g4 := s4
    refine wpAny_bind (wpAny_seqItems (s := ⟨g4, gn, dr, tk, os⟩) u4 rfl (wpAny_bind (wpAny_newTuple ?_)))
    have sz4 : g4.objs.size = hp.objs.size := by rw [s4.1, s3.1, s2.1, s1.1, s0.1]
    have z4 : ZipO g4 z ti tu .ellipsis bb := (s4.2 z D.zu).trans ((s3.2 z D.zk).trans ((s2.2 z D.zu).trans ((s1.2 z D.zj).trans z0)))
    have zl : z < g4.objs.size := Heap.lt_size z4
    change wpAny (model prog w) A (Builtin.SmallTypes.ownedTupleHandOut (.ref z) (.ref g4.objs.size) >>= _) _ _ ⟨g4.push { cls := .type "tuple", data := .seq #[x, y] }, gn, dr, tk, os⟩
    refine wpAny_bind ?_
    unfold Builtin.SmallTypes.ownedTupleHandOut
    have z5 : ZipO (g4.push { cls := .type "tuple", data := .seq #[x, y] }) z ti tu .ellipsis bb := Heap.get?_push_of_some _ z4
    refine wpAny_bind (wpAny_setField_rec z5 (by simp) fun g6 z6 s6 => ?_)
    replace z6 : ZipO g6 z ti tu (rawInt g4.objs.size) bb := z6
    refine wpAny_setField_rec z6 (by simp) fun g7 z7 s7 => ?_
    replace z7 : ZipO g7 z ti tu (rawInt g4.objs.size) false := z7
    replace s6 : Heap.SameBut z (g4.push { cls := .type "tuple", data := .seq #[x, y] }) g6 := s6
    replace s7 : Heap.SameBut z g6 g7 := s7
    have up7 : ∀ c o, c ≠ z → g4.get? c = some o → g7.get? c = some o := fun c o c1 q => (s7.2 c c1).trans ((s6.2 c c1).trans (Heap.get?_push_of_some _ q))
    have nw : DuoO g7 g4.objs.size x y := (s7.2 _ (Nat.ne_of_gt zl)).trans ((s6.2 _ (Nat.ne_of_gt zl)).trans (Heap.get?_push_size _ rfl))
    have sz7 : g7.objs.size = g4.objs.size + 1 := by rw [s7.1, s6.1, Heap.size_push]
    have upA : ∀ c o, c ≠ z → c ≠ tu → c ≠ j → c ≠ k → hp.get? c = some o → g7.get? c = some o := fun c o c1 c2 c3 c4 q => up7 c o c1 ((s4.2 c c2).trans ((s3.2 c c4).trans ((up2 c c1 c2 c3).trans q)))
    refine wpAny_pure ⟨_, rfl, ?_⟩
    change Q (.ref g4.objs.size) ⟨g7, gn, dr, tk, os⟩
    have j7 : g7.IsTupleIter j a (i + 1) := j1.at fun o q => up7 j o (Ne.symm D.zj) ((s4.2 j (Ne.symm D.uj)).trans ((s3.2 j D.jk).trans ((s2.2 j (Ne.symm D.uj)).trans q)))
    have k7 : g7.IsTupleIter k b (i + 1) := k3.at fun o q => up7 k o (Ne.symm D.zk) ((s4.2 k (Ne.symm D.uk)).trans q)
    have S7 : EzS g7 z ti tu j k a b (i + 1) := ⟨⟨_, _, .inr ⟨_, rfl⟩, z7⟩, upA _ _ (Ne.symm D.zt) (Ne.symm D.ut) (Ne.symm D.jt) (Ne.symm D.kt) ht, ⟨_, _, up7 _ _ (Ne.symm D.zu) u4⟩, j7, k7⟩
    rw [sz4] at nw sz7 ⊢
    exact hQ g7 S7 nw sz7 upA
  · simp only [Bool.false_eq_true, if_false]
    refine wpAny_bind ?_
    rw [← Array.forIn_toList]
    simp only [List.forIn_cons, List.forIn_nil]
    replace hs' : Heap.SameBut z hp h' := hs'
    refine wpAny_bind (wpAny_bind (wpAny_holding ?_))
    change wpAny (model prog w) A (Builtin.SmallTypes.nextOf (.ref j) >>= _) _ _ ⟨h', gn, dr, tk, os⟩
    refine wpAny_bind (wpAny_nextOf_tuple_item (hj.at fun o q => (hs'.2 j (Ne.symm D.zj)).trans q) (ha.at fun o q => (hs'.2 a (Ne.symm D.za)).trans q) hx fun g1 j1 s1 => wpAny_pure (wpAny_pure ?_))
    replace s1 : Heap.SameBut j h' g1 := s1
    replace j1 : g1.IsTupleIter j a (i + 1) := j1
    refine wpAny_bind (wpAny_bind (wpAny_holding ?_))
    change wpAny (model prog w) A (Builtin.SmallTypes.nextOf (.ref k) >>= _) _ _ ⟨g1, gn, dr, tk, os⟩
    have up1 : ∀ c, c ≠ z → c ≠ j → g1.get? c = hp.get? c := fun c c1 c2 => (s1.2 c c2).trans (hs'.2 c c1)
    refine wpAny_bind (wpAny_nextOf_tuple_item (hk.at fun o q => (up1 k (Ne.symm D.zk) (Ne.symm D.jk)).trans q) (hb.at fun o q => (up1 b (Ne.symm D.zb) (Ne.symm D.jb)).trans q) hy fun g2 k2 s2 => wpAny_pure (wpAny_pure (wpAny_pure ?_)))
    replace s2 : Heap.SameBut k g1 g2 := s2
    replace k2 : g2.IsTupleIter k b (i + 1) := k2
    have sz2 : g2.objs.size = hp.objs.size := by rw [s2.1, s1.1, hs'.1]
    refine wpAny_bind (wpAny_newTuple (hsz := by show 2 ≤ sizeLine; decide) (wpAny_pure ⟨_, rfl, ?_⟩))
    change Q (.ref g2.objs.size) ⟨g2.push { cls := .type "tuple", data := .seq #[x, y] }, gn, dr, tk, os⟩
    have upA : ∀ c o, c ≠ z → c ≠ tu → c ≠ j → c ≠ k → hp.get? c = some o → (g2.push { cls := .type "tuple", data := .seq #[x, y] }).get? c = some o := fun c o c1 c2 c3 c4 q => Heap.get?_push_of_some _ ((s2.2 c c4).trans ((up1 c c1 c3).trans q))
    have nw : DuoO (g2.push { cls := .type "tuple", data := .seq #[x, y] }) g2.objs.size x y := Heap.get?_push_size _ rfl
    have S2 : EzS (g2.push { cls := .type "tuple", data := .seq #[x, y] }) z ti tu j k a b (i + 1) := ⟨⟨_, _, hf, Heap.get?_push_of_some _ ((s2.2 z D.zk).trans ((s1.2 z D.zj).trans hz'))⟩,
      upA _ _ (Ne.symm D.zt) (Ne.symm D.ut) (Ne.symm D.jt) (Ne.symm D.kt) ht, ⟨_, _, Heap.get?_push_of_some _ ((s2.2 tu D.uk).trans ((up1 tu (Ne.symm D.zu) D.uj).trans hu))⟩,
      j1.at fun o q => Heap.get?_push_of_some _ ((s2.2 j D.jk).trans q), k2.at fun o q => Heap.get?_push_of_some _ q⟩
    have sz3 : (g2.push { cls := .type "tuple", data := .seq #[x, y] }).objs.size = hp.objs.size + 1 := by rw [Heap.size_push, sz2]
    rw [sz2] at nw ⊢
    exact hQ _ S2 nw sz3 upA
/-- at the end -/
theorem zip_stop {s : Shared} {xs ys : Array Value} {Q : PySem.Fin → Shared → Prop} (hh : A.handled = none) (D : EzA z ti tu j k a b) (S : EzS s.heap z ti tu j k a b i) (ha : s.heap.IsTuple a xs) (hb : s.heap.IsTuple b ys) (hx : xs[i]? = none)
    (hE : ∀ h' e, (∀ c o, c ≠ z → c ≠ tu → c ≠ j → c ≠ k → s.heap.get? c = some o → h'.get? c = some o) → (∃ o, h'.get? e = some o ∧ o.cls = .type "StopIteration") → E (.ref e) { s with heap := h' }) :
    wpAny (model prog w) A (Builtin.«zip.__next__» ⟨[.ref z], []⟩) Q E s := by
  obtain ⟨hp, gn, dr, tk, os⟩ := s
  obtain ⟨⟨f, bb, hf, hz⟩, ht, ⟨u0, u1, hu⟩, hj, hk⟩ := S
  change wpAny (model prog w) A (field (.ref z) 2 >>= _) Q E ⟨hp, gn, dr, tk, os⟩
  refine wpAny_bind (wpAny_field hz rfl (x := .bool false) rfl ?_)
  change wpAny (model prog w) A (field (.ref z) 3 >>= _) Q E ⟨hp, gn, dr, tk, os⟩
  refine wpAny_bind (wpAny_field hz rfl (x := .ref ti) rfl (wpAny_bind (wpAny_seqItems ht rfl ?_)))
  change wpAny (model prog w) A (Builtin.SmallTypes.ownedTupleIsFree (.ref z) >>= _) Q E ⟨hp, gn, dr, tk, os⟩
  refine wpAny_bind ?_
  refine owned_ask hf hz ?_ fun h' hz' hs' => ?_
  · simp only [if_true]
    refine wpAny_bind (wpAny_rule (wpAny_bind (wpAny_field hz rfl (x := .ref tu) rfl (wpAny_bind (wpAny_setField_rec hz (by simp) fun g0 z0 s0 => wpAny_bind ?_)))))
    replace z0 : ZipO g0 z ti tu .ellipsis bb := z0
    replace s0 : Heap.SameBut z hp g0 := s0
    simp only [List.zipIdx_cons, List.zipIdx_nil, List.forIn_cons, List.forIn_nil]
    refine wpAny_bind (wpAny_bind (wpAny_onRaise ?_))
    change wpAny (model prog w) A (Builtin.SmallTypes.nextOf (.ref j) >>= _) _ _ ⟨g0, gn, dr, tk, os⟩
    refine wpAny_bind (wpAny_nextOf_tuple_end hh (hj.at fun o q => (s0.2 j (Ne.symm D.zj)).trans q) (ha.at fun o q => (s0.2 a (Ne.symm D.za)).trans q) hx fun g1 e s1 he => ?_)
    replace s1 : Heap.ExtBut j g0 g1 := s1
    obtain ⟨oe, hoe, hce⟩ := he
    replace hoe : g1.get? e = some oe := hoe
    have z1 : ZipO g1 z ti tu .ellipsis bb := s1 _ _ D.zj z0
    have ez : e ≠ z := fun q => by subst q; rw [z1] at hoe; cases hoe; simp at hce
    refine wpAny_setField_rec (s := ⟨g1, gn, dr, tk, os⟩) z1 (by simp) fun g2 _ s2 => ?_
    replace s2 : Heap.SameBut z g1 g2 := s2
    exact hE g2 e (fun c o c1 c2 c3 c4 q => (s2.2 c c1).trans (s1 _ _ c3 ((s0.2 c c1).trans q))) ⟨oe, (s2.2 e ez).trans hoe, hce⟩
  · simp only [Bool.false_eq_true, if_false]
    refine wpAny_bind ?_
    rw [← Array.forIn_toList]
    simp only [List.forIn_cons, List.forIn_nil]
    replace hs' : Heap.SameBut z hp h' := hs'
    refine wpAny_bind (wpAny_bind (wpAny_holding ?_))
    change wpAny (model prog w) A (Builtin.SmallTypes.nextOf (.ref j) >>= _) _ _ ⟨h', gn, dr, tk, os⟩
    refine wpAny_bind (wpAny_nextOf_tuple_end hh (hj.at fun o q => (hs'.2 j (Ne.symm D.zj)).trans q) (ha.at fun o q => (hs'.2 a (Ne.symm D.za)).trans q) hx fun g1 e s1 he => ?_)
    replace s1 : Heap.ExtBut j h' g1 := s1
    exact hE g1 e (fun c o c1 c2 c3 c4 q => s1 _ _ c3 ((hs'.2 c c1).trans q)) he
/-- enumerate's turn over zip -/
theorem enum_go {s : Shared} {e : Addr} {old x y : Value} {xs ys : Array Value} {Q : Option Value → Shared → Prop} (D : EzA z ti tu j k a b) (S : EzS s.heap z ti tu j k a b i) (he : IsEnum s.heap e z i old) (ne : e ≠ z ∧ e ≠ tu ∧ e ≠ j ∧ e ≠ k ∧ e ≠ ti)
    (ha : s.heap.IsTuple a xs) (hb : s.heap.IsTuple b ys) (hx : xs[i]? = some x) (hy : ys[i]? = some y)
    (hQ : ∀ h' tk, EzS h' z ti tu j k a b (i + 1) → IsEnumOut h' e z ((i : Int) + 1) (.ref s.heap.objs.size) (s.heap.objs.size + 1) → DuoO h' s.heap.objs.size x y → DuoO h' (s.heap.objs.size + 1) (.int i tk) (.ref s.heap.objs.size) →
      (∀ c o, c ≠ e → c ≠ z → c ≠ tu → c ≠ j → c ≠ k → s.heap.get? c = some o → h'.get? c = some o) → Q (some (.ref (s.heap.objs.size + 1))) { s with heap := h', toks := tk + 1 }) :
    wpAny (model prog w) A (pyNext (.ref e)) Q E s := by
  obtain ⟨hp, gn, dr, tk, os⟩ := s
  have hT : Shared.TypeIs ⟨hp, gn, dr, tk, os⟩ (.ref e) "enumerate" := ⟨_, he, rfl⟩
  unfold pyNext
  refine wpAny_bind (wpAny_attempt (wpAny_callSpecial?_slot (name := Str.ofString "__next__") hT F.slot_enumerate_next (wpAny_call_entry F.slot_enumerate_next hT F.entry_enumerate_next ?_ (F.args_enumerate_next_1 _))))
  change wpAny (model prog w) _ (field (.ref e) 2 >>= _) _ _ ⟨hp, gn, dr, tk, os⟩
  refine wpAny_bind (wpAny_field he rfl (x := .ref z) rfl (wpAny_bind ?_))
  unfold Builtin.SmallTypes.nextOf
  obtain ⟨f, bb, hf, hz⟩ := id S.z
  have hTz : Shared.TypeIs ⟨hp, gn, dr, tk, os⟩ (.ref z) "zip" := ⟨_, hz, rfl⟩
  have el : e < hp.objs.size := Heap.lt_size he
  refine wpAny_bind (wpAny_callSpecial?_slot (name := Str.ofString "__next__") hTz F.slot_zip_next (wpAny_call_entry F.slot_zip_next hTz F.entry_zip_next (zip_go D S ha hb hx hy fun g1 S1 n1 sz1 k1 => wpAny_pure ?_) (F.args_zip_next_1 _)))
  replace n1 : DuoO g1 hp.objs.size x y := n1
  have e1 : IsEnum g1 e z i old := k1 _ _ ne.1 ne.2.1 ne.2.2.1 ne.2.2.2.1 he
  change wpAny (model prog w) _ (field (.ref e) 3 >>= _) _ _ ⟨g1, gn, dr, tk, os⟩
  refine wpAny_bind (wpAny_field e1 rfl (x := rawInt i) rfl ?_)
  change wpAny (model prog w) _ (field (.ref e) 4 >>= _) _ _ ⟨g1, gn, dr, tk, os⟩
  refine wpAny_bind (wpAny_field e1 rfl (x := .none) rfl ?_)
  change wpAny (model prog w) _ (mkInt i >>= _) _ _ ⟨g1, gn, dr, tk, os⟩
  refine wpAny_bind (wpAny_mkInt ?_)
  change wpAny (model prog w) _ (setField (.ref e) 3 (rawInt ((i : Int) + 1)) >>= _) _ _ ⟨g1, gn, dr, tk + 1, os⟩
  refine wpAny_bind (wpAny_setField_rec e1 (by simp) fun g2 e2 s2 => ?_)
  replace s2 : Heap.SameBut e g1 g2 := s2
  replace e2 : IsEnum g2 e z ((i : Int) + 1) old := e2
  change wpAny (model prog w) _ (setField (.ref e) 4 .none >>= _) _ _ ⟨g2, gn, dr, tk + 1, os⟩
  refine wpAny_bind (wpAny_setField_rec e2 (by simp) fun g3 e3 s3 => ?_)
  replace s3 : Heap.SameBut e g2 g3 := s3
  replace e3 : IsEnum g3 e z ((i : Int) + 1) old := e3
  change wpAny (model prog w) _ (newTuple [.int i tk, .ref hp.objs.size] >>= _) _ _ ⟨g3, gn, dr, tk + 1, os⟩
  refine wpAny_bind (wpAny_newTuple ?_)
  have sz3 : g3.objs.size = hp.objs.size + 1 := by rw [s3.1, s2.1]; exact sz1
  have e4 : IsEnum (g3.push { cls := .type "tuple", data := .seq #[.int i tk, .ref hp.objs.size] }) e z ((i : Int) + 1) old := Heap.get?_push_of_some _ e3
  have n4 : DuoO (g3.push { cls := .type "tuple", data := .seq #[.int i tk, .ref hp.objs.size] }) (hp.objs.size + 1) (.int i tk) (.ref hp.objs.size) := by rw [← sz3]; exact Heap.get?_push_size _ rfl
  have k4 : ∀ c o, c ≠ e → g1.get? c = some o → (g3.push { cls := .type "tuple", data := .seq #[.int i tk, .ref hp.objs.size] }).get? c = some o := fun c o c1 q => Heap.get?_push_of_some _ ((s3.2 c c1).trans ((s2.2 c c1).trans q))
  change wpAny (model prog w) _ (Builtin.SmallTypes.ownedTupleIsFree (.ref e) >>= _) _ _ ⟨g3.push { cls := .type "tuple", data := .seq #[.int i tk, .ref hp.objs.size] }, gn, dr, tk + 1, os⟩
  rw [sz3]
  generalize g3.push { cls := .type "tuple", data := .seq #[.int i tk, .ref hp.objs.size] } = g4 at *
  refine wpAny_bind ?_
  unfold Builtin.SmallTypes.ownedTupleIsFree
  refine wpAny_bind (wpAny_field e4 rfl (x := .none) rfl (wpAny_pure ?_))
  simp only [if_true]
  refine wpAny_bind (wpAny_rule (wpAny_bind (wpAny_field e4 rfl (x := old) rfl (wpAny_bind (wpAny_setField_rec e4 (by simp) fun g5 e5 s5 => ?_)))))
  replace s5 : Heap.SameBut e g4 g5 := s5
  replace e5 : IsEnum g5 e z ((i : Int) + 1) (.ref hp.objs.size) := e5
  change wpAny (model prog w) _ (Builtin.SmallTypes.ownedTupleHandOut (.ref e) (.ref (hp.objs.size + 1)) >>= _) _ _ ⟨g5, gn, dr, tk + 1, os⟩
  refine wpAny_bind ?_
  unfold Builtin.SmallTypes.ownedTupleHandOut
  refine wpAny_bind (wpAny_setField_rec e5 (by simp) fun g6 e6 s6 => ?_)
  replace s6 : Heap.SameBut e g5 g6 := s6
  replace e6 : IsEnumOut g6 e z ((i : Int) + 1) (.ref hp.objs.size) (hp.objs.size + 1) := e6
  refine wpAny_setField_rec e6 (by simp) fun g7 e7 s7 => ?_
  replace s7 : Heap.SameBut e g6 g7 := s7
  replace e7 : IsEnumOut g7 e z ((i : Int) + 1) (.ref hp.objs.size) (hp.objs.size + 1) := e7
  have k7 : ∀ c o, c ≠ e → g4.get? c = some o → g7.get? c = some o := fun c o c1 q => (s7.2 c c1).trans ((s6.2 c c1).trans ((s5.2 c c1).trans q))
  have k17 : ∀ c o, c ≠ e → g1.get? c = some o → g7.get? c = some o := fun c o c1 q => k7 c o c1 (k4 c o c1 q)
  have S7 : EzS g7 z ti tu j k a b (i + 1) := by
    obtain ⟨⟨f, b1, hf, hz⟩, ht, ⟨u0, u1, hu⟩, hj, hk⟩ := S1
    exact ⟨⟨f, b1, hf, k17 _ _ (Ne.symm ne.1) hz⟩, k17 _ _ (Ne.symm ne.2.2.2.2) ht, ⟨u0, u1, k17 _ _ (Ne.symm ne.2.1) hu⟩, hj.at fun o q => k17 _ o (Ne.symm ne.2.2.1) q, hk.at fun o q => k17 _ o (Ne.symm ne.2.2.2.1) q⟩
  exact wpAny_bind (wpAny_letGo (wpAny_pure ⟨_, rfl, wpAny_pure (hQ g7 tk S7 e7 (k17 _ _ (Nat.ne_of_gt el) n1) (k7 _ _ (Nat.ne_of_gt (Nat.lt_succ_of_lt el)) n4) fun c o c0 c1 c2 c3 c4 q => k17 c o c0 (k1 c o c1 c2 c3 c4 q))⟩))
theorem enum_stop {s : Shared} {e : Addr} {old : Value} {xs ys : Array Value} {Q : Option Value → Shared → Prop} (hh : A.handled = none) (D : EzA z ti tu j k a b) (S : EzS s.heap z ti tu j k a b i) (he : IsEnum s.heap e z i old)
    (ha : s.heap.IsTuple a xs) (hb : s.heap.IsTuple b ys) (hx : xs[i]? = none) (hQ : ∀ h', (∀ c o, c ≠ z → c ≠ tu → c ≠ j → c ≠ k → s.heap.get? c = some o → h'.get? c = some o) → Q none { s with heap := h' }) :
    wpAny (model prog w) A (pyNext (.ref e)) Q E s := by
  obtain ⟨hp, gn, dr, tk, os⟩ := s
  have hT : Shared.TypeIs ⟨hp, gn, dr, tk, os⟩ (.ref e) "enumerate" := ⟨_, he, rfl⟩
  unfold pyNext
  refine wpAny_bind (wpAny_attempt (wpAny_callSpecial?_slot (name := Str.ofString "__next__") hT F.slot_enumerate_next (wpAny_call_entry F.slot_enumerate_next hT F.entry_enumerate_next ?_ (F.args_enumerate_next_1 _))))
  change wpAny (model prog w) _ (field (.ref e) 2 >>= _) _ _ ⟨hp, gn, dr, tk, os⟩
  refine wpAny_bind (wpAny_field he rfl (x := .ref z) rfl (wpAny_bind ?_))
  unfold Builtin.SmallTypes.nextOf
  obtain ⟨f, bb, hf, hz⟩ := id S.z
  have hTz : Shared.TypeIs ⟨hp, gn, dr, tk, os⟩ (.ref z) "zip" := ⟨_, hz, rfl⟩
  refine wpAny_bind (wpAny_callSpecial?_slot (name := Str.ofString "__next__") hTz F.slot_zip_next (wpAny_call_entry F.slot_zip_next hTz F.entry_zip_next (zip_stop hh D S ha hb hx fun g1 e1 k1 he1 => ?_) (F.args_zip_next_1 _)))
  obtain ⟨o, ho, hc⟩ := he1
  refine wpAny_bind (wpAny_isInstance (T := "StopIteration") (b := true) ⟨o, ho, hc⟩ isSubtype_stop (wpAny_pure (hQ _ k1)))
end
end SwA

end

section
set_option maxRecDepth 100000
set_option maxHeartbeats 2000000
/-! for i, (x, y) in enumerate(zip(s, t)) -/
namespace SwA
open PySem PySem.Spec PyProof.Rows L2
theorem meets_enumerate_newZ (z ti tu : Addr) :
    Meets (Builtin.«enumerate.__new__» ⟨[.type "enumerate", .ref z], []⟩) (fun _ R s => IsZip s.heap z ti tu .none ∧
      R (.ok (.ret (.ref s.heap.objs.size))) { s with heap := s.heap.push { cls := .type "enumerate", data := .fields #[.none, .bool false, .ref z, rawInt 0, .none, .none] } }) :=
  .of_wp fun prog w A R s h => by
    obtain ⟨hp, g, d, tk, os⟩ := s; obtain ⟨hL, h⟩ := h
    have hsub := sub_enumerate
    have q1 : ∀ {A' : Around} {E : Value → Shared → Prop} {Q : Value → Shared → Prop}, Q (.ref z) ⟨hp, g, d, tk, os⟩ → wpAny (model prog w) A' (pyIter (.ref z)) Q E ⟨hp, g, d, tk, os⟩ :=
      fun q => wpAny_pyIter_zip hL q
    wp_walk using q1
    refine wpAny_stack_any fun st => wpAny_pure ?_
    split
    · rename_i c _ _ _ _ _
      cases (c == Value.type "enumerate")
      · wp_walk using q1
        exact ⟨_, rfl, h⟩
      · wp_walk using q1
        exact ⟨_, rfl, h⟩
    · wp_walk using q1
      exact ⟨_, rfl, h⟩
theorem call_enumZ {prog : Program} {w : World} {A : Around} {E : Value → Shared → Prop} {s : Shared} {z ti tu : Addr} {Q : Value → Shared → Prop} (hL : IsZip s.heap z ti tu .none)
    (h : ∀ h', IsEnum h' s.heap.objs.size z 0 .none → (∀ b o, s.heap.get? b = some o → h'.get? b = some o) → Q (.ref s.heap.objs.size) { s with heap := h' }) :
    wpAny (model prog w) A (call (.type "enumerate") [.ref z]) Q E s := by
  refine callType_new F.called_enumerate (by decide) (F.typeCall_enumerate_1 _) (F.newCall_enumerate_1 _) (fun obj => F.args_object_init_2 obj _) F.entry_enumerate_new (meets_enumerate_newZ z ti tu) ⟨hL, ?_⟩
  have he : IsEnum (s.heap.push { cls := .type "enumerate", data := .fields #[.none, .bool false, .ref z, rawInt 0, .none, .none] }) s.heap.objs.size z 0 .none := Heap.get?_push_size _ rfl
  exact ⟨⟨_, he, rfl⟩, h _ he fun b o x => Heap.get?_push_of_some _ x⟩
/-- the tuples at a and b, the items in new pairs, numbered -/
def ItEZ (K : PySem.W.Frag) (a b : Addr) : It :=
  ⟨fun i H => ∃ (xs ys : List V) (x y : V), SqT K H a xs ∧ SqT K H b ys ∧ xs[i]? = some x ∧ ys[i]? = some y,
    fun i H v H' => ∃ T1 T2 x y, v = .ref T2 ∧ H T1 = none ∧ H T2 = none ∧ T2 ≠ T1 ∧ H' = upd (upd H T1 (.tup [x, y])) T2 (.tup [.int (i : Nat), .ref T1]) ∧ (∀ xs, SqT K H a xs → xs[i]? = some x) ∧ ∀ ys, SqT K H b ys → ys[i]? = some y,
    fun i H => ∃ xs ys : List V, SqT K H a xs ∧ SqT K H b ys ∧ xs.length ≤ i⟩
theorem turn_enumZ {P : Program} {w : World} {K : PySem.W.Frag} {elts : List Expr} {kk : Nat} {tpos : Pos} {a b e z ti tu j k : Addr} (D : EzA z ti tu j k a b) (ne : e ≠ z ∧ e ≠ tu ∧ e ≠ j ∧ e ≠ k ∧ e ≠ ti) :
    Turn P w K (.Tuple elts kk tpos) (ItEZ K a b) [e, z, ti, tu, j, k] e (fun i h => (∃ old, IsEnum h e z ((i : Nat) : Int) old) ∧ EzS h z ti tu j k a b i) where
  mem := by simp
  obj := fun i h st c hc => by
    obtain ⟨⟨old, he⟩, ⟨f, b1, hf, hz⟩, ht, ⟨u0, u1, hu⟩, ⟨o1, e1, _, d1⟩, ⟨o2, e2, _, d2⟩⟩ := st
    have e' : c = e ∨ c = z ∨ c = ti ∨ c = tu ∨ c = j ∨ c = k := by simpa using hc
    rcases e' with q | q | q | q | q | q
    · rw [q]; exact ⟨_, he, fun v q => nomatch q⟩
    · rw [q]; exact ⟨_, hz, fun v q => nomatch q⟩
    · rw [q]; exact ⟨_, ht, fun v q => nomatch q⟩
    · rw [q]; exact ⟨_, hu, fun v q => nomatch q⟩
    · rw [q]; exact ⟨o1, e1, fun v q => by rw [d1] at q; cases q⟩
    · rw [q]; exact ⟨o2, e2, fun v q => by rw [d2] at q; cases q⟩
  keep := fun i h h' st kp => by
    obtain ⟨⟨old, he⟩, ⟨f, b1, hf, hz⟩, ht, ⟨u0, u1, hu⟩, h1, h2⟩ := st
    exact ⟨⟨old, kp e (by simp) _ he⟩, ⟨f, b1, hf, kp z (by simp) _ hz⟩, kp ti (by simp) _ ht, ⟨u0, u1, kp tu (by simp) _ hu⟩, h1.at fun o q => kp j (by simp) o q, h2.at fun o q => kp k (by simp) o q⟩
  item := by
    intro X hP hw hK hc i pins s σ H E I hf st hg
    subst hP hw hK
    obtain ⟨⟨old, he⟩, S⟩ := st
    obtain ⟨xs, ys, x, y, hqx, hqy, hx, hy⟩ := hg
    obtain ⟨its, rv, p1, _⟩ := I.tuple hqx
    obtain ⟨its2, rv2, p2, _⟩ := I.tuple hqy
    obtain ⟨u, hu, ru⟩ := rv.get hx
    obtain ⟨u2, hu2, ru2⟩ := rv2.get hy
    have hel : e < s.heap.objs.size := Heap.lt_size he
    have fpl : ∀ c ∈ [e, z, ti, tu, j, k], c < s.heap.objs.size := fun c hcm => by
      obtain ⟨⟨f, b1, hf, hz⟩, ht, ⟨u0, u1, hu⟩, ⟨o1, e1, _⟩, ⟨o2, e2, _⟩⟩ := S
      have e' : c = e ∨ c = z ∨ c = ti ∨ c = tu ∨ c = j ∨ c = k := by simpa using hcm
      rcases e' with q | q | q | q | q | q
      · rw [q]; exact hel
      · rw [q]; exact Heap.lt_size hz
      · rw [q]; exact Heap.lt_size ht
      · rw [q]; exact Heap.lt_size hu
      · rw [q]; exact Heap.lt_size e1
      · rw [q]; exact Heap.lt_size e2
    refine enum_go (x := u) (y := u2) D S he ne p1 p2 (by simpa using hu) (by simpa using hu2) fun h' tk S' eo n1 n2 kp => ?_
    refine ⟨_, rfl, wpAny_letOwnedTupleGo_enum (s := { s with heap := h', toks := tk + 1 }) eo fun h'' he'' sb => ?_⟩
    replace sb : Heap.SameBut e h' h'' := sb
    have n1' : DuoO h'' s.heap.objs.size u u2 := (sb.2 _ (Nat.ne_of_gt hel)).trans n1
    have n2' : DuoO h'' (s.heap.objs.size + 1) (.int i tk) (.ref s.heap.objs.size) := (sb.2 _ (Nat.ne_of_gt (Nat.lt_succ_of_lt hel))).trans n2
    -- the pair is laid, then all else turns
    have o1 : ObjOk X.prog X.w (upd H s.heap.objs.size (.tup [x, y])) (s.heap.push { cls := .type "tuple", data := .seq #[u, u2] }) s.heap.objs.size (.tup [x, y]) :=
      ⟨by show 2 ≤ sizeLine; decide, [u, u2], .cons ru (.cons ru2 .nil), ⟨_, Heap.get?_push_size _ rfl, rfl, _, rfl⟩⟩
    have I1 : Inv X pins σ (upd H s.heap.objs.size (.tup [x, y])) { s with heap := s.heap.push { cls := .type "tuple", data := .seq #[u, u2] }, toks := s.toks } :=
      I.laid (fun b q hb => Heap.get?_push_of_some _ hb) (Nat.le_refl _) o1
    have hn1 : H s.heap.objs.size = none := I.hok.fresh (Nat.le_refl _)
    have hn2 : H (s.heap.objs.size + 1) = none := I.hok.fresh (Nat.le_succ _)
    have hf1 : ∀ c ∈ [e, z, ti, tu, j, k], FpOk X pins (upd H s.heap.objs.size (.tup [x, y])) c := fun c hcm => by
      obtain ⟨f0, f1⟩ := hf c hcm
      refine ⟨?_, f1⟩
      rw [upd_ne (Nat.ne_of_lt (fpl c hcm))]
      exact f0
    have o2 : ObjOk X.prog X.w (upd (upd H s.heap.objs.size (.tup [x, y])) (s.heap.objs.size + 1) (.tup [.int (i : Nat), .ref s.heap.objs.size])) h'' (s.heap.objs.size + 1) (.tup [.int (i : Nat), .ref s.heap.objs.size]) :=
      ⟨by show 2 ≤ sizeLine; decide, [.int i tk, .ref s.heap.objs.size], .cons ⟨_, rfl⟩ (.cons rfl .nil), ⟨_, n2', rfl, _, rfl⟩⟩
    have I2 : Inv X pins σ (upd (upd H s.heap.objs.size (.tup [x, y])) (s.heap.objs.size + 1) (.tup [.int (i : Nat), .ref s.heap.objs.size])) { s with heap := h'', toks := tk + 1 } := by
      refine I1.turnedNew (t' := tk + 1) (ch := [e, z, ti, tu, j, k]) (fun c ob hb q => ?_) hf1 (by show (s.heap.push _).objs.size ≤ _; rw [Heap.size_push]; exact Nat.le_refl _) o2
      have c0 : c ≠ e := fun q' => hb (by simp [q'])
      have c1 : c ≠ z := fun q' => hb (by simp [q'])
      have c2 : c ≠ tu := fun q' => hb (by simp [q'])
      have c3 : c ≠ j := fun q' => hb (by simp [q'])
      have c4 : c ≠ k := fun q' => hb (by simp [q'])
      by_cases hcs : c = s.heap.objs.size
      · rw [hcs] at q ⊢
        have q' : (s.heap.push { cls := .type "tuple", data := .seq #[u, u2] }).get? s.heap.objs.size = some ob := q
        rw [Heap.get?_push_size _ rfl] at q'
        rw [← q']
        exact n1'
      · have q' : (s.heap.push { cls := .type "tuple", data := .seq #[u, u2] }).get? c = some ob := q
        have q'' : s.heap.get? c = some ob := (Heap.get?_push_cases q').elim (fun z => absurd z.1 hcs) id
        exact (sb.2 c c0).trans (kp c ob c0 c1 c2 c3 c4 q'')
    refine ⟨.ref (s.heap.objs.size + 1), _, I2, rfl, ⟨_, _, x, y, rfl, hn1, hn2, Nat.succ_ne_self _, rfl, fun l hl => by rw [I.tuple_inj hl hqx]; exact hx, fun l hl => by rw [I.tuple_inj hl hqy]; exact hy⟩, ⟨⟨.ref s.heap.objs.size, ?_⟩, ?_⟩, fun c hcm => ?_⟩
    · have e1 : ((i + 1 : Nat) : Int) = (i : Int) + 1 := by omega
      rw [e1]; exact he''
    · obtain ⟨⟨f, b1, hf, hz⟩, ht, ⟨u0, u1, hu⟩, h1, h2⟩ := S'
      exact ⟨⟨f, b1, hf, (sb.2 _ (Ne.symm ne.1)).trans hz⟩, (sb.2 _ (Ne.symm ne.2.2.2.2)).trans ht, ⟨u0, u1, (sb.2 _ (Ne.symm ne.2.1)).trans hu⟩, h1.at fun o q => (sb.2 _ (Ne.symm ne.2.2.1)).trans q, h2.at fun o q => (sb.2 _ (Ne.symm ne.2.2.2.1)).trans q⟩
    · have := fpl c hcm
      rw [upd_ne (Nat.ne_of_lt (Nat.lt_succ_of_lt this)), upd_ne (Nat.ne_of_lt this)]
      exact (hf c hcm).1
  done := by
    intro X hP hw hK hc i pins s σ H E I hf st hg
    subst hP hw hK
    obtain ⟨⟨old, he⟩, S⟩ := st
    obtain ⟨xs, ys, hqx, hqy, hend⟩ := hg
    obtain ⟨its, rv, p1, _⟩ := I.tuple hqx
    obtain ⟨its2, rv2, p2, _⟩ := I.tuple hqy
    have l1 := rv.length
    exact enum_stop (I.ok.hd hc) D S he p1 p2 (by simp; omega) fun h' kp => ⟨rfl, I.turnedL (t' := s.toks) (ch := [e, z, ti, tu, j, k]) (fun c o hb q => kp c o (fun q' => hb (by simp [q'])) (fun q' => hb (by simp [q'])) (fun q' => hb (by simp [q'])) (fun q' => hb (by simp [q'])) q) hf⟩
  self := fun A i s Q E st h => let ⟨⟨_, he⟩, _⟩ := st; wpAny_pyIter_enum he h
theorem ezA_of {N a b : Nat} (la : a < N) (lb : b < N) : EzA (N + 4) (N + 2) (N + 3) N (N + 1) a b := by constructor <;> (show @Ne Nat _ _; omega)
theorem ezE_of {e N : Nat} (h : e = N + 5) : (@Ne Addr e (N + 4) ∧ @Ne Addr e (N + 3) ∧ @Ne Addr e N ∧ @Ne Addr e (N + 1) ∧ @Ne Addr e (N + 2)) := by
  refine ⟨?_, ?_, ?_, ?_, ?_⟩ <;> (show @Ne Nat _ _; omega)
theorem le_of6 {e N c : Nat} (h : e = N + 5) (hc : c = e ∨ c = N + 4 ∨ c = N + 2 ∨ c = N + 3 ∨ c = N ∨ c = N + 1) : N ≤ c := by omega
def iEnumZ (K : PySem.W.Frag) (ta : TA) : TI := fun σ H R => ta σ H fun vs H1 => ∃ a b xs ys, vs = [.ref a, .ref b] ∧ SqT K H1 a xs ∧ SqT K H1 b ys ∧ R (ItEZ K a b) H1
theorem pi_enumZ {X : Cx} {e e2 : Expr} {ta : TA} {p p2 pos pos2 tpos : Pos} {elts : List Expr} {kk : Nat} (hg : Gl X "enumerate") (hm : X.mg "enumerate" = none) (hg2 : Gl X "zip") (hm2 : X.mg "zip" = none) (ha : PA X [e, e2] ta)
    (hs1 : starEach [Expr.Call (.Name "zip" p2) [e, e2] [] pos2] X.env = (false, eval (.Call (.Name "zip" p2) [e, e2] [] pos2) X.env) :: starEach [] X.env := by rfl)
    (hs : starEach [e, e2] X.env = (false, eval e X.env) :: starEach [e2] X.env := by rfl) (hpl : (backTo pos2 (starEach [e2] X.env)).any (·.1) = false := by rfl) :
    PI X (.Tuple elts kk tpos) (.Call (.Name "enumerate" p) [.Call (.Name "zip" p2) [e, e2] [] pos2] [] pos) (iEnumZ X.K ta) := by
  refine ⟨fun pins s σ H R I h => ?_⟩
  refine Call_ (ld_blt I hg hm boot_enumerate (PyProof.Rows.callWith_type1 ?_ hs1 rfl))
  rw [hs1]
  refine Calls.spliced_cons ?_
  refine Call_ (ld_blt I hg2 hm2 PyProof.Rows.boot_zip (PyProof.Rows.callWith_type1 (thn (ha.run pos2 pins s σ H _ I h) fun us s1 ⟨vs, H1, I1, r1, q1⟩ => ?_) hs hpl))
  obtain ⟨a, b, xs, ys, ex, hqx, hqy, q⟩ := q1
  subst ex
  cases r1 with
  | cons r rr =>
    cases rr with
    | cons r' rr =>
      cases rr
      cases r
      cases r'
      obtain ⟨its, rv, p1, _⟩ := I1.tuple hqx
      obtain ⟨its2, rv2, p2, _⟩ := I1.tuple hqy
      obtain ⟨o1, ho1, _⟩ := id p1
      obtain ⟨o2, ho2, _⟩ := id p2
      have la : a < s1.heap.objs.size := Heap.lt_size ho1
      have lb : b < s1.heap.objs.size := Heap.lt_size ho2
      refine RZ.call_zipT (show s1.heap.IsTuple a its.toArray from p1) (show s1.heap.IsTuple b its2.toArray from p2) fun h' hz hTI hTO h1 h2 hsz hk => ?_
      refine Calls.spliced_nil (call_enumZ (s := { s1 with heap := h' }) hz fun h'' he hk2 => wpAny_pyIter_enum he ?_)
      have I2 : Inv X pins σ H1 { s1 with heap := h'' } := I1.kept (t' := s1.toks) fun b o q => hk2 b o (hk b o q)
      have sz : h'.objs.size = s1.heap.objs.size + 5 := hsz
      have fr : ∀ c ∈ [h'.objs.size, s1.heap.objs.size + 4, s1.heap.objs.size + 2, s1.heap.objs.size + 3, s1.heap.objs.size, s1.heap.objs.size + 1], FpOk X pins H1 c := fun c hcm => by
        have hle : s1.heap.objs.size ≤ c := by
          simp only [List.mem_cons, List.not_mem_nil, or_false] at hcm
          exact le_of6 sz hcm
        exact I1.fpOk hle (I1.hok.fresh hle)
      have D : EzA (s1.heap.objs.size + 4) (s1.heap.objs.size + 2) (s1.heap.objs.size + 3) s1.heap.objs.size (s1.heap.objs.size + 1) a b := by
        exact ezA_of la lb
      refine ⟨h'.objs.size, _, _, _, H1, rfl, I2, turn_enumZ D (ezE_of sz), ⟨⟨.none, he⟩, ⟨_, _, .inl rfl, hk2 _ _ hz⟩, hk2 _ _ hTI, ⟨_, _, hk2 _ _ hTO⟩, h1.at fun o q => hk2 _ o q, h2.at fun o q => hk2 _ o q⟩, fr, q⟩
end SwA

end

section
set_option maxRecDepth 100000
set_option maxHeartbeats 2000000
/-! the forms one uses of a for loop in a generator def -/
namespace SwA
open PySem PySem.Spec PyProof.Rows L2
theorem gfor_it {J : It} {n : Nat} {G : Hp → Prop} {Y : Nat → Hp → V → Hp → Prop} (w : Walk J n G Y) {g : TG} {tb : TGn} {D : GEnds} {ys : List V} {σ : L2.St} {H : Hp} (Pv : Nat → List V → L2.St → Hp → Prop) (h0 : Pv 0 ys σ H) (hG : ∀ i ys σ H, i ≤ n → Pv i ys σ H → G H)
    (hs : ∀ i x ys σ H H', i < n → Pv i ys σ H → Y i H x H' → g x σ H' fun σ2 H2 => tb { D with nx := Pv (i + 1), ct := Pv (i + 1), bk := D.nx } ys σ2 H2) (hd : ∀ ys σ H, Pv n ys σ H → D.nx ys σ H) :
    ∃ W : Nat → Nat → List V → L2.St → Hp → Prop, (∃ m, W 0 m ys σ H) ∧ ∀ i m ys σ H, W i m ys σ H →
      (J.stop i H ∧ D.nx ys σ H) ∨ (J.go i H ∧ ∃ N : List V → L2.St → Hp → Prop, (∀ ys' σ' H', N ys' σ' H' → ∃ m', m' < m ∧ W (i + 1) m' ys' σ' H') ∧ ∀ x H', J.yld i H x H' → g x σ H' fun σ2 H2 => tb { D with nx := N, ct := N, bk := D.nx } ys σ2 H2) := by
  refine ⟨fun i m ys σ H => m = n - i ∧ i ≤ n ∧ Pv i ys σ H, ⟨n, by simp, Nat.zero_le _, h0⟩, ?_⟩
  rintro i m ys σ H ⟨rfl, hi, p⟩
  have q := hG i ys σ H hi p
  by_cases hlt : i < n
  · exact .inr ⟨w.goes i H hlt q, Pv (i + 1), fun ys' σ' H' p' => ⟨n - (i + 1), by omega, rfl, hlt, p'⟩, fun x H' y => hs i x ys σ H H' hlt p (w.yields i H x H' hlt q y)⟩
  · obtain rfl : i = n := by omega
    exact .inl ⟨w.stops H q, hd ys σ H p⟩
theorem walk_enumZ {K : PySem.W.Frag} {a b : Addr} {xs ys : List V} (hl : xs.length = ys.length) : Walk (ItEZ K a b) xs.length (fun H => SqT K H a xs ∧ SqT K H b ys)
    (fun i H v H' => ∃ T1 T2 x y, v = .ref T2 ∧ H T1 = none ∧ H T2 = none ∧ T2 ≠ T1 ∧ H' = upd (upd H T1 (.tup [x, y])) T2 (.tup [.int (i : Nat), .ref T1]) ∧ xs[i]? = some x ∧ ys[i]? = some y) := by
  refine ⟨fun i H hi ⟨h1, h2⟩ => ⟨xs, ys, xs[i], ys[i]'(by omega), h1, h2, List.getElem?_eq_getElem hi, List.getElem?_eq_getElem (by omega)⟩, fun H ⟨h1, h2⟩ => ⟨xs, ys, h1, h2, Nat.le_refl _⟩, fun i H x H' hi ⟨h1, h2⟩ y => ?_⟩
  obtain ⟨T1, T2, u, v, e1, e2, e3, e4, e5, e6, e7⟩ := y
  exact ⟨T1, T2, u, v, e1, e2, e3, e4, e5, e6 xs h1, e7 ys h2⟩
end SwA

end

section
set_option maxRecDepth 100000
set_option maxHeartbeats 4000000
/-! trace -/
namespace Sw
open PySem PySem.Spec PyProof.Rows L2 SwA
structure TraT (K : PySem.W.Frag) (mg : Str → Option Value) : Prop where
  c : CkT K mg
  MAXR : ∃ t, mg "MAX_TRACE" = some (.int 500 t)
  range : mg "range" = none
  enumerate : mg "enumerate" = none
  zip : mg "zip" = none
  min : mg "min" = none
  tr : DeT K mg "trace" s_trace
abbrev Trc := Nat × Nat × Nat × Cs
def trc1 (t : Nat) (tk : TickM) : List Trc := (List.range tk.words.length).map fun k => (t, k, tk.swept.getD k 0, tk.words.getD k [])
def traceM (pl : Plan) (first m : Nat) : List Trc := ((List.range m).map fun i => trc1 (first + i) (tkN pl (first + i))).flatten
def TrcAt (H : Hp) (a : Addr) (x : Trc) : Prop := H a = some (.tup [.int x.1, .int x.2.1, .int x.2.2.1, sV x.2.2.2])
theorem TrcAt.same {H H' : Hp} (s : Same H H') {a : Addr} {x : Trc} (h : TrcAt H a x) : TrcAt H' a x := s _ _ h
theorem tk_words (pl : Plan) (h : ∀ r ∈ pl.robots, r.1 < pl.floor.length) (t : Nat) : (tkN pl t).words.length = pl.robots.length ∧ (tkN pl t).swept.length = pl.robots.length := by
  have hw := (st_wf h t).ro
  refine ⟨?_, ?_⟩
  · show (actsM pl.rules (stN pl t) (stN pl t).robots.length).1.length = _
    rw [acts_len, hw]
  · show ((stN pl t).robots.map (·.1)).length = _
    rw [List.length_map, hw]
theorem trc1_take {t : Nat} {tk : TickM} {k : Nat} {a : Nat} {wd : Cs} (h1 : tk.swept[k]? = some a) (h2 : tk.words[k]? = some wd) : (trc1 t tk).take (k + 1) = (trc1 t tk).take k ++ [(t, k, a, wd)] := by
  have hk : k < tk.words.length := (List.getElem?_eq_some_iff.mp h2).1
  unfold trc1
  rw [List.take_succ, List.getElem?_map, List.getElem?_range hk]
  simp [List.getD_eq_getElem?_getD, h1, h2]
theorem trc1_len (t : Nat) (tk : TickM) : (trc1 t tk).length = tk.words.length := by simp [trc1]
theorem trace_succ (pl : Plan) (first i : Nat) : traceM pl first (i + 1) = traceM pl first i ++ trc1 (first + i) (tkN pl (first + i)) := by
  unfold traceM
  rw [List.range_succ]
  simp
theorem trace_len {pl : Plan} (h : ∀ r ∈ pl.robots, r.1 < pl.floor.length) (first : Nat) : ∀ m, (traceM pl first m).length = m * pl.robots.length
  | 0 => by simp [traceM]
  | m + 1 => by
    rw [trace_succ, List.length_append, trace_len h first m, trc1_len, (tk_words pl h _).1, Nat.add_mul]
    omega
section
variable {P : Program} {w : World} {K : PySem.W.Frag} {mg : Str → Option Value} {base : Heap}
def spTrace : SpG := fun vs H Q _ => ∃ (text : Cs) (pl : Plan) (first m : Nat), vs = [sV text, .int first, .int ((first : Int) + (m : Int) - 1)] ∧ Reads text pl ∧ WfP pl ∧ Early pl 20000 ∧ first ≤ 1000000000000000000 ∧ first + m ≤ 1000000000000000001 ∧ m ≤ 500 ∧
  ∀ (ts : List Addr) (H' : Hp), Same H H' → Paired (TrcAt H') ts (traceM pl first m) → Q (ts.map V.ref) H'
abbrev trN : List Str := ["plan", "first", "last", "parsed", "story", "tick", "one", "number", "tile", "word"]
theorem sc_tra : GScope trN ["plan", "first", "last"] (defScope s_trace) := ⟨rfl, rfl, rfl, by decide +kernel, rfl, by decide +kernel, by decide +kernel⟩
theorem ok_tra (T : TraT K mg) : ∃ fd, GFn P w K mg base 10 (He.fAd K ("trace", none)) fd ["plan", "first", "last"] spTrace ∧ Binds K fd ["plan", "first", "last"] [] ∧ PySem.W.keepIn K (.ref (He.fAd K ("trace", none))) = true := by
  obtain ⟨fd, F⟩ := T.tr.d
  obtain ⟨fdL, GL, bL, kL⟩ := ok_read (P := P) (w := w) (base := base) T.c.h.s.m.lo
  obtain ⟨fdC, GC, bC, kC⟩ := ok_ckt (P := P) (w := w) (base := base) T.c
  obtain ⟨fdS, GS, bS, kS⟩ := ok_story (P := P) (w := w) (base := base) T.c.h.s
  obtain ⟨fdH, GH, bH, kH⟩ := ok_happens (P := P) (w := w) (base := base) T.c.h
  obtain ⟨fdI, GI, bI, kI⟩ := ok_is_int_in (P := P) (w := w) (base := base) T.c.h.s.m
  obtain ⟨tMT, mMT⟩ := T.c.MAXT
  obtain ⟨tMR, mMR⟩ := T.MAXR
  have kp := F.kp
  have bn := F.bindsN (ps := ["plan", "first", "last"]) fun _ _ _ _ _ _ us hl => match us, hl with | [_, _, _], _ => rfl
  obtain ⟨oc, od, dV, kV, doc, pm, an, cd, ct, osl, rfl, lk, hcd, _, _⟩ := F.ex
  refine ⟨_, gfn_of lk hcd sc_tra (fun vs H Q E h => ?_) (fun A outer s H vs Q E pn hr h => ?_), bn, kp⟩
  · obtain ⟨text, pl, first, m, rfl, _⟩ := h
    rfl
  · obtain ⟨text, pl, first, m, rfl, hR, wf, hea, h1, h2, h3, k⟩ := h
    have hr1 : Room 1 _ := hr.mono (by decide)
    have hr2 : Room 2 _ := hr.mono (by decide)
    have hr3 : Room 3 _ := hr.mono (by decide)
    have hr6 : Room 6 _ := hr.mono (by decide)
    have hr8 : Room 8 _ := hr.mono (by decide)
    refine ⟨_, (gss_cons (gs_ps (ps_set (i := 3) sc_tra.nd rfl (.inl rfl) (pe_call GL hr8 rfl T.c.h.s.m.lo.g_load kL bL .nil pass0 (pa_cons (pv 0) pa_nil))))
      (gss_cons (gs_ps (ps_expr (pe_call GC hr2 rfl T.c.ck.g kC bC .nil pass0 (pa_cons (pv 1) pa_nil))))
      (gss_cons (gs_ps (ps_if (pt_not (pt_val (pe_call GI hr1 rfl T.c.h.s.m.is_int_in.g kI bI .nil pass0 (pa_cons (pv 2) (pa_cons (pe_op op_sub (pv 1) pe_int) (pa_cons (pe_callB (call_min2 rfl) (by rfl) T.min (by decide +kernel) (pa_cons (pe_glob (v := .int 1000000000000000000) rfl mMT ⟨_, rfl⟩) (pa_cons (pe_op op_sub (pe_op op_add (pv 1) (pe_glob (v := .int 500) rfl mMR ⟨_, rfl⟩)) pe_int) pa_nil))) pa_nil))))))
        (pss_one ps_no) pss_nil))
      (gss_cons (gs_ps (ps_set (i := 4) sc_tra.nd rfl (.inl rfl) (pe_make T.c.h.s.sto.m GS hr6 rfl T.c.h.s.sto.g bS .nil pass0 (pa_cons (pv 3) pa_nil))))
      (gss_cons (gs_for owns_gcx rfl (pi_range2 (by rfl) T.range (pa_cons (pv 1) (pa_cons (pe_op op_add (pv 2) pe_int) pa_nil))) (pg_name (i := 5) sc_tra.nd rfl (.inl rfl))
        (gss_cons (gs_ps (ps_set (i := 6) sc_tra.nd rfl (.inl rfl) (pe_meth (pv 4) T.c.h.s.sto.c T.c.h.happens.m GH hr3 bH .nil pass0 (pa_cons (pv 5) pa_nil))))
        (gss_cons (gs_for owns_gcx rfl (pi_enumZ (by rfl) T.enumerate (by rfl) T.zip (pa_cons (pe_fld (pv 6) rfl) (pa_cons (pe_fld (pv 6) rfl) pa_nil))) (pg_tup rfl (pgs_cons (pg_name (i := 7) sc_tra.nd rfl (.inl rfl)) (pgs_cons (pg_tup rfl (pgs_cons (pg_name (i := 8) sc_tra.nd rfl (.inl rfl)) (pgs_cons (pg_name (i := 9) sc_tra.nd rfl (.inl rfl)) pgs_nil))) pgs_nil)))
          (gss_cons (gs_yield (pe_tup (pa_cons (pv 5) (pa_cons (pv 7) (pa_cons (pv 8) (pa_cons (pv 9) pa_nil))))))
          gss_nil))
        gss_nil)))
      gss_nil))))), ?_⟩
    refine ⟨_, rfl, text, pl, rfl, hR, fun pa H1 npa s1 hpl => ?_⟩
    refine ⟨_, rfl, first, rfl, h1, ?_⟩
    have hI : isIntIn (.int ((first : Int) + (m : Int) - 1)) ((first : Int) - 1) (if (first : Int) + 500 - 1 < 1000000000000000000 then (first : Int) + 500 - 1 else 1000000000000000000) = true := by
      unfold isIntIn
      simp
      split <;> omega
    refine ⟨_, rfl, _, rfl, _, _, rfl, rfl, _, rfl, _, _, rfl, rfl, _, _, rfl, rfl, _, _, rfl, _, _, _, _, rfl, .int _, ?_⟩
    rw [hI]
    refine ⟨_, rfl, ?_⟩
    refine ⟨_, rfl, ?_⟩
    intro x dx nx ndx ne
    refine story_wf hpl wf hea nx ndx fun n s2 H2 s12 hS => ⟨rfl, ?_⟩
    have s02 := s1.trans s12
    have h3r := wf.r3
    have hrt := wf.rt
    -- the ticks
    refine ⟨_, rfl, _, rfl, _, _, rfl, rfl, _, _, rfl, by omega, ?_⟩
    have eN : ((first : Int) + (m : Int) - 1 + 1 - (first : Int)).toNat = m := by omega
    rw [eN]
    refine gfor_it (walk_range (lo := (first : Int)) (n := m)) (fun i ys σ H3 => ∃ (ts : List Addr) (o5 o6 o7 o8 o9 : Option V), ys = ts.map V.ref ∧ σ = [some (sV text), some (.int first), some (.int ((first : Int) + (m : Int) - 1)), some (.ref pa), some (.ref x), o5, o6, o7, o8, o9] ∧ Same H2 H3 ∧ Paired (TrcAt H3) ts (traceM pl first i))
      ⟨[], _, _, _, _, _, rfl, rfl, Same.refl _, .nil⟩ (fun _ _ _ _ _ _ => trivial) ?_ ?_
    · rintro i v ys σ H3 H3' hi ⟨ts, o5, o6, o7, o8, o9, rfl, rfl, sm, hts⟩ ⟨rfl, ev⟩
      have et : (first : Int) + (i : Nat) = ((first + i : Nat) : Int) := by omega
      have ev2 : v = V.int ((first + i : Nat) : Int) := ev.trans (congrArg V.int et)
      subst ev2
      have hS3 := hS.same sm
      obtain ⟨dy, tl, tas, e1, _⟩ := id hS3
      refine ⟨_, rfl, x, dy, _, rfl, e1, lo_no_happens, _, rfl, x, pl, n, s2, first + i, rfl, hS3, fun ta hT => ?_⟩
      obtain ⟨dt, sw, wo, sb, w1, w2, w3, w4⟩ := id hT
      obtain ⟨lw, ls⟩ := tk_words pl hrt (first + i)
      have htl := hts.length
      rw [trace_len hrt] at htl
      refine ⟨_, rfl, ta, _, dt, _, _, rfl, w1, T.c.h.s.m.tick.c, T.c.h.s.m.tick.n _ (by simp), lt_swept, _, rfl, ta, _, dt, _, _, rfl, w1, T.c.h.s.m.tick.c, T.c.h.s.m.tick.n _ (by simp), lt_words, sw, wo, _, _, rfl, w2.sq, SqT.of w3, ?_⟩
      have hlen : ((tkN pl (first + i)).swept.map iV).length = ((tkN pl (first + i)).words.map sV).length := by rw [List.length_map, List.length_map, lw, ls]
      refine gfor_it (walk_enumZ (K := K) (a := sw) (b := wo) hlen) (fun j ys σ H4 => ∃ (ts : List Addr) (o7 o8 o9 : Option V), ys = ts.map V.ref ∧ σ = [some (sV text), some (.int first), some (.int ((first : Int) + (m : Int) - 1)), some (.ref pa), some (.ref x), some (.int (first + i : Nat)), some (.ref ta), o7, o8, o9] ∧ Same H3' H4 ∧ Paired (TrcAt H4) ts (traceM pl first i ++ (trc1 (first + i) (tkN pl (first + i))).take j))
        ⟨ts, _, _, _, rfl, rfl, Same.refl _, by rw [List.take_zero, List.append_nil]; exact hts⟩ (fun j ys σ H4 _ ⟨_, _, _, _, _, _, sm4, _⟩ => ⟨(w2.mono fun _ z => sm4 _ _ z).sq, SqT.of (sm4 _ _ w3)⟩) ?_ ?_
      · rintro j v ys σ H4 H4' hj ⟨ts4, o7, o8, o9, rfl, rfl, sm4, hts4⟩ ⟨T1, T2, y1, y2, rfl, nT1, nT2, nT, rfl, hy1, hy2⟩
        rw [List.getElem?_map] at hy1 hy2
        cases ha : (tkN pl (first + i)).swept[j]? with
        | none => rw [ha] at hy1; cases hy1
        | some a1 =>
          cases hb : (tkN pl (first + i)).words[j]? with
          | none => rw [hb] at hy2; cases hy2
          | some b1 =>
            rw [ha] at hy1
            rw [hb] at hy2
            cases hy1
            cases hy2
            have s5 : Same H4 (upd H4 T1 (.tup [iV a1, sV b1])) := sameUpd (Same.refl _) nT1
            have nT2' : (upd H4 T1 (.tup [iV a1, sV b1])) T2 = none := (upd_ne nT).trans nT2
            have s6 := sameUpd (o := .tup [.int (j : Nat), .ref T1]) (Same.refl (upd H4 T1 (.tup [iV a1, sV b1]))) nT2'
            have hT1 := s6 _ _ (@upd_same H4 T1 (.tup [iV a1, sV b1]))
            have hT2 := @upd_same (upd H4 T1 (.tup [iV a1, sV b1])) T2 (.tup [.int (j : Nat), .ref T1])
            have s46 := s5.trans s6
            generalize upd (upd H4 T1 (.tup [iV a1, sV b1])) T2 (.tup [.int (j : Nat), .ref T1]) = H6 at *
            have htl4 := hts4.length
            rw [List.length_append, trace_len hrt, List.length_take, trc1_len] at htl4
            refine ⟨T2, _, rfl, SqT.of hT2, rfl, _, _, rfl, _, _, rfl, T1, _, rfl, SqT.of hT1, rfl, _, _, rfl, _, _, rfl, rfl, rfl, ?_⟩
            have hmul : i * pl.robots.length ≤ 500 * 3 := Nat.mul_le_mul (by omega) h3r
            refine ⟨by rw [List.length_map, sizeLine_eq]; omega, ?_⟩
            refine ⟨_, rfl, _, rfl, _, rfl, _, rfl, (by show 4 ≤ sizeLine; decide), fun t4 nt4 => ?_⟩
            have s7 := sameUpd (o := .tup [.int (first + i : Nat), .int (j : Nat), iV a1, sV b1]) (Same.refl H6) nt4
            refine ⟨ts4 ++ [t4], _, _, _, by rw [List.map_append]; rfl, rfl, (sm4.trans s46).trans s7, ?_⟩
            rw [trc1_take ha hb, ← List.append_assoc]
            exact paired_append (Paired.mapP hts4 fun _ _ q => TrcAt.same (s46.trans s7) q) (.cons upd_same .nil)
      · rintro ys σ H4 ⟨ts4, o7, o8, o9, rfl, rfl, sm4, hts4⟩
        rw [List.length_map, ls, List.take_of_length_le (by rw [trc1_len, lw]; exact Nat.le_refl _), ← trace_succ] at hts4
        exact ⟨ts4, _, _, _, _, _, rfl, rfl, sm.trans sm4, hts4⟩
    · rintro ys σ H3 ⟨ts, o5, o6, o7, o8, o9, rfl, rfl, sm, hts⟩
      exact k ts H3 (s02.trans sm) hts
end
end Sw

end

section
set_option maxRecDepth 100000
set_option maxHeartbeats 4000000
/-! the law's own: draws -/
namespace Sw
open PySem PySem.Spec PyProof.Rows L2 SwA
/-- the source of numbers -/
def drawL (s c : Int) (bs : List Int) : HO := .lst (.int s :: .int c :: bs.map V.int)
def DrawAt (H : Hp) (d : Addr) : Prop := ∃ (s c : Int) (bs : List Int), bs.length ≤ 63 ∧ H d = some (drawL s c bs)
/-- all but d stands, d is drawn from -/
structure Drawn (d : Addr) (H H' : Hp) : Prop where
  same : ∀ b o, b ≠ d → H b = some o → H' b = some o
  at_ : DrawAt H' d
theorem Drawn.trans {d : Addr} {H H1 H2 : Hp} (a : Drawn d H H1) (b : Drawn d H1 H2) : Drawn d H H2 := ⟨fun x o h e => b.same x o h (a.same x o h e), b.at_⟩
theorem Drawn.refl {d : Addr} {H : Hp} (h : DrawAt H d) : Drawn d H H := ⟨fun _ _ _ e => e, h⟩
theorem Drawn.of {d : Addr} {H H' : Hp} (h : DrawAt H d) (s : Same H H') : Drawn d H H' := ⟨fun _ _ _ e => s _ _ e, let ⟨a, b, c, l, e⟩ := h; ⟨a, b, c, l, s _ _ e⟩⟩
theorem Drawn.new {d : Addr} {H H' : Hp} {x : Addr} {o : HO} (h : Drawn d H H') (hx : H' x = none) : Drawn d H (upd H' x o) :=
  h.trans (Drawn.of h.at_ (sameUpd (Same.refl _) hx))
theorem Drawn.free {d : Addr} {H H' : Hp} {a : Addr} (h : Drawn d H H') (h0 : ∃ o, H d = some o) (n : H' a = none) : H a = none := by
  cases e : H a with
  | none => rfl
  | some o =>
    by_cases z : a = d
    · obtain ⟨s, c, bs, _, q⟩ := h.at_
      rw [z, q] at n
      cases n
    · rw [h.same a o z e] at n
      cases n
structure LawT (K : PySem.W.Frag) (mg : Str → Option Value) : Prop where
  len : mg "len" = none
  abs : mg "abs" = none
  list : mg "list" = none
  tuple : mg "tuple" = none
  range : mg "range" = none
  random : DeT K mg "_law_random" s__law_random
  below : DeT K mg "_law_below" s__law_below
theorem at1 {x y : V} {xs : List V} : atI (x :: y :: xs) 1 = some y := atI_nat (j := 1) rfl
theorem atz {x : V} {xs : List V} : atI (x :: xs) 0 = some x := atI_nat (j := 0) rfl
theorem ixN1 {x y : V} {xs : List V} : ixN (x :: y :: xs).length 1 = some 1 := by
  unfold ixN
  rw [if_pos (by decide), if_pos (by simp; omega)]
  rfl
theorem ixN0 {x : V} {xs : List V} : ixN (x :: xs).length 0 = some 0 := by
  unfold ixN
  rw [if_pos (by decide), if_pos (by simp only [List.length_cons]; omega)]
  rfl
theorem sIx2 {x y z : V} {xs : List V} : seqIndex? 2 (x :: y :: z :: xs).length = some 2 := by
  have h : ixN (x :: y :: z :: xs).length 2 = some 2 := by
    unfold ixN
    rw [if_pos (by decide), if_pos (by simp; omega)]
    rfl
  exact (ixN_seq h).1
section
variable {P : Program} {w : World} {K : PySem.W.Frag} {mg : Str → Option Value} {base : Heap}
/-! ### _law_below -/
def spBelow : Sp := fun vs H Q _ => ∃ (d : Addr) (n : Nat), vs = [.ref d, .int n] ∧ DrawAt H d ∧ 1 ≤ n ∧ n < 10000000 ∧ ∀ (r : Nat) (s c : Int) (bs : List Int), r < n → bs.length ≤ 63 → Q (.int r) (upd H d (drawL s c bs))
abbrev beN : List Str := ["_law_d", "_law_limit", "_law_result"]
theorem sc_below : FnScope beN ["_law_d", "_law_limit"] (defScope s__law_below) := ⟨rfl, rfl, rfl, by decide +kernel, rfl, by decide +kernel, by decide +kernel⟩
theorem modNat (i : Int) {n : Nat} (h : 1 ≤ n) : ∃ r : Nat, r < n ∧ i % (n : Int) = r := by
  have h1 := Int.emod_nonneg i (show (n : Int) ≠ 0 by omega)
  have h2 := Int.emod_lt_of_pos i (show (0 : Int) < n by omega)
  exact ⟨(i % (n : Int)).toNat, by omega, by omega⟩
theorem ok_below (T : LawT K mg) : FnE P w K mg base CX0 1 ("_law_below", none) ["_law_d", "_law_limit"] spBelow := by
  obtain ⟨fd, F⟩ := T.below.d
  refine ⟨fd, F.ok sc_below (fun vs H Q E h => ?_) (fun cdv A outer s H vs Q E hr h => ?_), F.bindsN fun _ _ _ _ _ _ us hl => match us, hl with | [_, _], _ => rfl, F.kp⟩
  · obtain ⟨d, n, rfl, _⟩ := h
    rfl
  · obtain ⟨d, n, rfl, ⟨sd, cu, bs, hb, hd⟩, h1, h2, k⟩ := h
    refine ⟨_, PSs.nox (C8.pss_cut (ps_if (PW.pt (pw_and (pt_cmpR op_eq (pe_ix ix_list (pv 0) pe_int (fun _ _ => rfl)) pe_int (nomark _)) (pw_and1 (pt_cmpR op_gt (pe_callB call_len_seq (by rfl) T.len boot_len (pa_cons (pv 0) pa_nil)) pe_int (nomark _)))))
        (pss_one (ps_asg (pe_bm PySem.F.plainAttrs_list PySem.F.slot_list_pop PySem.F.type_list_pop mt_popAt (pv 0) (pa_cons pe_int pa_nil)) (pg_sub (pv 0) pe_int set_list (fun _ => rfl)))) pss_nil)
      (pss_cons (ps_if (pt_cmpR op_gt (pe_ix ix_list (pv 0) pe_int (fun _ _ => rfl)) pe_int (nomark _))
        (pss_cons (ps_set (i := 2) sc_below.nd rfl (.inl rfl) (pe_op op_mod (pe_ix ix_list (pv 0) pe_int (fun _ _ => rfl)) (pv 1)))
        (pss_cons (ps_asg (pe_op op_fdiv (pe_ix ix_list (pv 0) pe_int (fun _ _ => rfl)) (pv 1)) (pg_sub (pv 0) pe_int set_list (fun _ => rfl)))
        (pss_one (ps_ret (pv 2))))) pss_nil)
      (pss_cons (ps_asg (pe_op op_mod (pe_op op_add (pe_op op_mul (pe_ix ix_list (pv 0) pe_int (fun _ _ => rfl)) pe_int) pe_int) pe_int) (pg_sub (pv 0) pe_int set_list (fun _ => rfl)))
      (pss_one (ps_ret (pe_op op_mod (pe_op op_fdiv (pe_ix ix_list (pv 0) pe_int (fun _ _ => rfl)) pe_int) (pv 1))))))), ?_⟩
    have hself : H = upd H d (drawL sd cu bs) := by
      funext b
      by_cases e : b = d
      · rw [e, upd_same, hd]
      · rw [upd_ne e]
    refine ⟨fun σ' H' => σ' = [some (.ref d), some (.int n), none] ∧ ∃ (s c : Int) (bs : List Int), bs.length ≤ 63 ∧ H' = upd H d (drawL s c bs), ?_, ?_⟩
    · refine ⟨_, rfl, d, _, _, _, rfl, rfl, SqL.of hd, at1, rfl, _, rfl, ?_⟩
      refine ite2 (fun h => ?_) (fun h => ?_)
      · refine ⟨_, rfl, d, _, rfl, .inl (SqL.of hd), _, _, rfl, rfl, _, rfl, ?_⟩
        refine ite2 (fun h3 => ?_) (fun h3 => ?_)
        · cases bs with
          | nil => exact absurd (of_decide_eq_true h3) (by simp)
          | cons b bs =>
            refine ⟨_, rfl, .inl ⟨rfl, _, SqL.of hd⟩, d, _, 2, 2, .int b, rfl, rfl, hd, by decide, by decide, ?_, rfl, ?_⟩
            · exact sIx2
            · refine ⟨_, rfl, d, _, _, 1, rfl, rfl, upd_same, ?_, ?_⟩
              · exact ixN1
              · refine ⟨rfl, sd, b, bs, by simp at hb; omega, ?_⟩
                rw [upd_upd]
                rfl
        · exact ⟨rfl, sd, cu, bs, hb, hself⟩
      · exact ⟨rfl, sd, cu, bs, hb, hself⟩
    · rintro σ' H' ⟨rfl, s2, c2, bs2, hb2, rfl⟩
      have hd2 : (upd H d (drawL s2 c2 bs2)) d = some (.lst (.int s2 :: .int c2 :: bs2.map V.int)) := upd_same
      refine ⟨_, rfl, d, _, _, _, rfl, rfl, SqL.of hd2, at1, _, _, rfl, rfl, _, rfl, ?_⟩
      refine ite2 (fun h => ?_) (fun h => ?_)
      · obtain ⟨r, hr1, hr2⟩ := modNat c2 h1
        refine ⟨_, rfl, d, _, _, _, rfl, rfl, SqL.of hd2, at1, _, rfl, _, _, rfl, rfl, by omega, ?_⟩
        replace k := k r s2 (c2 / n) bs2 hr1 hb2
        rw [← hr2] at k
        refine ⟨_, rfl, d, _, _, _, rfl, rfl, SqL.of hd2, at1, _, rfl, _, _, rfl, rfl, ⟨by omega, by omega⟩, ?_⟩
        refine ⟨_, rfl, d, _, _, 1, rfl, rfl, hd2, ?_, ?_⟩
        · exact ixN1
        · refine ⟨_, rfl, ?_⟩
          rw [upd_upd]
          exact k
      · refine ⟨_, rfl, d, _, _, _, rfl, rfl, SqL.of hd2, atz, _, _, rfl, rfl, .inr (by decide), _, _, rfl, rfl, _, _, rfl, rfl, (by show (0 : Int) < 2147483647; decide), ?_⟩
        refine ⟨_, rfl, d, _, _, 0, rfl, rfl, hd2, ?_, ?_⟩
        · exact ixN0
        · rw [upd_upd]
          refine ⟨_, rfl, d, _, _, _, rfl, rfl, SqL.of upd_same, atz, _, _, rfl, rfl, ⟨by decide, by decide⟩, _, rfl, _, _, rfl, rfl, by omega, ?_⟩
          obtain ⟨r, hr1, hr2⟩ := modNat ((s2 * 48271 + 11) % 2147483647 / 64) h1
          replace k := k r ((s2 * 48271 + 11) % 2147483647) c2 bs2 hr1 hb2
          rw [← hr2] at k
          exact k
/-! ### _law_random -/
def spRandom (K : PySem.W.Frag) : Sp := fun vs H Q _ => ∃ (sc : Addr) (salt : Int) (ns : List Int), vs = [.ref sc, .int salt] ∧ SqL K H sc (ns.map V.int) ∧ ns.length ≤ 63 ∧
  ∀ (d : Addr) (H' : Hp), H d = none → Same H H' → DrawAt H' d → Q (.ref d) H'
abbrev raN : List Str := ["_law_script", "_law_salt", "_law_seed", "_law_cell"]
theorem sc_random : FnScope raN ["_law_script", "_law_salt"] (defScope s__law_random) := ⟨rfl, rfl, rfl, by decide +kernel, rfl, by decide +kernel, by decide +kernel⟩
theorem sqL_same {H H' : Hp} (s : Same H H') {a : Addr} {xs : List V} (h : SqL K H a xs) : SqL K H' a xs := h.elim (fun q => .inl (q.elim (fun z => .inl (s _ _ z)) fun ⟨o, z⟩ => .inr ⟨o, s _ _ z⟩)) .inr
theorem ok_random (T : LawT K mg) : FnE P w K mg base CX0 1 ("_law_random", none) ["_law_script", "_law_salt"] (spRandom K) := by
  obtain ⟨fd, F⟩ := T.random.d
  refine ⟨fd, F.ok sc_random (fun vs H Q E h => ?_) (fun cdv A outer s H vs Q E hr h => ?_), F.bindsN fun _ _ _ _ _ _ us hl => match us, hl with | [_, _], _ => rfl, F.kp⟩
  · obtain ⟨sc, salt, ns, rfl, _⟩ := h
    rfl
  · obtain ⟨sc, salt, ns, rfl, hs, hl, k⟩ := h
    refine ⟨_, PSs.nox (pss_cons (ps_set (i := 2) sc_random.nd rfl (.inl rfl) (pv 1))
      (pss_cons (ps_for PassesOwn.never rfl (pi_list (pv 0)) (pg_name (i := 3) sc_random.nd rfl (.inl rfl))
        (pss_one (ps_set (i := 2) sc_random.nd rfl (.inl rfl) (pe_op op_mod (pe_op op_add (pe_op op_mul (pv 2) pe_int) (pe_callB call_abs (by rfl) T.abs (by decide +kernel) (pa_cons (pv 3) pa_nil))) pe_int))))
      (pss_one (ps_ret (pe_op op_cat (pe_lst (pa_cons (pv 2) (pa_cons pe_int pa_nil)))
        (pe_lc (own := [("_law_cell", 3)]) (g := gName 3) (te := tVar 3) rfl sc_random.nd (pi_list (pv 0)) (blkOk_by (own := [("_law_cell", 3)]) (N := raN) (sc := defScope s__law_random) (by decide +kernel))
          (fun _ _ _ _ _ => pg_name (i := 3) sc_random.nd rfl (Or.inl rfl)) (fun _ _ _ _ _ => pts_one (pt_cmpR op_ge (pv 3) (pe_op op_pow pe_int pe_int) (nomark _))) (fun _ _ _ _ _ => pv 3))))))), ?_⟩
    refine ⟨_, rfl, ?_⟩
    refine ⟨_, rfl, sc, rfl, ⟨_, hs⟩, ?_⟩
    refine for_list (K := K) (a := sc) (xs := ns.map V.int) (fun i σ H2 => H2 = H ∧ ∃ (z : Int) (o : Option V), σ = [some (.ref sc), some (.int salt), some (.int z), o]) ⟨rfl, salt, none, rfl⟩ (fun i σ H2 _ h => by rw [h.1]; exact hs) ?_ ?_
    · rintro i x σ H2 hx ⟨rfl, z, o, rfl⟩
      rw [List.getElem?_map] at hx
      cases hn : ns[i]? with
      | none => rw [hn] at hx; cases hx
      | some m =>
        rw [hn] at hx
        cases hx
        exact ⟨_, rfl, _, _, rfl, rfl, .inr (by decide), _, rfl, _, rfl, _, _, rfl, rfl, _, _, rfl, rfl, (by show (0 : Int) < 2147483647; decide), rfl, _, _, rfl⟩
    · rintro σ H2 ⟨rfl, z, o, rfl⟩
      refine ⟨_, rfl, (by show 2 ≤ sizeLine; decide), fun l1 nl1 => ?_⟩
      have s1 := sameUpd (o := .lst [.int z, .int 0]) (Same.refl H2) nl1
      have hl1 := @upd_same H2 l1 (.lst [.int z, .int 0])
      generalize upd H2 l1 (.lst [.int z, .int 0]) = H3 at *
      refine ⟨_, rfl, sc, rfl, ⟨_, sqL_same s1 hs⟩, fun D nD => ?_⟩
      refine lc_list (K := K) (a := sc) (xs := ns.map V.int) (vs := [3]) (fun i H4 => ∃ bs : List Int, bs.length ≤ i ∧ H4 D = some (.lst (bs.map V.int)) ∧ Same H3 H4) ⟨[], Nat.le_refl _, upd_same, sameUpd (Same.refl H3) nD⟩ (fun i H4 _ ⟨_, _, _, sm⟩ => sqL_same sm (sqL_same s1 hs)) ?_ ?_
      · rintro i x H4 hx ⟨bs, hb, hD, sm⟩
        rw [List.getElem?_map] at hx
        cases hn : ns[i]? with
        | none => rw [hn] at hx; cases hx
        | some m =>
          rw [hn] at hx
          cases hx
          have hi : i < ns.length := (List.getElem?_eq_some_iff.mp hn).1
          refine ⟨rfl, _, rfl, _, _, rfl, rfl, ⟨by decide, by decide, by decide⟩, _, _, rfl, rfl, _, rfl, ?_⟩
          refine ite2 (fun h => ?_) (fun h => ?_)
          · refine ⟨_, rfl, _, hD, ?_, bs ++ [m], by simp; omega, ?_, sameUpd sm nD⟩
            · rw [List.length_map, sizeLine_eq]
              omega
            · rw [upd_same, List.map_append]
              rfl
          · exact ⟨bs, by omega, hD, sm⟩
      · rintro H4 ⟨bs, hb, hD, sm⟩
        rw [List.length_map] at hb
        refine ⟨l1, D, _, _, rfl, rfl, sm _ _ hl1, hD, ?_, fun d nd => ?_⟩
        · rw [List.length_map, sizeLine_eq]
          simp
          omega
        · have s4 := sameUpd (o := .lst ([.int z, .int 0] ++ bs.map V.int)) (Same.refl H4) nd
          exact k d _ ((s1.trans sm).free nd) ((s1.trans sm).trans s4) ⟨z, 0, bs, by omega, upd_same⟩
end
theorem Drawn.put {d : Addr} {H H' : Hp} {x : Addr} {o : HO} (h : Drawn d H H') (hx : H x = none) (nd : x ≠ d) : Drawn d H (upd H' x o) :=
  ⟨fun b u hb e => by
    rw [upd_ne (ne_of_none e hx)]
    exact h.same b u hb e, let ⟨s, c, bs, hl, e⟩ := h.at_; ⟨s, c, bs, hl, (upd_ne (Ne.symm nd)).trans e⟩⟩
theorem Drawn.draw {d : Addr} {H H' : Hp} {s c : Int} {bs : List Int} (h : Drawn d H H') (hl : bs.length ≤ 63) : Drawn d H (upd H' d (drawL s c bs)) :=
  ⟨fun b u hb e => by
    rw [upd_ne hb]
    exact h.same b u hb e, ⟨s, c, bs, hl, upd_same⟩⟩
end Sw

end

section
set_option maxRecDepth 100000
set_option maxHeartbeats 4000000
/-! the law's own: shuffled -/
namespace Sw
open PySem PySem.Spec PyProof.Rows L2 SwA
theorem perm_erase : ∀ (l : List V) (i : Nat) (h : i < l.length), (l[i] :: l.eraseIdx i).Perm l
  | a :: l, 0, _ => .refl _
  | a :: l, i + 1, h => by
    have h' : i < l.length := by simpa using h
    have ih := perm_erase l i h'
    show (l[i] :: a :: l.eraseIdx i).Perm (a :: l)
    exact (List.Perm.swap a _ _).trans (ih.cons a)
structure ShuT (K : PySem.W.Frag) (mg : Str → Option Value) : Prop where
  l : LawT K mg
  shuffled : DeT K mg "_law_shuffled" s__law_shuffled
section
variable {P : Program} {w : World} {K : PySem.W.Frag} {mg : Str → Option Value} {base : Heap}
def spShuffled (K : PySem.W.Frag) : Sp := fun vs H Q _ => ∃ (d it : Addr) (xs : List V), vs = [.ref d, .ref it] ∧ DrawAt H d ∧ SqL K H it xs ∧ xs.length ≤ 1000 ∧
  ∀ (r : Addr) (H' : Hp) (ys : List V), ys.Perm xs → Drawn d H H' → H r = none → H' r = some (.lst ys) → Q (.ref r) H'
abbrev shN : List Str := ["_law_d", "_law_items", "_law_pool", "_law_result"]
theorem sc_shuffled : FnScope shN ["_law_d", "_law_items"] (defScope s__law_shuffled) := ⟨rfl, rfl, rfl, by decide +kernel, rfl, by decide +kernel, by decide +kernel⟩
theorem ok_shuffled (T : ShuT K mg) : FnE P w K mg base CX0 2 ("_law_shuffled", none) ["_law_d", "_law_items"] (spShuffled K) := by
  obtain ⟨fd, F⟩ := T.shuffled.d
  obtain ⟨fdB, GB, bB, kB⟩ := ok_below (P := P) (w := w) (base := base) T.l
  refine ⟨fd, F.ok sc_shuffled (fun vs H Q E h => ?_) (fun cdv A outer s H vs Q E hr h => ?_), F.bindsN fun _ _ _ _ _ _ us hl => match us, hl with | [_, _], _ => rfl, F.kp⟩
  · obtain ⟨d, it, xs, rfl, _⟩ := h
    rfl
  · obtain ⟨d, it, xs, rfl, hd, hi, hl, k⟩ := h
    refine ⟨_, PSs.nox (pss_cons (ps_set (i := 2) sc_shuffled.nd rfl (.inl rfl) (pe_callTy call_list_of (by rfl) T.l.list (by decide +kernel) (pa_cons (pv 1) pa_nil)))
      (pss_cons (ps_set (i := 3) sc_shuffled.nd rfl (.inl rfl) (pe_lst pa_nil))
      (pss_cons (ps_while PassesOwn.never (pt_cmpR (op_neNil (hu0 hr)) (pv 2) (pe_lst pa_nil) (nomark _))
        (pss_one (ps_expr (pe_bm PySem.F.plainAttrs_list PySem.F.slot_list_append PySem.F.type_list_append mt_append (pv 3)
          (pa_cons (pe_bm PySem.F.plainAttrs_list PySem.F.slot_list_pop PySem.F.type_list_pop mt_popAt (pv 2) (pa_cons (pe_call GB hr rfl T.l.below.g kB bB .nil pass0 (pa_cons (pv 0) (pa_cons (pe_callB call_len_seq (by rfl) T.l.len boot_len (pa_cons (pv 2) pa_nil)) pa_nil))) pa_nil)) pa_nil)))))
      (pss_one (ps_ret (pv 3)))))), ?_⟩
    refine ⟨_, rfl, it, _, rfl, .inl hi, fun pl npl => ?_⟩
    have d1 := (Drawn.refl hd).new (o := .lst xs) npl
    have hpl := @upd_same H pl (.lst xs)
    have pld : pl ≠ d := fun z => by
      obtain ⟨_, _, _, _, q⟩ := hd
      rw [z, q] at npl
      cases npl
    generalize upd H pl (.lst xs) = H1 at *
    refine ⟨(by show 0 ≤ sizeLine; decide), fun rl nrl => ?_⟩
    have d2 := d1.new (o := .lst []) nrl
    have hrl := @upd_same H1 rl (.lst [])
    have plrl : pl ≠ rl := ne_of_none hpl nrl
    have hpl2 : (upd H1 rl (.lst [])) pl = some (.lst xs) := (upd_ne plrl).trans hpl
    have nrl0 : H rl = none := d1.free (let ⟨s, c, bs, _, e⟩ := hd; ⟨_, e⟩) nrl
    have rld : rl ≠ d := fun z => by
      obtain ⟨_, _, _, _, q⟩ := d1.at_
      rw [z, q] at nrl
      cases nrl
    generalize upd H1 rl (.lst []) = H2 at *
    refine ⟨fun m σ H3 => ∃ (zs ys : List V), m = zs.length ∧ σ = [some (.ref d), some (.ref it), some (.ref pl), some (.ref rl)] ∧ Drawn d H H3 ∧ H3 pl = some (.lst zs) ∧ H3 rl = some (.lst ys) ∧ (ys ++ zs).Perm xs, ⟨xs.length, xs, [], rfl, rfl, d2, hpl2, hrl, .refl _⟩, ?_⟩
    rintro m σ H3 ⟨zs, ys, rfl, rfl, d3, hp3, hr3, hper⟩
    have hlen : ys.length + zs.length = xs.length := by rw [← List.length_append, hper.length_eq]
    refine ⟨_, rfl, (by show 0 ≤ sizeLine; decide), fun el nel => ?_⟩
    have s4 := sameUpd (o := .lst []) (Same.refl H3) nel
    have d4 := d3.new (o := .lst []) nel
    have hel := @upd_same H3 el (.lst [])
    replace hp3 := s4 _ _ hp3
    replace hr3 := s4 _ _ hr3
    generalize upd H3 el (.lst []) = H4 at *
    refine ⟨pl, el, _, rfl, rfl, SqL.of hp3, SqL.of hel, _, rfl, ?_⟩
    cases zs with
    | nil =>
      rw [List.append_nil] at hper
      exact ⟨_, rfl, k rl H4 ys hper d4 nrl0 hr3⟩
    | cons z0 zs0 =>
      refine ⟨_, fun _ _ nn => nn, ?_⟩
      refine ⟨_, rfl, .inl ⟨rfl, _, SqL.of hr3⟩, _, rfl, .inl ⟨rfl, _, SqL.of hp3⟩, _, rfl, _, rfl, pl, _, rfl, .inl (SqL.of hp3), d, (z0 :: zs0).length, rfl, d4.at_, by simp, by simp at hlen ⊢; omega, fun r sd cu bs hrl hbs => ?_⟩
      have d5 := d4.draw (s := sd) (c := cu) hbs
      have hp5 : (upd H4 d (drawL sd cu bs)) pl = some (.lst (z0 :: zs0)) := (upd_ne pld).trans hp3
      have hr5 : (upd H4 d (drawL sd cu bs)) rl = some (.lst ys) := (upd_ne rld).trans hr3
      generalize upd H4 d (drawL sd cu bs) = H5 at *
      have hsi : seqIndex? (r : Int) (z0 :: zs0).length = some r := by
        have h0 : ixN (z0 :: zs0).length (r : Int) = some r := by
          unfold ixN
          rw [if_pos (by omega), if_pos (by omega), Int.toNat_natCast]
        exact (ixN_seq h0).1
      refine ⟨pl, _, (r : Int), r, (z0 :: zs0)[r], rfl, rfl, hp5, by omega, by simp only [List.length_cons] at hlen hrl; omega, hsi, List.getElem?_eq_getElem hrl, ?_⟩
      have d6 := d5.put (x := pl) (o := .lst ((z0 :: zs0).eraseIdx r)) npl pld
      refine ⟨rl, _, _, rfl, rfl, (upd_ne (Ne.symm plrl)).trans hr5, by rw [sizeLine_eq]; simp at hlen; omega, ?_⟩
      refine ⟨((z0 :: zs0).eraseIdx r).length, by rw [List.length_eraseIdx_of_lt hrl]; simp, (z0 :: zs0).eraseIdx r, ys ++ [(z0 :: zs0)[r]], rfl, rfl, d6.put nrl0 rld, ?_, upd_same, ?_⟩
      · rw [upd_ne plrl, upd_same]
      · refine List.Perm.trans ?_ hper
        rw [List.append_assoc]
        exact List.Perm.append_left ys (perm_erase _ r hrl)
end
end Sw

end

section
set_option maxRecDepth 100000
set_option maxHeartbeats 4000000
/-! the law's own: a plan -/
namespace Sw
open PySem PySem.Spec PyProof.Rows L2 SwA
/-- the law's tuple of a plan -/
def PlanV (H : Hp) (a : Addr) (pl : Plan) : Prop := ∃ (sa ma fa ra rd : Addr) (ras : List Addr), H a = some (.tup [.ref sa, .ref ma, .ref fa, .ref ra, .ref rd]) ∧ TupN H sa (pl.signs.map sV) ∧ TupN H ma (pl.moods.map sV) ∧
  H fa = some (.tup (pl.floor.map fun n : Nat => V.int n)) ∧ H ra = some (.tup (ras.map V.ref)) ∧ Paired (RobAt H) ras pl.robots ∧ RulesAt H rd pl.rules
structure PlaT (K : PySem.W.Frag) (mg : Str → Option Value) : Prop where
  s : ShuT K mg
  plan : DeT K mg "_law_plan" s__law_plan
theorem perm_ex {ys zs : List V} (h : ys.Perm zs) : ∀ {base : List Cs}, zs = base.map sV → ∃ bs : List Cs, bs.Perm base ∧ ys = bs.map sV := by
  induction h with
  | nil =>
    intro base e
    cases base with
    | nil => exact ⟨[], .refl _, rfl⟩
    | cons _ _ => cases e
  | @cons x l1 l2 _ ih =>
    intro base e
    cases base with
    | nil => cases e
    | cons b base =>
      injection e with e1 e2
      obtain ⟨bs, p, q⟩ := ih e2
      exact ⟨b :: bs, p.cons b, by rw [e1, q]; rfl⟩
  | @swap x y l =>
    intro base e
    cases base with
    | nil => cases e
    | cons b base =>
      cases base with
      | nil => cases e
      | cons c base =>
        injection e with e1 e2
        injection e2 with e3 e4
        exact ⟨c :: b :: base, .swap b c base, by rw [e1, e3, e4]; rfl⟩
  | @trans l1 l2 l3 _ _ ih1 ih2 =>
    intro base e
    obtain ⟨b2, p2, q2⟩ := ih2 e
    obtain ⟨b1, p1, q1⟩ := ih1 q2
    exact ⟨b1, p1.trans p2, q1⟩
def sBase : List Cs := [txt "no", txt "red", txt "blue", txt "longname", txt "x"]
def mBase : List Cs := [txt "go", txt "calm", txt "red", txt "b", txt "cc", txt "mmmmmmmm", txt "z"]
theorem base_ok {base : List Cs} (h : (base.all fun w => w.all isL && (decide (1 ≤ w.length) && (decide (w.length ≤ 8) && !decide (w ∈ kws)))) = true) (hn : base.Nodup) {bs : List Cs} (hp : bs.Perm base) (n : Nat) : NamesOk (bs.take n) := by
  refine ⟨((hp.nodup_iff).mpr hn).sublist (List.take_sublist n bs), fun w hw => ?_⟩
  have hm : w ∈ base := hp.mem_iff.mp (List.mem_of_mem_take hw)
  have := List.all_eq_true.mp h w hm
  simp only [Bool.and_eq_true, decide_eq_true_eq, List.all_eq_true, Bool.not_eq_true', decide_eq_false_iff_not] at this
  exact ⟨⟨this.1, this.2.1, this.2.2.1⟩, this.2.2.2⟩
theorem cut_take {xs : List V} {n : Nat} (h : n ≤ xs.length) : cutV xs none (some (n : Int)) = xs.take n := by
  show (xs.drop (HT.sIx xs.length 0 none)).take (HT.sIx xs.length xs.length (some (n : Int)) - HT.sIx xs.length 0 none) = xs.take n
  rw [HT.sIx_none, HT.sIx_nat, Nat.min_eq_left h]
  rfl
theorem cutS {Hb H : Hp} {l : List Addr} {x : Addr} {o : HO} (s : Same (cutH Hb l) H) (h : x ∈ l) : Same (cutH Hb l) (upd H x o) := sameUpd s (cutH_in h)
theorem cutN {Hb H : Hp} {l : List Addr} {x : Addr} {o : HO} (s : Same (cutH Hb l) H) (h : H x = none) : Same (cutH Hb l) (upd H x o) := sameUpd s (s.free h)
section
variable {P : Program} {w : World} {K : PySem.W.Frag} {mg : Str → Option Value} {base : Heap}
/-- the keys in order -/
def SortedR (rules : List ((Nat × Nat) × Rule)) : Prop := (rules.map (·.1)).Pairwise fun a b => a.1 < b.1 ∨ (a.1 = b.1 ∧ a.2 < b.2)
def spLPlan : Sp := fun vs H Q _ => ∃ (d : Addr) (most : Nat), vs = [.ref d, .int most] ∧ DrawAt H d ∧ 1 ≤ most ∧ most ≤ 16 ∧
  ∀ (a : Addr) (H' : Hp) (pl : Plan), Drawn d H H' → WfP pl → pl.floor.length ≤ most → (pl.moods.length ≤ 3 ∧ (∀ x ∈ pl.signs, x ∈ sBase) ∧ ∀ x ∈ pl.moods, x ∈ mBase) → SortedR pl.rules → H a = none → PlanV H' a pl → Q (.ref a) H'
abbrev plN : List Str := ["_law_d", "_law_most", "_law_signs", "_law_moods", "_law_tiles", "_law_floor", "_law_robots", "_law_rules", "_law_k", "_law_mood", "_law_sign", "_law_move"]
theorem sc_lplan : FnScope plN ["_law_d", "_law_most"] (defScope s__law_plan) := ⟨rfl, rfl, rfl, by decide +kernel, rfl, by decide +kernel, by decide +kernel⟩
theorem ok_lplan (T : PlaT K mg) : FnE P w K mg base CX0 3 ("_law_plan", none) ["_law_d", "_law_most"] spLPlan := by
  obtain ⟨fd, F⟩ := T.plan.d
  obtain ⟨fdB, GB, bB, kB⟩ := ok_below (P := P) (w := w) (base := base) T.s.l
  obtain ⟨fdS, GS, bS, kS⟩ := ok_shuffled (P := P) (w := w) (base := base) T.s
  refine ⟨fd, F.ok sc_lplan (fun vs H Q E h => ?_) (fun cdv A outer s H vs Q E hr h => ?_), F.bindsN fun _ _ _ _ _ _ us hl => match us, hl with | [_, _], _ => rfl, F.kp⟩
  · obtain ⟨d, most, rfl, _⟩ := h
    rfl
  · obtain ⟨d, most, rfl, hd, hm1, hm16, k⟩ := h
    have hr1 : Room 1 _ := hr.mono (by decide)
    have hr2 : Room 2 _ := hr.mono (by decide)
    have hu := hu_of hr
    refine ⟨_, PSs.nox (pss_cons (ps_set (i := 2) sc_lplan.nd rfl (.inl rfl) (pe_tupleOfN (by rfl) T.s.l.tuple (pe_slice sl_list (pe_call GS hr2 rfl T.s.shuffled.g kS bS .nil pass0 (pa_cons (pv 0) (pa_cons (pe_lst (pa_cons pe_str (pa_cons pe_str (pa_cons pe_str (pa_cons pe_str (pa_cons pe_str pa_nil)))))) pa_nil))) po_none (po_some (pe_op op_add pe_int (pe_call GB hr1 rfl T.s.l.below.g kB bB .nil pass0 (pa_cons (pv 0) (pa_cons pe_int pa_nil))))))))
      (pss_cons (ps_set (i := 3) sc_lplan.nd rfl (.inl rfl) (pe_tupleOfN (by rfl) T.s.l.tuple (pe_slice sl_list (pe_call GS hr2 rfl T.s.shuffled.g kS bS .nil pass0 (pa_cons (pv 0) (pa_cons (pe_lst (pa_cons pe_str (pa_cons pe_str (pa_cons pe_str (pa_cons pe_str (pa_cons pe_str (pa_cons pe_str (pa_cons pe_str pa_nil)))))))) pa_nil))) po_none (po_some (pe_op op_add pe_int (pe_call GB hr1 rfl T.s.l.below.g kB bB .nil pass0 (pa_cons (pv 0) (pa_cons pe_int pa_nil))))))))
      (pss_cons (ps_asg (pe_tup (pa_cons (pe_op op_add pe_int (pe_call GB hr1 rfl T.s.l.below.g kB bB .nil pass0 (pa_cons (pv 0) (pa_cons (pv 1) pa_nil)))) (pa_cons (pe_lst pa_nil) (pa_cons (pe_lst pa_nil) (pa_cons pe_dnewT pa_nil)))))
        (pg_tup rfl (pgs_cons (pg_name (i := 4) sc_lplan.nd rfl (.inl rfl)) (pgs_cons (pg_name (i := 5) sc_lplan.nd rfl (.inl rfl)) (pgs_cons (pg_name (i := 6) sc_lplan.nd rfl (.inl rfl)) (pgs_cons (pg_name (i := 7) sc_lplan.nd rfl (.inl rfl)) pgs_nil))))))
      (pss_cons (ps_for PassesOwn.never rfl (pi_range1 (by rfl) T.s.l.range (pa_cons (pv 4) pa_nil)) (pg_name (i := 8) sc_lplan.nd rfl (.inl rfl))
        (pss_one (ps_expr (pe_bm PySem.F.plainAttrs_list PySem.F.slot_list_append PySem.F.type_list_append mt_append (pv 5) (pa_cons (pe_ifExp (pt_cmpR op_eq (pe_call GB hr1 rfl T.s.l.below.g kB bB .nil pass0 (pa_cons (pv 0) (pa_cons pe_int pa_nil))) pe_int (nomark _))
          (pe_call GB hr1 rfl T.s.l.below.g kB bB .nil pass0 (pa_cons (pv 0) (pa_cons (pe_callB call_len_seq (by rfl) T.s.l.len boot_len (pa_cons (pv 2) pa_nil)) pa_nil))) pe_int) pa_nil)))))
      (pss_cons (ps_for PassesOwn.never rfl (pi_range1 (by rfl) T.s.l.range (pa_cons (pe_ix ix_list (pe_lst (pa_cons pe_int (pa_cons pe_int (pa_cons pe_int (pa_cons pe_int pa_nil))))) (pe_call GB hr1 rfl T.s.l.below.g kB bB .nil pass0 (pa_cons (pv 0) (pa_cons pe_int pa_nil))) (fun _ _ => rfl)) pa_nil)) (pg_name (i := 8) sc_lplan.nd rfl (.inl rfl))
        (pss_one (ps_expr (pe_bm PySem.F.plainAttrs_list PySem.F.slot_list_append PySem.F.type_list_append mt_append (pv 6) (pa_cons (pe_tup (pa_cons (pe_call GB hr1 rfl T.s.l.below.g kB bB .nil pass0 (pa_cons (pv 0) (pa_cons (pv 4) pa_nil)))
          (pa_cons (pe_cmpR op_eq (pe_call GB hr1 rfl T.s.l.below.g kB bB .nil pass0 (pa_cons (pv 0) (pa_cons pe_int pa_nil))) pe_int (nomark _)) pa_nil))) pa_nil)))))
      (pss_cons (ps_for PassesOwn.never rfl (pi_range1 (by rfl) T.s.l.range (pa_cons (pe_callB call_len_seq (by rfl) T.s.l.len boot_len (pa_cons (pv 3) pa_nil)) pa_nil)) (pg_name (i := 9) sc_lplan.nd rfl (.inl rfl))
        (pss_one (ps_for PassesOwn.never rfl (pi_range1 (by rfl) T.s.l.range (pa_cons (pe_callB call_len_seq (by rfl) T.s.l.len boot_len (pa_cons (pv 2) pa_nil)) pa_nil)) (pg_name (i := 10) sc_lplan.nd rfl (.inl rfl))
          (pss_one (ps_if (pt_cmpR op_gt (pe_call GB hr1 rfl T.s.l.below.g kB bB .nil pass0 (pa_cons (pv 0) (pa_cons pe_int pa_nil))) pe_int (nomark _))
            (pss_cons (ps_set (i := 11) sc_lplan.nd rfl (.inl rfl) (pe_ix ix_list (pe_lst (pa_cons pe_str (pa_cons pe_str (pa_cons pe_str (pa_cons pe_str (pa_cons pe_str pa_nil)))))) (pe_call GB hr1 rfl T.s.l.below.g kB bB .nil pass0 (pa_cons (pv 0) (pa_cons pe_int pa_nil))) (fun _ _ => rfl)))
            (pss_one (ps_dput hu (pv 7) (pe_tup (pa_cons (pv 9) (pa_cons (pv 10) pa_nil))) (pe_tup (pa_cons (pe_call GB hr1 rfl T.s.l.below.g kB bB .nil pass0 (pa_cons (pv 0) (pa_cons (pe_callB call_len_seq (by rfl) T.s.l.len boot_len (pa_cons (pv 2) pa_nil)) pa_nil)))
              (pa_cons (pv 11) (pa_cons (pe_call GB hr1 rfl T.s.l.below.g kB bB .nil pass0 (pa_cons (pv 0) (pa_cons (pe_callB call_len_seq (by rfl) T.s.l.len boot_len (pa_cons (pv 3) pa_nil)) pa_nil))) pa_nil)))) rfl))) pss_nil)))))
      (pss_one (ps_ret (pe_tup (pa_cons (pv 2) (pa_cons (pv 3) (pa_cons (pe_callTy call_tuple_of (by rfl) T.s.l.tuple (by decide +kernel) (pa_cons (pv 5) pa_nil)) (pa_cons (pe_callTy call_tuple_of (by rfl) T.s.l.tuple (by decide +kernel) (pa_cons (pv 6) pa_nil)) (pa_cons (pv 7) pa_nil)))))))))))))), ?_⟩
    -- the signs
    refine ⟨_, rfl, (by show 5 ≤ sizeLine; decide), fun l0 nl0 => ?_⟩
    have d0 := (Drawn.refl hd).new (o := .lst [.str "no", .str "red", .str "blue", .str "longname", .str "x"]) nl0
    have hl0 := @upd_same H l0 (.lst [.str "no", .str "red", .str "blue", .str "longname", .str "x"])
    generalize upd H l0 (.lst [.str "no", .str "red", .str "blue", .str "longname", .str "x"]) = H1 at *
    refine ⟨d, l0, _, rfl, d0.at_, SqL.of hl0, by decide, fun r1 H2 ys1 hp1 dr1 nr1 hr1' => ?_⟩
    obtain ⟨bs1, pb1, rfl⟩ := perm_ex hp1 (base := sBase) (by kernel_rfl)
    have d2 := d0.trans dr1
    refine ⟨_, rfl, d, 4, rfl, d2.at_, by decide, by decide, fun r s c bs hrl hb => ?_⟩
    have hd1 : ∃ o, H d = some o := let ⟨_, _, _, _, e⟩ := hd; ⟨_, e⟩
    have ne_d : ∀ {Hx : Hp} {x : Addr}, DrawAt Hx d → Hx x = none → x ≠ d := fun ⟨_, _, _, _, q⟩ hx z => by rw [z, q] at hx; cases hx
    have d3 := d2.draw (s := s) (c := c) hb
    have r1d : r1 ≠ d := fun z => by
      obtain ⟨_, _, _, _, q⟩ := d0.at_
      rw [z, q] at nr1
      cases nr1
    have hr3 : (upd H2 d (drawL s c bs)) r1 = some (.lst (bs1.map sV)) := (upd_ne r1d).trans hr1'
    generalize upd H2 d (drawL s c bs) = H3 at *
    have l1 : bs1.length = 5 := pb1.length_eq
    have ec : cutV (bs1.map sV) none (some ((1 : Int) + (r : Int))) = (bs1.take (1 + r)).map sV := by
      have e : ((1 : Int) + (r : Int)) = ((1 + r : Nat) : Int) := by omega
      rw [e, cut_take (by rw [List.length_map]; omega), List.map_take]
    refine ⟨_, _, rfl, rfl, _, rfl, r1, _, rfl, SqL.of hr3, fun p1 np1 => ?_⟩
    rw [ec]
    have sN : NamesOk (bs1.take (1 + r)) := base_ok (by decide +kernel) (by decide +kernel) pb1 _
    have sl : (bs1.take (1 + r)).length = 1 + r := by rw [List.length_take]; omega
    have sIn : ∀ x ∈ bs1.take (1 + r), x ∈ sBase := fun x hx => pb1.mem_iff.mp (List.mem_of_mem_take hx)
    generalize bs1.take (1 + r) = signs at *
    have d4 := d3.new (o := .lst (signs.map sV)) np1
    have hp1' := @upd_same H3 p1 (.lst (signs.map sV))
    generalize upd H3 p1 (.lst (signs.map sV)) = H4 at *
    refine ⟨p1, _, rfl, SqL.of hp1', fun sa osa nsa oc od => ?_⟩
    have d5 := d4.new (o := .frz osa (.tup (signs.map sV))) nsa
    have hsa : TupN (upd H4 sa (.frz osa (.tup (signs.map sV)))) sa (signs.map sV) := ⟨osa, oc, od, upd_same⟩
    have sad : sa ≠ d := ne_d d4.at_ nsa
    generalize upd H4 sa (.frz osa (.tup (signs.map sV))) = H5 at *
    -- the moods
    refine ⟨_, rfl, (by show 7 ≤ sizeLine; decide), fun l2 nl2 => ?_⟩
    have d6 := d5.new (o := .lst [.str "go", .str "calm", .str "red", .str "b", .str "cc", .str "mmmmmmmm", .str "z"]) nl2
    have hl2 := @upd_same H5 l2 (.lst [.str "go", .str "calm", .str "red", .str "b", .str "cc", .str "mmmmmmmm", .str "z"])
    replace hsa := hsa.mono fun o z => sameUpd (o := .lst [.str "go", .str "calm", .str "red", .str "b", .str "cc", .str "mmmmmmmm", .str "z"]) (Same.refl H5) nl2 _ _ z
    generalize upd H5 l2 (.lst [.str "go", .str "calm", .str "red", .str "b", .str "cc", .str "mmmmmmmm", .str "z"]) = H6 at *
    refine ⟨d, l2, _, rfl, d6.at_, SqL.of hl2, by decide, fun r2 H7 ys2 hp2 dr2 nr2 hr2' => ?_⟩
    obtain ⟨bs2, pb2, rfl⟩ := perm_ex hp2 (base := mBase) (by kernel_rfl)
    have d7 := d6.trans dr2
    replace hsa := hsa.mono fun o z => dr2.same _ _ sad z
    have r2d : r2 ≠ d := ne_d d6.at_ nr2
    refine ⟨_, rfl, d, 3, rfl, d7.at_, by decide, by decide, fun q s2 c2 b2 hql hb2 => ?_⟩
    have d8 := d7.draw (s := s2) (c := c2) hb2
    replace hsa : TupN (upd H7 d (drawL s2 c2 b2)) sa (signs.map sV) := hsa.mono fun o z => (upd_ne sad).trans z
    have hr8 : (upd H7 d (drawL s2 c2 b2)) r2 = some (.lst (bs2.map sV)) := (upd_ne r2d).trans hr2'
    generalize upd H7 d (drawL s2 c2 b2) = H8 at *
    have l2' : bs2.length = 7 := pb2.length_eq
    have ec2 : cutV (bs2.map sV) none (some ((1 : Int) + (q : Int))) = (bs2.take (1 + q)).map sV := by
      have e : ((1 : Int) + (q : Int)) = ((1 + q : Nat) : Int) := by omega
      rw [e, cut_take (by rw [List.length_map]; omega), List.map_take]
    refine ⟨_, _, rfl, rfl, _, rfl, r2, _, rfl, SqL.of hr8, fun p2 np2 => ?_⟩
    rw [ec2]
    have mN : NamesOk (bs2.take (1 + q)) := base_ok (by decide +kernel) (by decide +kernel) pb2 _
    have ml : (bs2.take (1 + q)).length = 1 + q := by rw [List.length_take]; omega
    have mIn : ∀ x ∈ bs2.take (1 + q), x ∈ mBase := fun x hx => pb2.mem_iff.mp (List.mem_of_mem_take hx)
    generalize bs2.take (1 + q) = moods at *
    have d9 := d8.new (o := .lst (moods.map sV)) np2
    have hp2' := @upd_same H8 p2 (.lst (moods.map sV))
    replace hsa := hsa.mono fun o z => sameUpd (o := .lst (moods.map sV)) (Same.refl H8) np2 _ _ z
    generalize upd H8 p2 (.lst (moods.map sV)) = H9 at *
    refine ⟨p2, _, rfl, SqL.of hp2', fun ma oma nma mc md => ?_⟩
    have d10 := d9.new (o := .frz oma (.tup (moods.map sV))) nma
    have hma : TupN (upd H9 ma (.frz oma (.tup (moods.map sV)))) ma (moods.map sV) := ⟨oma, mc, md, upd_same⟩
    replace hsa := hsa.mono fun o z => sameUpd (o := .frz oma (.tup (moods.map sV))) (Same.refl H9) nma _ _ z
    have mad : ma ≠ d := ne_d d9.at_ nma
    generalize upd H9 ma (.frz oma (.tup (moods.map sV))) = H10 at *
    -- tiles, floor, robots, rules
    refine ⟨_, rfl, _, rfl, d, most, rfl, d10.at_, hm1, by omega, fun t0 s3 c3 b3 ht0 hb3 => ?_⟩
    have d11 := d10.draw (s := s3) (c := c3) hb3
    replace hsa : TupN (upd H10 d (drawL s3 c3 b3)) sa (signs.map sV) := hsa.mono fun o z => (upd_ne sad).trans z
    replace hma : TupN (upd H10 d (drawL s3 c3 b3)) ma (moods.map sV) := hma.mono fun o z => (upd_ne mad).trans z
    generalize upd H10 d (drawL s3 c3 b3) = H11 at *
    refine ⟨_, _, rfl, rfl, (by show 0 ≤ sizeLine; decide), fun fl nfl => ?_⟩
    have d12 := d11.new (o := .lst []) nfl
    have hfl := @upd_same H11 fl (.lst [])
    replace hsa := hsa.mono fun o z => sameUpd (o := .lst []) (Same.refl H11) nfl _ _ z
    replace hma := hma.mono fun o z => sameUpd (o := .lst []) (Same.refl H11) nfl _ _ z
    have fld : fl ≠ d := ne_d d11.at_ nfl
    have fl0 : H fl = none := d11.free hd1 nfl
    generalize upd H11 fl (.lst []) = H12 at *
    refine ⟨(by show 0 ≤ sizeLine; decide), fun rl nrl => ?_⟩
    have d13 := d12.new (o := .lst []) nrl
    have hrl' := @upd_same H12 rl (.lst [])
    have flrl : fl ≠ rl := ne_of_none hfl nrl
    replace hsa := hsa.mono fun o z => sameUpd (o := .lst []) (Same.refl H12) nrl _ _ z
    replace hma := hma.mono fun o z => sameUpd (o := .lst []) (Same.refl H12) nrl _ _ z
    replace hfl : (upd H12 rl (.lst [])) fl = some (.lst []) := (upd_ne flrl).trans hfl
    have rld : rl ≠ d := ne_d d12.at_ nrl
    have rl0 : H rl = none := d12.free hd1 nrl
    generalize upd H12 rl (.lst []) = H13 at *
    intro rd nrd
    have d14 := d13.new (o := .dT []) nrd
    have hrd := @upd_same H13 rd (.dT [])
    have flrd : fl ≠ rd := ne_of_none hfl nrd
    have rlrd : rl ≠ rd := ne_of_none hrl' nrd
    replace hsa := hsa.mono fun o z => sameUpd (o := .dT []) (Same.refl H13) nrd _ _ z
    replace hma := hma.mono fun o z => sameUpd (o := .dT []) (Same.refl H13) nrd _ _ z
    replace hfl : (upd H13 rd (.dT [])) fl = some (.lst []) := (upd_ne flrd).trans hfl
    replace hrl' : (upd H13 rd (.dT [])) rl = some (.lst []) := (upd_ne rlrd).trans hrl'
    have rdd : rd ≠ d := ne_d d13.at_ nrd
    have rd0 : H rd = none := d13.free hd1 nrd
    generalize upd H13 rd (.dT []) = H14 at *
    refine ⟨(by show 4 ≤ sizeLine; decide), fun tu ntu => ?_⟩
    have s15 := sameUpd (o := .tup [.int ((1 : Int) + (t0 : Int)), .ref fl, .ref rl, .ref rd]) (Same.refl H14) ntu
    have d15 := d14.new (o := .tup [.int ((1 : Int) + (t0 : Int)), .ref fl, .ref rl, .ref rd]) ntu
    replace hsa := hsa.mono fun o z => s15 _ _ z
    replace hma := hma.mono fun o z => s15 _ _ z
    replace hfl := s15 _ _ hfl
    replace hrl' := s15 _ _ hrl'
    replace hrd := s15 _ _ hrd
    refine ⟨tu, _, rfl, SqT.of upd_same, rfl, _, _, rfl, _, _, rfl, _, _, rfl, _, _, rfl, rfl, ?_⟩
    generalize upd H14 tu (.tup [.int ((1 : Int) + (t0 : Int)), .ref fl, .ref rl, .ref rd]) = Hb at *
    have sm0 : Same (cutH Hb [d, fl, rl, rd]) Hb := cutH_same
    -- what stands in all loops
    let St (Hx : Hp) : Prop := Same (cutH Hb [d, fl, rl, rd]) Hx ∧ DrawAt Hx d
    have drawS : ∀ {Hx : Hp} {s c : Int} {b : List Int}, St Hx → b.length ≤ 63 → St (upd Hx d (drawL s c b)) := fun h hb => ⟨cutS h.1 (by simp), ⟨_, _, _, hb, upd_same⟩⟩
    have sig : ∀ {Hx : Hp}, St Hx → TupN Hx sa (signs.map sV) := fun h => hsa.mono fun o z => h.1 _ _ (by
      rw [cutH_out]
      · exact z
      · simp only [List.mem_cons, List.not_mem_nil, or_false, not_or]
        exact ⟨sad, ne_of z hfl (by intro q; cases q), ne_of z hrl' (by intro q; cases q), ne_of z hrd (by intro q; cases q)⟩)
    have moo : ∀ {Hx : Hp}, St Hx → TupN Hx ma (moods.map sV) := fun h => hma.mono fun o z => h.1 _ _ (by
      rw [cutH_out]
      · exact z
      · simp only [List.mem_cons, List.not_mem_nil, or_false, not_or]
        exact ⟨mad, ne_of z hfl (by intro q; cases q), ne_of z hrl' (by intro q; cases q), ne_of z hrd (by intro q; cases q)⟩)
    refine ⟨_, rfl, ((1 + t0 : Nat) : Int), rfl, by omega, by omega, ?_⟩
    rw [Int.toNat_natCast]
    refine for_range (lo := 0) (n := 1 + t0) (fun i σ Hx => ∃ (o8 : Option V) (fs : List Nat), σ = [some (.ref d), some (.int most), some (.ref sa), some (.ref ma), some (.int (1 + t0 : Nat)), some (.ref fl), some (.ref rl), some (.ref rd), o8, none, none, none] ∧ St Hx ∧
      Hx fl = some (.lst (fs.map fun n : Nat => V.int n)) ∧ fs.length = i ∧ (∀ x ∈ fs, x < signs.length) ∧ Hx rl = some (.lst []) ∧ Hx rd = some (.dT [])) ⟨none, [], rfl, ⟨sm0, d15.at_⟩, hfl, rfl, by simp, hrl', hrd⟩ ?_ ?_
    · rintro i σ Hx hi ⟨o8, fs, rfl, hS, hfx, hfl2, hfs, hrx, hdx⟩
      have fin : ∀ (Hy : Hp) (v : Nat), v < signs.length → St Hy → Hy fl = some (.lst (fs.map fun n : Nat => V.int n)) → Hy rl = some (.lst []) → Hy rd = some (.dT []) →
          rAppend (.ref fl) [.int v] Hy (fun _ H1 => ∃ (o8 : Option V) (fs : List Nat), [some (V.ref d), some (.int most), some (.ref sa), some (.ref ma), some (.int (1 + t0 : Nat)), some (.ref fl), some (.ref rl), some (.ref rd), some (.int ((0 : Int) + (i : Nat))), none, none, none] = [some (.ref d), some (.int most), some (.ref sa), some (.ref ma), some (.int (1 + t0 : Nat)), some (.ref fl), some (.ref rl), some (.ref rd), o8, none, none, none] ∧ St H1 ∧
            H1 fl = some (.lst (fs.map fun n : Nat => V.int n)) ∧ fs.length = i + 1 ∧ (∀ x ∈ fs, x < signs.length) ∧ H1 rl = some (.lst []) ∧ H1 rd = some (.dT [])) := fun Hy v hv hy h1 h2 h3 => by
        refine ⟨fl, _, _, rfl, rfl, h1, by rw [List.length_map, sizeLine_eq]; omega, _, fs ++ [v], rfl, ⟨cutS hy.1 (by simp), ?_⟩, ?_, by simp [hfl2], ?_, (upd_ne (Ne.symm flrl)).trans h2, (upd_ne (Ne.symm flrd)).trans h3⟩
        · obtain ⟨a, b, c, l, e⟩ := hy.2
          exact ⟨a, b, c, l, (upd_ne (Ne.symm fld)).trans e⟩
        · rw [upd_same, List.map_append]
          rfl
        · intro x hx
          rcases List.mem_append.mp hx with z | z
          · exact hfs x z
          · rw [List.mem_singleton.mp z]
            exact hv
      refine ⟨_, rfl, .inl ⟨rfl, _, SqL.of hfx⟩, _, rfl, d, 3, rfl, hS.2, by decide, by decide, fun r s c b hr hb => ?_⟩
      refine ⟨rfl, _, rfl, ?_⟩
      refine ite2 (fun h => ?_) (fun h => ?_)
      · refine ⟨_, rfl, _, rfl, sa, _, rfl, .inr (sig (drawS hS hb)).sq, d, signs.length, by rw [List.length_map]; rfl, (drawS hS hb).2, by omega, by omega, fun r2 s2 c2 b2 hr2 hb2 => ?_⟩
        rw [upd_upd]
        exact fin _ r2 hr2 (drawS hS hb2) ((upd_ne fld).trans hfx) ((upd_ne rld).trans hrx) ((upd_ne rdd).trans hdx)
      · exact fin _ 0 (by omega) (drawS hS hb) ((upd_ne fld).trans hfx) ((upd_ne rld).trans hrx) ((upd_ne rdd).trans hdx)
    · rintro σ Hx ⟨o8, fs, rfl, hS, hfx, hfl2, hfs, hrx, hdx⟩
      -- the robots
      refine ⟨(by show 4 ≤ sizeLine; decide), fun l5 nl5 => ?_⟩
      have S5 : St (upd Hx l5 (.lst [.int 1, .int 1, .int 2, .int 3])) := ⟨cutN hS.1 nl5, let ⟨a, b, c, l, e⟩ := hS.2; ⟨a, b, c, l, sameUpd (Same.refl Hx) nl5 _ _ e⟩⟩
      have hl5 := @upd_same Hx l5 (.lst [.int 1, .int 1, .int 2, .int 3])
      have l5d : l5 ≠ d := ne_d hS.2 nl5
      have s5 := sameUpd (o := .lst [.int 1, .int 1, .int 2, .int 3]) (Same.refl Hx) nl5
      replace hfx := s5 _ _ hfx
      replace hrx := s5 _ _ hrx
      replace hdx := s5 _ _ hdx
      generalize upd Hx l5 (.lst [.int 1, .int 1, .int 2, .int 3]) = H5' at *
      refine ⟨_, rfl, d, 4, rfl, S5.2, by decide, by decide, fun r s c b hr hb => ?_⟩
      have S6 := drawS (s := s) (c := c) S5 hb
      have hl6 : (upd H5' d (drawL s c b)) l5 = some (.lst [.int 1, .int 1, .int 2, .int 3]) := (upd_ne l5d).trans hl5
      replace hfx : (upd H5' d (drawL s c b)) fl = _ := (upd_ne fld).trans hfx
      replace hrx : (upd H5' d (drawL s c b)) rl = _ := (upd_ne rld).trans hrx
      replace hdx : (upd H5' d (drawL s c b)) rd = _ := (upd_ne rdd).trans hdx
      generalize upd H5' d (drawL s c b) = H6' at *
      obtain ⟨nr, hnr, hnr1, hnr3⟩ : ∃ nr : Nat, ([V.int 1, .int 1, .int 2, .int 3])[r]? = some (.int nr) ∧ 1 ≤ nr ∧ nr ≤ 3 := by
        match r, hr with
        | 0, _ => exact ⟨1, rfl, by decide, by decide⟩
        | 1, _ => exact ⟨1, rfl, by decide, by decide⟩
        | 2, _ => exact ⟨2, rfl, by decide, by decide⟩
        | 3, _ => exact ⟨3, rfl, by decide, by decide⟩
      refine ⟨l5, _, _, _, rfl, rfl, SqL.of hl6, atI_nat hnr, (nr : Int), rfl, by omega, by omega, ?_⟩
      rw [Int.toNat_natCast]
      refine for_range (lo := 0) (n := nr) (fun i σ Hx => ∃ (o8 : Option V) (rs : List (Nat × Bool)) (ras : List Addr), σ = [some (.ref d), some (.int most), some (.ref sa), some (.ref ma), some (.int (1 + t0 : Nat)), some (.ref fl), some (.ref rl), some (.ref rd), o8, none, none, none] ∧ St Hx ∧
        Hx fl = some (.lst (fs.map fun n : Nat => V.int n)) ∧ Hx rl = some (.lst (ras.map V.ref)) ∧ Paired (RobAt Hx) ras rs ∧ rs.length = i ∧ (∀ x ∈ rs, x.1 < 1 + t0) ∧ Hx rd = some (.dT [])) ⟨o8, [], [], rfl, S6, hfx, hrx, .nil, rfl, by simp, hdx⟩ ?_ ?_
      · rintro i σ Hx2 hi ⟨o9, rs, ras, rfl, hS2, hf2, hr2, hpr2, hrl2, hrs2, hd2⟩
        refine ⟨_, rfl, .inl ⟨rfl, _, SqL.of hr2⟩, _, rfl, _, rfl, d, 1 + t0, rfl, hS2.2, by omega, by omega, fun t s c b ht hb => ?_⟩
        refine ⟨_, rfl, d, 2, rfl, (drawS hS2 hb).2, by decide, by decide, fun r3 s3 c3 b3 hr3 hb3 => ?_⟩
        rw [upd_upd]
        refine ⟨rfl, (by show 2 ≤ sizeLine; decide), fun tp ntp => ?_⟩
        have S3 := drawS (s := s3) (c := c3) hS2 hb3
        have hf3 : (upd Hx2 d (drawL s3 c3 b3)) fl = _ := (upd_ne fld).trans hf2
        have hr3' : (upd Hx2 d (drawL s3 c3 b3)) rl = _ := (upd_ne rld).trans hr2
        have hd3 : (upd Hx2 d (drawL s3 c3 b3)) rd = _ := (upd_ne rdd).trans hd2
        have hp3 : Paired (RobAt (upd Hx2 d (drawL s3 c3 b3))) ras rs := by
          obtain ⟨_, _, _, _, ed⟩ := hS2.2
          exact Paired.mapP hpr2 fun a q z => keepT ed (fun xs q => by cases q) _ _ z
        generalize upd Hx2 d (drawL s3 c3 b3) = H7' at *
        have s7 := sameUpd (o := .tup [.int t, .bl (decide (V.int (r3 : Nat) = V.int 0))]) (Same.refl H7') ntp
        have S4 : St (upd H7' tp (.tup [.int t, .bl (decide (V.int (r3 : Nat) = V.int 0))])) := ⟨cutN S3.1 ntp, let ⟨a, b, c, l, e⟩ := S3.2; ⟨a, b, c, l, s7 _ _ e⟩⟩
        have htp := @upd_same H7' tp (.tup [.int t, .bl (decide (V.int (r3 : Nat) = V.int 0))])
        replace hf3 := s7 _ _ hf3
        replace hr3' := s7 _ _ hr3'
        replace hd3 := s7 _ _ hd3
        replace hp3 : Paired (RobAt (upd H7' tp (.tup [.int t, .bl (decide (V.int (r3 : Nat) = V.int 0))]))) ras rs := Paired.mapP hp3 fun a q z => s7 _ _ z
        generalize upd H7' tp (.tup [.int t, .bl (decide (V.int (r3 : Nat) = V.int 0))]) = H8' at *
        refine ⟨rl, _, _, rfl, rfl, hr3', by rw [List.length_map, hp3.length, sizeLine_eq]; omega, ?_⟩
        have kt := keepT (o' := .lst (ras.map V.ref ++ [.ref tp])) hr3' (fun xs q => by cases q)
        refine ⟨_, rs ++ [(t, decide (V.int (r3 : Nat) = V.int 0))], ras ++ [tp], rfl, ⟨cutS S4.1 (by simp), ?_⟩, (upd_ne flrl).trans hf3, ?_, Paired_snoc (Paired.mapP hp3 fun a q z => kt _ _ z) (kt _ _ htp), by simp [hrl2], ?_, (upd_ne (Ne.symm rlrd)).trans hd3⟩
        · obtain ⟨a, b, c, l, e⟩ := S4.2
          exact ⟨a, b, c, l, (upd_ne (Ne.symm rld)).trans e⟩
        · rw [upd_same, List.map_append]
          rfl
        · intro x hx
          rcases List.mem_append.mp hx with z | z
          · exact hrs2 x z
          · rw [List.mem_singleton.mp z]
            exact ht
      · rintro σ Hx2 ⟨o9, rs, ras, rfl, hS2, hf2, hr2, hpr2, hrl2, hrs2, hd2⟩
        -- the rules
        refine ⟨_, rfl, ma, _, rfl, .inr (moo hS2).sq, _, rfl, by omega, by rw [List.length_map]; omega, ?_⟩
        rw [Int.toNat_natCast, List.length_map]
        let Ru (i j : Nat) (Hx : Hp) : Prop := ∃ (rules : List ((Nat × Nat) × Rule)) (kvs : List (List Key × V)), Hx rd = some (.dT kvs) ∧ Paired (RuleAt Hx) rules kvs ∧ SortedR rules ∧ (∀ kv ∈ rules, RuleOk signs.length moods.length kv ∧ (kv.1.1 < i ∨ (kv.1.1 = i ∧ kv.1.2 < j))) ∧ rules.length ≤ i * signs.length + j
        let Al (Hx : Hp) : Prop := St Hx ∧ Hx fl = some (.lst (fs.map fun n : Nat => V.int n)) ∧ Hx rl = some (.lst (ras.map V.ref)) ∧ Paired (RobAt Hx) ras rs
        have alDraw : ∀ {Hx : Hp} {s c : Int} {b : List Int} {i j : Nat}, Al Hx → Ru i j Hx → b.length ≤ 63 → Al (upd Hx d (drawL s c b)) ∧ Ru i j (upd Hx d (drawL s c b)) := fun {Hx s c b i j} h hr hb => by
          obtain ⟨_, _, _, _, ed⟩ := h.1.2
          have kt := keepT (o' := drawL s c b) ed (fun xs q => by cases q)
          obtain ⟨rules, kvs, r1, r2, r3⟩ := hr
          exact ⟨⟨drawS h.1 hb, (upd_ne fld).trans h.2.1, (upd_ne rld).trans h.2.2.1, Paired.mapP h.2.2.2 fun a q z => kt _ _ z⟩, ⟨rules, kvs, (upd_ne rdd).trans r1, Paired.mapP r2 fun a q z => z.mono kt, r3⟩⟩
        have alNew : ∀ {Hx : Hp} {x : Addr} {o : HO} {i j : Nat}, Al Hx → Ru i j Hx → Hx x = none → Al (upd Hx x o) ∧ Ru i j (upd Hx x o) := fun {Hx x o i j} h hr hx => by
          have sm := sameUpd (o := o) (Same.refl Hx) hx
          obtain ⟨rules, kvs, r1, r2, r3⟩ := hr
          exact ⟨⟨⟨cutN h.1.1 hx, let ⟨a, b, c, l, e⟩ := h.1.2; ⟨a, b, c, l, sm _ _ e⟩⟩, sm _ _ h.2.1, sm _ _ h.2.2.1, Paired.mapP h.2.2.2 fun a q z => sm _ _ z⟩, ⟨rules, kvs, sm _ _ r1, Paired.mapP r2 fun a q z => z.mono fun _ _ y => sm _ _ y, r3⟩⟩
        refine for_range (lo := 0) (n := moods.length) (fun i σ Hx => ∃ (o8 o9 o10 o11 : Option V), σ = [some (.ref d), some (.int most), some (.ref sa), some (.ref ma), some (.int (1 + t0 : Nat)), some (.ref fl), some (.ref rl), some (.ref rd), o8, o9, o10, o11] ∧ Al Hx ∧ Ru i 0 Hx)
          ⟨o9, none, none, none, rfl, ⟨hS2, hf2, hr2, hpr2⟩, [], [], hd2, .nil, List.Pairwise.nil, by simp, by simp⟩ ?_ ?_
        · rintro i σ Hx hi ⟨o8, o9, o10, o11, rfl, hA, hR⟩
          refine ⟨_, rfl, sa, _, rfl, .inr (sig hA.1).sq, _, rfl, by omega, by rw [List.length_map]; omega, ?_⟩
          rw [Int.toNat_natCast, List.length_map]
          refine for_range (lo := 0) (n := signs.length) (fun j σ Hx => ∃ (o10 o11 : Option V), σ = [some (.ref d), some (.int most), some (.ref sa), some (.ref ma), some (.int (1 + t0 : Nat)), some (.ref fl), some (.ref rl), some (.ref rd), o8, some (.int ((0 : Int) + (i : Nat))), o10, o11] ∧ Al Hx ∧ Ru i j Hx)
            ⟨o10, o11, rfl, hA, hR⟩ ?_ ?_
          · rintro j σ Hy hj ⟨p10, p11, rfl, hA, hR⟩
            have weak : ∀ {Hz : Hp}, Ru i j Hz → Ru i (j + 1) Hz := fun ⟨rules, kvs, r1, r2, r3, r4, r5⟩ => ⟨rules, kvs, r1, r2, r3, fun kv hk => ⟨(r4 kv hk).1, (r4 kv hk).2.elim .inl fun z => .inr ⟨z.1, by omega⟩⟩, by omega⟩
            refine ⟨_, rfl, d, 9, rfl, hA.1.2, by decide, by decide, fun r s c b hr hb => ?_⟩
            obtain ⟨hA1, hR1⟩ := alDraw (s := s) (c := c) hA hR hb
            generalize upd Hy d (drawL s c b) = H1' at *
            refine ⟨_, _, rfl, rfl, _, rfl, ?_⟩
            refine ite2 (fun h => ?_) (fun h => ?_)
            · refine ⟨(by show 5 ≤ sizeLine; decide), fun lm nlm => ?_⟩
              obtain ⟨hA2, hR2⟩ := alNew (o := .lst [.str "on", .str "on", .str "on", .str "back", .str "stay"]) hA1 hR1 nlm
              have hlm := @upd_same H1' lm (.lst [.str "on", .str "on", .str "on", .str "back", .str "stay"])
              have lmd : lm ≠ d := ne_d hA1.1.2 nlm
              generalize upd H1' lm (.lst [.str "on", .str "on", .str "on", .str "back", .str "stay"]) = H2' at *
              refine ⟨_, rfl, d, 5, rfl, hA2.1.2, by decide, by decide, fun r s c b hr hb => ?_⟩
              obtain ⟨hA3, hR3⟩ := alDraw (s := s) (c := c) hA2 hR2 hb
              have hlm3 : (upd H2' d (drawL s c b)) lm = _ := (upd_ne lmd).trans hlm
              generalize upd H2' d (drawL s c b) = H3' at *
              obtain ⟨mv, hmv, hmm⟩ : ∃ mv : Cs, ([V.str "on", .str "on", .str "on", .str "back", .str "stay"])[r]? = some (sV mv) ∧ mv ∈ moves := by
                match r, hr with
                | 0, _ => exact ⟨wOn, by kernel_rfl, by decide⟩
                | 1, _ => exact ⟨wOn, by kernel_rfl, by decide⟩
                | 2, _ => exact ⟨wOn, by kernel_rfl, by decide⟩
                | 3, _ => exact ⟨wBack, by kernel_rfl, by decide⟩
                | 4, _ => exact ⟨wStay, by kernel_rfl, by decide⟩
              refine ⟨lm, _, _, _, rfl, rfl, SqL.of hlm3, atI_nat hmv, ?_⟩
              refine ⟨_, rfl, _, rfl, sa, _, rfl, .inr (sig hA3.1).sq, d, signs.length, by rw [List.length_map]; rfl, hA3.1.2, by omega, by omega, fun lf s c b hlf hb => ?_⟩
              obtain ⟨hA4, hR4⟩ := alDraw (s := s) (c := c) hA3 hR3 hb
              generalize upd H3' d (drawL s c b) = H4' at *
              refine ⟨_, rfl, _, rfl, _, rfl, ma, _, rfl, .inr (moo hA4.1).sq, d, moods.length, by rw [List.length_map]; rfl, hA4.1.2, by omega, by omega, fun la s c b hla hb => ?_⟩
              obtain ⟨hA5, hR5⟩ := alDraw (s := s) (c := c) hA4 hR4 hb
              generalize upd H4' d (drawL s c b) = H5'' at *
              refine ⟨(by show 3 ≤ sizeLine; decide), fun tv ntv => ?_⟩
              obtain ⟨hA6, hR6⟩ := alNew (o := .tup [.int lf, sV mv, .int la]) hA5 hR5 ntv
              have htv := @upd_same H5'' tv (.tup [.int lf, sV mv, .int la])
              generalize upd H5'' tv (.tup [.int lf, sV mv, .int la]) = H6'' at *
              refine ⟨_, rfl, _, rfl, _, rfl, (by show 2 ≤ sizeLine; decide), fun tk ntk => ?_⟩
              have e0 : ∀ n : Nat, (0 : Int) + (n : Int) = (n : Int) := fun n => by omega
              have s7 := sameUpd (o := .tup [.int ((0 : Int) + (i : Nat)), .int ((0 : Int) + (j : Nat))]) (Same.refl H6'') ntk
              obtain ⟨hA7, hR7⟩ := alNew (o := .tup [.int ((0 : Int) + (i : Nat)), .int ((0 : Int) + (j : Nat))]) hA6 hR6 ntk
              have htk : (upd H6'' tk (.tup [.int ((0 : Int) + (i : Nat)), .int ((0 : Int) + (j : Nat))])) tk = some (.tup ((keyT (i, j)).map kV)) := by
                rw [upd_same, e0, e0]
                rfl
              have htv7 := s7 _ _ htv
              generalize upd H6'' tk (.tup [.int ((0 : Int) + (i : Nat)), .int ((0 : Int) + (j : Nat))]) = H7'' at *
              obtain ⟨rules, kvs, r1, r2, r3, r4, r5⟩ := hR7
              have hlen : rules.length ≤ 100 := by
                have : i * signs.length ≤ 3 * 4 := Nat.mul_le_mul (by omega) (by omega)
                omega
              refine ⟨rd, _, rfl, DPut.t (k := keyT (i, j)) r1 htk (by rw [← r2.length, sizeLine_eq]; omega), ?_⟩
              have hno : ∀ q ∈ rules, q.1 ≠ (i, j) := fun q hq z => by
                have := (r4 q hq).2
                rw [z] at this
                simp only at this
                omega
              have z1 := rules_put (k := (i, j)) (r := ⟨lf, mv, la⟩) htv7 r2
              rw [putA_new hno] at z1
              have kt := keepT (o' := .dT (putK kvs (keyT (i, j)) (.ref tv))) r1 (fun xs q => by cases q)
              refine ⟨_, _, rfl, ⟨⟨cutS hA7.1.1 (by simp), ?_⟩, (upd_ne flrd).trans hA7.2.1, (upd_ne rlrd).trans hA7.2.2.1, Paired.mapP hA7.2.2.2 fun a q z => kt _ _ z⟩, rules ++ [((i, j), ⟨lf, mv, la⟩)], _, upd_same, Paired.mapP z1 fun r kv q => q.mono kt, ?_, ?_, by simp; omega⟩
              · obtain ⟨a, b, c, l, e⟩ := hA7.1.2
                exact ⟨a, b, c, l, (upd_ne (Ne.symm rdd)).trans e⟩
              · unfold SortedR
                rw [List.map_append, List.pairwise_append]
                refine ⟨r3, List.pairwise_singleton _ _, fun a ha b hb => ?_⟩
                obtain ⟨q, hq, rfl⟩ := List.mem_map.mp ha
                rw [List.map_singleton, List.mem_singleton] at hb
                rw [hb]
                have := (r4 q hq).2
                simp only
                omega
              · intro kv hkv
                rcases List.mem_append.mp hkv with z | z
                · exact ⟨(r4 kv z).1, (r4 kv z).2.elim .inl fun y => .inr ⟨y.1, by omega⟩⟩
                · rw [List.mem_singleton.mp z]
                  exact ⟨⟨hi, hj, hlf, hla, hmm⟩, .inr ⟨rfl, Nat.lt_succ_self _⟩⟩
            · exact ⟨_, _, rfl, hA1, weak hR1⟩
          · rintro σ Hy ⟨p10, p11, rfl, hA, rules, kvs, r1, r2, r3, r4, r5⟩
            refine ⟨_, _, _, _, rfl, hA, rules, kvs, r1, r2, r3, fun kv hk => ⟨(r4 kv hk).1, .inl ?_⟩, ?_⟩
            · have := (r4 kv hk).2
              omega
            · rw [Nat.add_mul]
              omega
        · rintro σ Hx ⟨o8, o9, o10, o11, rfl, hA, rules, kvs, r1, r2, r3, r4, r5⟩
          have keepH : ∀ {b : Addr} {o : HO}, H b = some o → b ≠ d → Hx b = some o := fun {b o} e hb => by
            refine hA.1.1 _ _ ?_
            rw [cutH_out]
            · exact d15.same _ _ hb e
            · simp only [List.mem_cons, List.not_mem_nil, or_false, not_or]
              exact ⟨hb, ne_of_none e fl0, ne_of_none e rl0, ne_of_none e rd0⟩
          refine ⟨_, rfl, _, rfl, _, rfl, fl, _, rfl, .inl ⟨SqL.of hA.2.1, fun fa nfa => ?_⟩⟩
          have sA := sameUpd (o := .tup (fs.map fun n : Nat => V.int n)) (Same.refl Hx) nfa
          refine ⟨_, rfl, rl, _, rfl, .inl ⟨SqL.of (sA _ _ hA.2.2.1), fun ra nra => ?_⟩⟩
          have sB := sameUpd (o := .tup (ras.map V.ref)) (Same.refl (upd Hx fa (.tup (fs.map fun n : Nat => V.int n)))) nra
          have sAB := sA.trans sB
          refine ⟨_, rfl, (by show 5 ≤ sizeLine; decide), fun res nres => ?_⟩
          have sC := sameUpd (o := .tup [.ref sa, .ref ma, .ref fa, .ref ra, .ref rd]) (Same.refl (upd (upd Hx fa (.tup (fs.map fun n : Nat => V.int n))) ra (.tup (ras.map V.ref)))) nres
          have sT := sAB.trans sC
          have hfin : PlanV _ res ⟨signs, moods, fs, rs, rules⟩ := ⟨sa, ma, fa, ra, rd, ras, upd_same, (sig hA.1).mono fun o z => sT _ _ z, (moo hA.1).mono fun o z => sT _ _ z, sC _ _ (sB _ _ upd_same), sC _ _ upd_same,
            Paired.mapP hA.2.2.2 fun a q z => sT _ _ z, kvs, sT _ _ r1, Paired.mapP r2 fun a q z => z.mono fun _ _ y => sT _ _ y⟩
          refine k res _ ⟨signs, moods, fs, rs, rules⟩ ⟨fun b o hb e => sT _ _ (keepH e hb), ?_⟩ ?_ ?_ ?_ r3 ?_ hfin
          · obtain ⟨a, b, c, l, e⟩ := hA.1.2
            exact ⟨a, b, c, l, sT _ _ e⟩
          · refine ⟨sN, mN, ?_, ?_, ?_, ?_, ?_, ?_, hfs, ?_, ?_, ?_, ?_, fun kv hk => (r4 kv hk).1⟩
            · intro z
              have z' : signs = [] := z
              rw [z'] at sl
              simp at sl
              omega
            · show signs.length ≤ 4
              omega
            · intro z
              have z' : moods = [] := z
              rw [z'] at ml
              simp at ml
              omega
            · show moods.length ≤ 6
              omega
            · show 1 ≤ fs.length
              omega
            · show fs.length ≤ 16
              omega
            · intro z
              have z' : rs = [] := z
              rw [z'] at hrl2
              simp at hrl2
              omega
            · show rs.length ≤ 3
              omega
            · intro r hr
              have := hrs2 r hr
              show r.1 < fs.length
              omega
            · refine List.Pairwise.imp ?_ r3
              intro a b hab z
              rw [z] at hab
              omega
          · show fs.length ≤ most
            omega
          · refine ⟨?_, sIn, mIn⟩
            show moods.length ≤ 3
            omega
          · cases e : H res with
            | none => rfl
            | some o =>
              exfalso
              by_cases hb : res = d
              · obtain ⟨_, _, _, _, q⟩ := hA.1.2
                have := sAB _ _ q
                rw [← hb, nres] at this
                cases this
              · have := sAB _ _ (keepH e hb)
                rw [nres] at this
                cases this
end
end Sw

end

section
set_option maxRecDepth 100000
set_option maxHeartbeats 4000000
/-! sorted(d) of a dict whose keys are pairs of ints -/
namespace Sw
open PySem PySem.Spec PyProof.Rows L2 SwA
def PairAt (H : Hp) (b : Addr) (k : Nat × Nat) : Prop := H b = some (.tup [.int k.1, .int k.2])
def LeP (a b : Nat × Nat) : Prop := a.1 < b.1 ∨ (a.1 = b.1 ∧ a.2 ≤ b.2)
def rSortedDT : List V → Hp → VK → Prop := fun vs H Q => ∃ (d : Addr) (kvs : List (List Key × V)) (ks : List (Nat × Nat)), vs = [.ref d] ∧ Rd H d (.dT kvs) ∧ kvs.map (·.1) = ks.map keyT ∧
  ∀ (ys : List (Nat × Nat)) (bs : List Addr) (p : Addr), ys.Perm ks → ys.Pairwise LeP → Paired (PairAt H) bs ys → H p = none → Q (.ref p) (upd H p (.lst (bs.map V.ref)))
/-- what a value is to the order -/
def kOf (H : Hp) : Value → Int × Int
  | .ref t => match H t with
    | some (.tup [.int i, .int j]) => (i, j)
    | _ => (0, 0)
  | _ => (0, 0)
theorem kOf_at {H : Hp} {b : Addr} {k : Nat × Nat} (h : PairAt H b k) : kOf H (Value.ref b) = ((k.1 : Int), (k.2 : Int)) := by
  simp only [kOf, show H b = some (.tup [.int k.1, .int k.2]) from h]
theorem pairedL {α β : Type} {R : α → β → Prop} : ∀ {xs : List α} {ys : List β}, Paired R xs ys → ∀ {j : Nat} {x : α}, xs[j]? = some x → ∃ y, ys[j]? = some y ∧ R x y
  | _, _, .nil, _, _, h => by cases h
  | _, _, .cons r t, 0, _, h => by cases h; exact ⟨_, rfl, r⟩
  | _, _, .cons r t, j + 1, _, h => pairedL t (j := j) (by simpa using h)
theorem pairedR {α β : Type} {R : α → β → Prop} : ∀ {xs : List α} {ys : List β}, Paired R xs ys → ∀ {j : Nat} {y : β}, ys[j]? = some y → ∃ x, xs[j]? = some x ∧ R x y
  | _, _, .nil, _, _, h => by cases h
  | _, _, .cons r t, 0, _, h => by cases h; exact ⟨_, rfl, r⟩
  | _, _, .cons r t, j + 1, _, h => pairedR t (j := j) (by simpa using h)
theorem isKeys_pairs {H : Hp} : ∀ {kvs : List (List Key × V)} {bs : List Addr} {ks : List (Nat × Nat)}, IsKeys H kvs bs → kvs.map (·.1) = ks.map keyT → Paired (PairAt H) bs ks
  | _, _, [], .nil, _ => .nil
  | _, _, [], .cons _ _, e => by cases e
  | _, _, k :: ks, .nil, e => by cases e
  | _, _, k :: ks, .cons h t, e => by
    rw [List.map_cons, List.map_cons] at e
    injection e with e1 e2
    refine .cons ?_ (isKeys_pairs t e2)
    unfold PairAt
    rw [h, e1]
    rfl
theorem paired_perm {α β : Type} {R : α → β → Prop} {xs xs' : List α} (hp : xs'.Perm xs) : ∀ {ys : List β}, Paired R xs ys → ∃ ys', ys'.Perm ys ∧ Paired R xs' ys' := by
  induction hp with
  | nil => intro ys h; exact ⟨ys, .refl _, h⟩
  | @cons x l1 l2 _ ih =>
    intro ys h
    cases h with
    | cons r t =>
      obtain ⟨ys', p, q⟩ := ih t
      exact ⟨_ :: ys', p.cons _, .cons r q⟩
  | @swap x y l =>
    intro ys h
    cases h with
    | cons r t =>
      cases t with
      | cons r2 t2 => exact ⟨_, .swap _ _ _, .cons r2 (.cons r t2)⟩
  | @trans l1 l2 l3 _ _ ih1 ih2 =>
    intro ys h
    obtain ⟨y2, p2, q2⟩ := ih2 h
    obtain ⟨y1, p1, q1⟩ := ih1 q2
    exact ⟨y1, p1.trans p2, q1⟩
theorem pairs_sorted {H : Hp} : ∀ {bs : List Addr} {ys : List (Nat × Nat)}, Paired (PairAt H) bs ys → SrtO.Srtd (fun v u => SrtO.lexB (kOf H v) (kOf H u)) (bs.map Value.ref) → ys.Pairwise LeP
  | [], [], _, _ => .nil
  | b :: bs, y :: ys, .cons h t, hs => by
    obtain ⟨h1, h2⟩ := List.pairwise_cons.mp hs
    refine .cons (fun z hz => ?_) (pairs_sorted t h2)
    obtain ⟨j, hj⟩ := List.getElem?_of_mem hz
    obtain ⟨b2, hb2, hP⟩ := pairedR t hj
    have h3 := h1 (Value.ref b2) (List.mem_map.mpr ⟨b2, List.mem_of_getElem? hb2, rfl⟩)
    have e1 := kOf_at h
    have e2 := kOf_at hP
    simp only [e1, e2] at h3
    have h4 := SrtO.lexB_no.mp h3
    simp only at h4
    unfold LeP
    omega
theorem cr_sortedDT {X : Cx} (hc : X.calm = true) : CallR X (.builtin "sorted") rSortedDT := by
  intro pins s σ H xs us Q I r h
  obtain ⟨d, kvs, kks, rfl, hd, hkk, q⟩ := h
  obtain ⟨u, rfl, rx⟩ := r.one
  cases rx
  obtain ⟨z, hs, ks, pr, o, es, ep, ho, hx, hdt, he, hn⟩ := (show ObjOk X.prog X.w H s.heap d (.dT kvs) from hd.ok I.hok)
  have l1 : es.size = ks.length := size_of_entries he
  have l2 : kvs.length = ks.length := Paired.length pr
  refine Calls.call_function_entry PyProof.Rows.kind_sorted PyProof.Rows.plain_sorted PyProof.Rows.entry_sorted (PyProof.Rows.args_sorted1 _) ?_
  unfold Builtin.«sorted»
  refine wpAny_bind (m := checkCount "sorted" 1 1 _) (wpAny_pure ?_)
  refine wpAny_bind (PySem.W.kdu_collect (A := X.A.in1) (kdl_raw hs hx hdt) (I.ok.hd hc) ho (by omega) fun h' tk acc hk it => ?_)
  have ea : acc.toList = ks.map fun x => Value.ref x.2.1 := by
    have hl : acc.toList.length = ks.length := by rw [Array.length_toList, it.1]; exact l1
    apply List.ext_getElem?
    intro j
    rw [List.getElem?_map]
    cases hj : acc.toList[j]? with
    | none =>
      have h1 := List.getElem?_eq_none_iff.mp hj
      rw [List.getElem?_eq_none (by omega)]
      all_goals rfl
    | some v =>
      obtain ⟨en, hen, hv⟩ := it.2 j v (by rw [← Array.getElem?_toList]; exact hj)
      have qe := entry_at he j
      rw [hen] at qe
      cases hb : ks[j]? with
      | none =>
        rw [hb] at qe
        exact nomatch (show some en = none from qe)
      | some b =>
        rw [hb] at qe
        have e2 : en = entryOfKey (tupleKind (mixKind X.prog X.w)) b := Option.some.inj qe
        rw [hv, e2]
        all_goals rfl
  have eb : acc.toList = (ks.map fun x => x.2.1).map Value.ref := by rw [ea, List.map_map]; all_goals rfl
  have hP := isKeys_pairs (isKeys_of pr) hkk
  generalize (ks.map fun x => x.2.1) = bs0 at eb hP
  have hbl : bs0.length = ks.length := by
    have e := congrArg List.length eb
    rw [List.length_map, Array.length_toList, it.1] at e
    omega
  rw [eb]
  have hzz : (bs0.map Value.ref).length ≤ sizeLine := by rw [List.length_map]; omega
  have I1 : Inv X pins σ H { s with heap := h', toks := tk } := I.kept hk
  refine wpAny_bind (wpAny_newList ?_ hzz)
  have hoL : (h'.push (seqObj "list" (bs0.map Value.ref).toArray 0)).get? h'.objs.size = some (seqObj "list" (bs0.map Value.ref).toArray 0) := Heap.get?_push_size _ rfl
  show wpAny _ _ _ _ _ { s with heap := h'.push (seqObj "list" (bs0.map Value.ref).toArray 0), toks := tk }
  refine wpAny_bind (wpAny_holding (wpAny_call_entry PyProof.Rows.slot_list_sort ⟨_, hoL, rfl⟩ PyProof.Rows.entry_list_sort
    (SrtO.list_sort_ord (s := { s with heap := h'.push (seqObj "list" (bs0.map Value.ref).toArray 0), toks := tk }) (SrtO.swo_lex (kOf H)) hoL hzz (fun h2 => SrtO.pairs_sortableO (by omega) (fun v hv => ?_) (fun o e => ?_)) fun out hs2 hb2 => ⟨_, rfl, ?_⟩)
    (PyProof.Rows.args_list_sort _)))
  · obtain ⟨b, hb, rfl⟩ := List.mem_map.mp hv
    obtain ⟨j, hj⟩ := List.getElem?_of_mem hb
    obtain ⟨k, _, hk2⟩ := pairedL hP hj
    have e1 := kOf_at hk2
    rw [e1]
    obtain ⟨_, its2, r2, o2, ho2, hc2, n2, hd2⟩ := I1.hok _ _ hk2
    obtain ⟨u1, u2, rfl, ri, rj⟩ := vals2 r2
    obtain ⟨t1, rfl⟩ := ri
    obtain ⟨t2, rfl⟩ := rj
    exact ⟨b, o2, t1, t2, n2, rfl, Heap.get?_push_of_some _ ho2, hc2, hd2⟩
  · have e' : some o = some (seqObj "list" (bs0.map Value.ref).toArray 0) := e.symm.trans hoL
    cases e'
    intro c
    exact absurd (Value.type.inj c) (by decide)
  · obtain ⟨e', he'⟩ := PyProof.Rows.sortedHeap_at (vs := bs0.map Value.ref) (out := out.toArray) hoL
    have h3 : ∀ u ∈ out, ∃ a, u = Value.ref a := fun u hu => by
      obtain ⟨b, _, e⟩ := List.mem_map.mp (hb2.perm.mem_iff.mp hu)
      exact ⟨b, e.symm⟩
    obtain ⟨bs, rfl⟩ : ∃ bs : List Addr, out = bs.map Value.ref := by
      clear hs2 hb2 he'
      induction out with
      | nil => exact ⟨[], rfl⟩
      | cons u out ih =>
        obtain ⟨a, rfl⟩ := h3 u List.mem_cons_self
        obtain ⟨bs, rfl⟩ := ih fun v hv => h3 v (List.mem_cons_of_mem _ hv)
        exact ⟨a :: bs, rfl⟩
    have hperm : bs.Perm bs0 := by
      have := hb2.perm.map (fun v : Value => match v with | .ref a => a | _ => 0)
      simpa [List.map_map, Function.comp_def] using this
    obtain ⟨ys, hyp, hyP⟩ := paired_perm hperm hP
    have hlen : (bs.map V.ref).length ≤ sizeLine := by
      rw [List.length_map, hperm.length_eq]
      omega
    refine wpAny_pure ⟨_, rfl, .ref h'.objs.size, upd H h'.objs.size (.lst (bs.map V.ref)), I1.laid (t' := tk) (fun b u e => ?_) (Nat.le_refl _)
      (show ObjOk X.prog X.w _ _ _ (.lst (bs.map V.ref)) from ⟨hlen, bs.map Value.ref, e', vals_refs _, he'⟩), rfl, q ys bs _ hyp (pairs_sorted hyP hs2) hyP (I1.hok.fresh (Nat.le_refl _))⟩
    have hb : b < h'.objs.size := Heap.lt_size e
    rw [PyProof.Rows.sortedHeap_old (Nat.ne_of_lt hb) (by rw [size_push']; exact Nat.lt_succ_of_lt hb)]
    exact Heap.get?_push_of_some _ e
end Sw

end

section
set_option maxRecDepth 100000
set_option maxHeartbeats 4000000
/-! the law's own: the lines of a plan -/
namespace Sw
open PySem PySem.Spec PyProof.Rows L2 SwA
theorem sx_app (a b : Cs) : sx a ++ sx b = sx (a ++ b) := by
  have e : (sx a).cps ++ (sx b).cps = (sx (a ++ b)).cps := by simp [sx]
  exact congrArg Str.mk e
theorem sx_len (a : Cs) : (sx a).length = a.length := by simp [sx, Str.length]
theorem words_join : ∀ ws : List Cs, wordsOf ws = TL.joinL [32] ws
  | [] => rfl
  | [w] => rfl
  | w :: v :: r => by
    show w ++ 32 :: wordsOf (v :: r) = w ++ ([32] ++ TL.joinL [32] (v :: r))
    rw [words_join (v :: r)]
    rfl
theorem join_sx (a : Cs) (ys : List Cs) : Txt.join (sx a) (ys.map sx) = sx (TL.joinL a ys) := SX.join_S a ys
theorem str_dec {n : Nat} (h : n < 100) : (toString (n : Int) : Str) = sx (dec n) := by
  have : ∀ m < 100, (toString ((m : Nat) : Int) : Str) = sx (dec m) := by decide +kernel
  exact this n h
theorem log_small {n : Nat} (h : n < 100) : ((n : Nat) : Int).natAbs.log2 < 1920 := by
  rw [Int.natAbs_natCast]
  by_cases h0 : n = 0
  · subst h0; decide
  · have : n.log2 < 7 := (Nat.log2_lt h0).mpr (by omega)
    omega
theorem joinL_len (S : Cs) : ∀ ws : List Cs, (TL.joinL S ws).length ≤ (ws.map (·.length)).sum + ws.length * S.length
  | [] => by simp [TL.joinL]
  | [w] => by simp [TL.joinL]
  | w :: v :: r => by
    have ih := joinL_len S (v :: r)
    show (w ++ (S ++ TL.joinL S (v :: r))).length ≤ _
    rw [List.length_append, List.length_append]
    rw [List.map_cons, List.sum_cons, List.length_cons (a := w), Nat.add_mul, Nat.one_mul]
    omega
theorem sum_le {ws : List Cs} {b : Nat} (h : ∀ w ∈ ws, w.length ≤ b) : (ws.map (·.length)).sum ≤ ws.length * b := by
  induction ws with
  | nil => simp
  | cons w r ih =>
    have h1 := h w List.mem_cons_self
    have h2 := ih fun v hv => h v (List.mem_cons_of_mem _ hv)
    rw [List.map_cons, List.sum_cons, List.length_cons, Nat.add_mul, Nat.one_mul]
    omega
theorem lens_sx (ws : List Cs) : ((ws.map sx).map (·.length)) = ws.map (·.length) := by
  rw [List.map_map]
  exact List.map_congr_left fun w _ => sx_len w
theorem names_len {ws : List Cs} (h : NamesOk ws) : ∀ w ∈ ws, w.length ≤ 8 := fun w hw => (h.ok w hw).1.2.2
theorem dec_len (n : Nat) : (dec n).length ≤ 2 := by unfold dec; split <;> simp
abbrev lnV (ws : List Cs) : V := sV (lineOf ws)
theorem map_sV (ws : List Cs) : ws.map sV = (ws.map sx).map V.str := by rw [List.map_map]; rfl
theorem lenS {a b : Cs} (hl : a.length + b.length ≤ 10000) : (sx a).length + (sx b).length ≤ sizeLine := by rw [sx_len, sx_len, sizeLine_eq]; omega
theorem lenJ {a : Cs} {ys : List Cs} (hl : (ys.map (·.length)).sum + ys.length * a.length ≤ 100000) : ((ys.map sx).map (·.length)).sum + (ys.map sx).length * (sx a).length ≤ 16777216 := by rw [lens_sx, List.length_map, sx_len]; omega
theorem sqJ {K : PySem.W.Frag} {H : Hp} {p : Addr} {ys : List Cs} (h : SqL K H p (ys.map sV) ∨ SqT K H p (ys.map sV)) : SqL K H p ((ys.map sx).map V.str) ∨ SqT K H p ((ys.map sx).map V.str) := by rw [← map_sV]; exact h
theorem LeP.antisymm {a b : Nat × Nat} (h1 : LeP a b) (h2 : LeP b a) : a = b := by
  unfold LeP at h1 h2
  exact Prod.ext (by omega) (by omega)
theorem perm_sorted : ∀ {ys ks : List (Nat × Nat)}, ys.Perm ks → ys.Pairwise LeP → ks.Pairwise LeP → ys = ks
  | [], ks, hp, _, _ => (List.nil_perm.mp hp).symm
  | y :: ys, [], hp, _, _ => absurd (List.perm_nil.mp hp) (by simp)
  | y :: ys, k :: ks, hp, h1, h2 => by
    obtain ⟨a1, a2⟩ := List.pairwise_cons.mp h1
    obtain ⟨b1, b2⟩ := List.pairwise_cons.mp h2
    have e : y = k := by
      rcases List.mem_cons.mp (hp.mem_iff.mp List.mem_cons_self) with z | z
      · exact z
      · rcases List.mem_cons.mp (hp.mem_iff.mpr (List.mem_cons_self (a := k) (l := ks))) with q | q
        · exact q.symm
        · exact LeP.antisymm (a1 k q) (b1 y z)
    subst e
    rw [perm_sorted (hp.cons_inv) a2 b2]
theorem SortedR.le {rules : List ((Nat × Nat) × Rule)} (h : SortedR rules) : (rules.map (·.1)).Pairwise LeP := List.Pairwise.imp (fun {a b} q => by unfold LeP; omega) h
theorem head_lines {n : Nat} {signs moods : List Cs} (h1 : signs ≠ []) (h2 : moods ≠ []) :
    [V.str (sx (wCorridor ++ [32] ++ dec n ++ [59])), V.str (sx (wSigns ++ [32] ++ TL.joinL [32] signs ++ [59])), V.str (sx (wMoods ++ [32] ++ TL.joinL [32] moods ++ [59]))] = (headW n signs moods).map lnV := by
  obtain ⟨s0, sr, rfl⟩ := List.exists_cons_of_ne_nil h1
  obtain ⟨m0, mr, rfl⟩ := List.exists_cons_of_ne_nil h2
  show _ = [lnV [wCorridor, dec n], lnV (wSigns :: s0 :: sr), lnV (wMoods :: m0 :: mr)]
  unfold lnV lineOf
  rw [words_join, words_join, words_join]
  simp [TL.joinL]
theorem put_range {floor : List Nat} {i : Nat} : (List.range (i + 1)).filterMap (fun t => if 0 < floor.getD t 0 then some (t, floor.getD t 0) else none) = (List.range i).filterMap (fun t => if 0 < floor.getD t 0 then some (t, floor.getD t 0) else none) ++ (if 0 < floor.getD i 0 then [(i, floor.getD i 0)] else []) := by
  rw [List.range_succ, List.filterMap_append]
  congr 1
  by_cases h : 0 < floor.getD i 0
  · simp only [List.filterMap_cons, List.filterMap_nil, if_pos h]
  · simp only [List.filterMap_cons, List.filterMap_nil, if_neg h]
theorem snoc_ln {A B : List (List Cs)} {x : List Cs} {v : V} (h : lnV x = v) : (A ++ B).map lnV ++ [v] = (A ++ (B ++ [x])).map lnV := by
  rw [← h]
  simp
theorem snoc_lf {α : Type} {A : List (List Cs)} {L : List α} {f : α → List Cs} {q : α} {v : V} (h : lnV (f q) = v) : (A ++ L.map f).map lnV ++ [v] = (A ++ (L ++ [q]).map f).map lnV := by
  rw [← h]
  simp
theorem inc_len {n : Nat} : ∀ {l : List Nat} {lo : Nat}, l.Pairwise (· < ·) → (∀ x ∈ l, lo ≤ x ∧ x < n) → l.length ≤ n - lo
  | [], _, _, _ => Nat.zero_le _
  | x :: r, lo, hp, h => by
    obtain ⟨h1, h2⟩ := List.pairwise_cons.mp hp
    have hx := h x List.mem_cons_self
    have ih := inc_len (lo := x + 1) h2 fun y hy => ⟨h1 y hy, (h y (List.mem_cons_of_mem _ hy)).2⟩
    rw [List.length_cons]
    omega
theorem rules_few {pl : Plan} (wf : WfP pl) (so : SortedR pl.rules) : pl.rules.length ≤ 24 := by
  have h4 := wf.s4
  have h6 := wf.m6
  have := inc_len (n := 24) (lo := 0) (l := pl.rules.map fun kv => kv.1.1 * 4 + kv.1.2) ?_ ?_
  · rw [List.length_map] at this
    exact this
  · rw [List.pairwise_map]
    unfold SortedR at so
    rw [List.pairwise_map] at so
    refine List.Pairwise.imp_of_mem (fun {a b} ha hb q => ?_) so
    have := (wf.ru a ha).k2
    have := (wf.ru b hb).k2
    omega
  · intro x hx
    obtain ⟨kv, hk, rfl⟩ := List.mem_map.mp hx
    have := (wf.ru kv hk).k2
    have := (wf.ru kv hk).k1
    omega
theorem rules_keys {H : Hp} : ∀ {rs : List ((Nat × Nat) × Rule)} {kvs : List (List Key × V)}, Paired (RuleAt H) rs kvs → kvs.map (·.1) = (rs.map (·.1)).map keyT
  | _, _, .nil => rfl
  | _, _, .cons h t => by rw [List.map_cons, List.map_cons, List.map_cons, rules_keys t, h.1]
theorem nm_get {ws : List Cs} {g : Nat} (h : g < ws.length) : (ws.map sV)[g]? = some (sV (ws.getD g [])) := by
  rw [List.getElem?_map, List.getD_eq_getElem?_getD, List.getElem?_eq_getElem h]
  rfl
theorem line_len {pl : Plan} (wf : WfP pl) : ∀ ws ∈ linesW pl, (lineOf ws).length ≤ 100 := by
  have key : ∀ (ws : List Cs), ws.length ≤ 7 → (∀ w ∈ ws, w.length ≤ 8) → (lineOf ws).length ≤ 100 := by
    intro ws h7 h8
    have h1 := joinL_len [32] ws
    have h2 := sum_le h8
    have h3 : ws.length * 8 ≤ 7 * 8 := Nat.mul_le_mul_right 8 h7
    simp only [List.length_singleton, Nat.mul_one] at h1
    unfold lineOf
    rw [words_join, List.length_append, List.length_singleton]
    omega
  have h4 := wf.s4
  have h6 := wf.m6
  intro ws hws
  rcases List.mem_append.mp hws with h | h
  · simp only [headW, List.mem_cons, List.not_mem_nil, or_false] at h
    rcases h with z | z | z <;> rw [z]
    · refine key _ (by simp) fun w hw => ?_
      simp only [List.mem_cons, List.not_mem_nil, or_false] at hw
      rcases hw with q | q <;> rw [q]
      · decide
      · exact Nat.le_trans (dec_len _) (by decide)
    · refine key _ (by simp; omega) fun w hw => ?_
      rcases List.mem_cons.mp hw with q | q
      · rw [q]; decide
      · exact names_len wf.sN w q
    · refine key _ (by simp; omega) fun w hw => ?_
      rcases List.mem_cons.mp hw with q | q
      · rw [q]; decide
      · exact names_len wf.mN w q
  · obtain ⟨st, hst, rfl⟩ := List.mem_map.mp h
    obtain ⟨_, hw⟩ := stm_words wf st hst
    refine key _ (by cases st <;> simp [stmW]) fun w hw2 => ?_
    rcases hw w hw2 with q | q
    · exact q.2.2
    · exact Nat.le_trans q.2.2.1 (by decide)
theorem lines_few {pl : Plan} (wf : WfP pl) (so : SortedR pl.rules) : (linesW pl).length ≤ 50 := by
  have h1 := rules_few wf so
  have h2 := List.length_filterMap_le (fun t => if 0 < pl.floor.getD t 0 then some (t, pl.floor.getD t 0) else none) (List.range pl.floor.length)
  rw [List.length_range] at h2
  have h3 := wf.r3
  have h4 := wf.n16
  unfold linesW stmsOf putsL
  simp only [List.length_append, List.length_map, headW, List.length_cons, List.length_nil]
  omega
theorem text_len {pl : Plan} (wf : WfP pl) (so : SortedR pl.rules) : (((linesW pl).map lineOf).map (·.length)).sum + (linesW pl).length ≤ 5100 ∧ (textOf pl).length ≤ 6000 := by
  have h1 : (((linesW pl).map lineOf).map (·.length)).sum ≤ ((linesW pl).map lineOf).length * 100 := sum_le fun w hw => by
    obtain ⟨ws, h, rfl⟩ := List.mem_map.mp hw
    exact line_len wf ws h
  have h2 := lines_few wf so
  have h3 := joinL_len [10] ((linesW pl).map lineOf)
  rw [List.length_map] at h1 h3
  simp only [List.length_singleton] at h3
  unfold textOf
  omega
structure LinT (K : PySem.W.Frag) (mg : Str → Option Value) : Prop where
  p : PlaT K mg
  str : mg "str" = none
  sorted : mg "sorted" = none
  lines : DeT K mg "_law_lines" s__law_lines
  text : DeT K mg "_law_text" s__law_text
section
variable {P : Program} {w : World} {K : PySem.W.Frag} {mg : Str → Option Value} {base : Heap}
/-- the rules' dict may have another order -/
def spLinesP : Sp := fun vs H Q _ => ∃ (a : Addr) (pl : Plan) (rs : List ((Nat × Nat) × Rule)), vs = [.ref a] ∧ PlanV H a { pl with rules := rs } ∧ rs.Perm pl.rules ∧ WfP pl ∧ SortedR pl.rules ∧
  ∀ (l : Addr) (H' : Hp), H l = none → Same H H' → H' l = some (.lst ((linesW pl).map lnV)) → Q (.ref l) H'
def spLines : Sp := fun vs H Q _ => ∃ (a : Addr) (pl : Plan), vs = [.ref a] ∧ PlanV H a pl ∧ WfP pl ∧ SortedR pl.rules ∧
  ∀ (l : Addr) (H' : Hp), H l = none → Same H H' → H' l = some (.lst ((linesW pl).map lnV)) → Q (.ref l) H'
abbrev liN : List Str := ["_law_plan_here", "_law_signs", "_law_moods", "_law_floor", "_law_robots", "_law_rules", "_law_lines_here", "_law_tile", "_law_is_right", "_law_mood", "_law_sign", "_law_left", "_law_move", "_law_later", "_law_words"]
theorem sc_lines : FnScope liN ["_law_plan_here"] (defScope s__law_lines) := ⟨rfl, rfl, rfl, by decide +kernel, rfl, by decide +kernel, by decide +kernel⟩
theorem ok_linesP (T : LinT K mg) : FnE P w K mg base CX0 1 ("_law_lines", none) ["_law_plan_here"] spLinesP := by
  obtain ⟨fd, F⟩ := T.lines.d
  refine ⟨fd, F.ok sc_lines (fun vs H Q E h => ?_) (fun cdv A outer s H vs Q E hr h => ?_), F.bindsN fun _ _ _ _ _ _ us hl => match us, hl with | [_], _ => rfl, F.kp⟩
  · obtain ⟨a, pl, rs, rfl, _⟩ := h
    rfl
  · obtain ⟨a, pl, rs, rfl, hP, hpm, wf, so, k⟩ := h
    have hu := hu_of hr
    refine ⟨_, PSs.nox (pss_cons (ps_asg (pv 0)
        (pg_tup rfl (pgs_cons (pg_name (i := 1) sc_lines.nd rfl (.inl rfl)) (pgs_cons (pg_name (i := 2) sc_lines.nd rfl (.inl rfl)) (pgs_cons (pg_name (i := 3) sc_lines.nd rfl (.inl rfl)) (pgs_cons (pg_name (i := 4) sc_lines.nd rfl (.inl rfl)) (pgs_cons (pg_name (i := 5) sc_lines.nd rfl (.inl rfl)) pgs_nil)))))))
      (pss_cons (ps_set (i := 6) sc_lines.nd rfl (.inl rfl) (pe_lst (pa_cons (pe_op op_add_str (pe_op op_add_str pe_str (pe_callTy call_str_int (by rfl) T.str (by decide +kernel) (pa_cons (pe_callB call_len_seq (by rfl) T.p.s.l.len boot_len (pa_cons (pv 3) pa_nil)) pa_nil))) pe_str) (pa_cons (pe_op op_add_str (pe_op op_add_str pe_str (pe_join pe_str (pv 1))) pe_str) (pa_cons (pe_op op_add_str (pe_op op_add_str pe_str (pe_join pe_str (pv 2))) pe_str) pa_nil)))))
      (pss_cons (ps_for PassesOwn.never rfl (pi_tup (pv 4)) (pg_tup rfl (pgs_cons (pg_name (i := 7) sc_lines.nd rfl (.inl rfl)) (pgs_cons (pg_name (i := 8) sc_lines.nd rfl (.inl rfl)) pgs_nil)))
        (pss_one (ps_expr (pe_bm PySem.F.plainAttrs_list PySem.F.slot_list_append PySem.F.type_list_append mt_append (pv 6) (pa_cons (pe_op op_add_str (pe_op op_add_str pe_str (pe_callTy call_str_int (by rfl) T.str (by decide +kernel) (pa_cons (pv 7) pa_nil))) (pe_ifExp (pt_val (pv 8)) pe_str pe_str)) pa_nil)))))
      (pss_cons (ps_for PassesOwn.never rfl (pi_range1 (by rfl) T.p.s.l.range (pa_cons (pe_callB call_len_seq (by rfl) T.p.s.l.len boot_len (pa_cons (pv 3) pa_nil)) pa_nil)) (pg_name (i := 7) sc_lines.nd rfl (.inl rfl))
        (pss_one (ps_if (pt_cmpR op_gt (pe_ix ix_tup (pv 3) (pv 7) (fun _ _ => rfl)) pe_int (nomark _))
          (pss_one (ps_expr (pe_bm PySem.F.plainAttrs_list PySem.F.slot_list_append PySem.F.type_list_append mt_append (pv 6) (pa_cons (pe_op op_add_str (pe_op op_add_str (pe_op op_add_str (pe_op op_add_str pe_str (pe_ix ix_tup (pv 1) (pe_ix ix_tup (pv 3) (pv 7) (fun _ _ => rfl)) (fun _ _ => rfl))) pe_str) (pe_callTy call_str_int (by rfl) T.str (by decide +kernel) (pa_cons (pv 7) pa_nil))) pe_str) pa_nil)))) pss_nil)))
      (pss_cons (ps_for PassesOwn.never rfl (pi_list (pe_callB (cr_sortedDT rfl) (by rfl) T.sorted (by decide +kernel) (pa_cons (pv 5) pa_nil))) (pg_tup rfl (pgs_cons (pg_name (i := 9) sc_lines.nd rfl (.inl rfl)) (pgs_cons (pg_name (i := 10) sc_lines.nd rfl (.inl rfl)) pgs_nil)))
        (pss_cons (ps_asg (pe_dget hu (pv 5) (pe_tup (pa_cons (pv 9) (pa_cons (pv 10) pa_nil))) (fun _ _ => rfl))
          (pg_tup rfl (pgs_cons (pg_name (i := 11) sc_lines.nd rfl (.inl rfl)) (pgs_cons (pg_name (i := 12) sc_lines.nd rfl (.inl rfl)) (pgs_cons (pg_name (i := 13) sc_lines.nd rfl (.inl rfl)) pgs_nil)))))
        (pss_cons (ps_set (i := 14) sc_lines.nd rfl (.inl rfl) (pe_lst (pa_cons pe_str (pa_cons (pe_ix ix_tup (pv 2) (pv 9) (fun _ _ => rfl)) (pa_cons (pe_ix ix_tup (pv 1) (pv 10) (fun _ _ => rfl)) (pa_cons pe_str (pa_cons (pe_ix ix_tup (pv 1) (pv 11) (fun _ _ => rfl)) (pa_cons (pv 12) (pa_cons (pe_ix ix_tup (pv 2) (pv 13) (fun _ _ => rfl)) pa_nil)))))))))
        (pss_one (ps_expr (pe_bm PySem.F.plainAttrs_list PySem.F.slot_list_append PySem.F.type_list_append mt_append (pv 6) (pa_cons (pe_op op_add_str (pe_join pe_str (pv 14)) pe_str) pa_nil)))))))
      (pss_one (ps_ret (pv 6)))))))), ?_⟩
    obtain ⟨sa, ma, fa, ra, rd, ras, e0, e1, e2, e3, e4, e5, kvs, e6, e7⟩ := hP
    replace e1 : TupN H sa (pl.signs.map sV) := e1
    replace e2 : TupN H ma (pl.moods.map sV) := e2
    replace e3 : H fa = some (.tup (pl.floor.map fun n : Nat => V.int n)) := e3
    replace e5 : Paired (RobAt H) ras pl.robots := e5
    replace e7 : Paired (RuleAt H) rs kvs := e7
    refine ⟨_, rfl, a, _, rfl, SqT.of e0, rfl, _, _, rfl, _, _, rfl, _, _, rfl, _, _, rfl, _, _, rfl, rfl, ?_⟩
    have h16 := wf.n16
    have hdn := dec_len pl.floor.length
    have hsl : (pl.signs.map (·.length)).sum ≤ 4 * 8 := Nat.le_trans (sum_le (names_len wf.sN)) (Nat.mul_le_mul_right 8 wf.s4)
    have hml : (pl.moods.map (·.length)).sum ≤ 6 * 8 := Nat.le_trans (sum_le (names_len wf.mN)) (Nat.mul_le_mul_right 8 wf.m6)
    have hs4 := wf.s4
    have hm6 := wf.m6
    refine ⟨_, rfl, fa, _, rfl, .inr (SqT.of e3), _, rfl, ?_⟩
    rw [List.length_map]
    refine ⟨log_small (by omega), ?_⟩
    rw [str_dec (show pl.floor.length < 100 by omega)]
    refine ⟨sx (wCorridor ++ [32]), sx (dec pl.floor.length), (by kernel_rfl), rfl, lenS (by simp [wCorridor]; omega), ?_⟩
    rw [sx_app]
    refine ⟨sx (wCorridor ++ [32] ++ dec pl.floor.length), sx ([59]), rfl, (by kernel_rfl), lenS (by simp [wCorridor]; omega), ?_⟩
    rw [sx_app]
    have lj1 := joinL_len [32] pl.signs
    have lj2 := joinL_len [32] pl.moods
    simp only [List.length_singleton, Nat.mul_one] at lj1 lj2
    refine ⟨⟨_, rfl⟩, _, rfl, sx [32], _, (pl.signs).map sx, (by kernel_rfl), rfl, sqJ (.inr e1.sq), lenJ (by simp only [List.length_singleton]; omega), ?_⟩
    rw [join_sx]
    refine ⟨sx (wSigns ++ [32]), sx (TL.joinL [32] pl.signs), (by kernel_rfl), rfl, lenS (by simp [wSigns]; omega), ?_⟩
    rw [sx_app]
    refine ⟨sx (wSigns ++ [32] ++ TL.joinL [32] pl.signs), sx ([59]), rfl, (by kernel_rfl), lenS (by simp [wSigns]; omega), ?_⟩
    rw [sx_app]
    refine ⟨⟨_, rfl⟩, _, rfl, sx [32], _, (pl.moods).map sx, (by kernel_rfl), rfl, sqJ (.inr e2.sq), lenJ (by simp only [List.length_singleton]; omega), ?_⟩
    rw [join_sx]
    refine ⟨sx (wMoods ++ [32]), sx (TL.joinL [32] pl.moods), (by kernel_rfl), rfl, lenS (by simp [wMoods]; omega), ?_⟩
    rw [sx_app]
    refine ⟨sx (wMoods ++ [32] ++ TL.joinL [32] pl.moods), sx ([59]), rfl, (by kernel_rfl), lenS (by simp [wMoods]; omega), ?_⟩
    rw [sx_app]
    refine ⟨(by show 3 ≤ sizeLine; decide), fun l nl => ?_⟩
    have s1 : Same H (upd H l (.lst ((headW pl.floor.length pl.signs pl.moods).map lnV))) := sameUpd (Same.refl H) nl
    rw [head_lines wf.s1 wf.m1]
    have hl1 := @upd_same H l (.lst ((headW pl.floor.length pl.signs pl.moods).map lnV))
    generalize upd H l (.lst ((headW pl.floor.length pl.signs pl.moods).map lnV)) = H1 at *
    -- robots
    refine ⟨_, rfl, ra, rfl, ⟨_, SqT.of (s1 _ _ e4)⟩, ?_⟩
    refine for_tup (K := K) (a := ra) (xs := ras.map V.ref) (fun i σ H2 => ∃ o7 o8 : Option V, σ = [some (.ref a), some (.ref sa), some (.ref ma), some (.ref fa), some (.ref ra), some (.ref rd), some (.ref l), o7, o8, none, none, none, none, none, none] ∧ Same H H2 ∧
      H2 l = some (.lst ((headW pl.floor.length pl.signs pl.moods ++ (pl.robots.take i).map fun r => stmW pl.signs pl.moods (robS r)).map lnV))) ⟨none, none, rfl, s1, by rw [List.take_zero, List.map_nil, List.append_nil]; exact hl1⟩ (fun i σ H2 _ ⟨_, _, _, sm, _⟩ => SqT.of (sm _ _ e4)) ?_ ?_
    · rintro i x σ H2 hx ⟨o7, o8, rfl, sm, hl2⟩
      rw [List.getElem?_map] at hx
      cases hra : ras[i]? with
      | none => rw [hra] at hx; cases hx
      | some rai =>
        rw [hra] at hx
        cases hx
        obtain ⟨r, hr', hrob⟩ := pairedL e5 hra
        have hrt := wf.rt r (List.mem_of_getElem? hr')
        have hir : i < pl.robots.length := (List.getElem?_eq_some_iff.mp hr').1
        have hr3 := wf.r3
        have dl := dec_len r.1
        refine ⟨rai, _, rfl, SqT.of (sm _ _ hrob), rfl, _, _, rfl, _, _, rfl, rfl, ?_⟩
        refine ⟨_, rfl, .inl ⟨rfl, _, SqL.of hl2⟩, _, rfl, _, rfl, log_small (by omega), ?_⟩
        rw [str_dec (show r.1 < 100 by omega)]
        refine ⟨sx (wRobot ++ [32]), sx (dec r.1), (by kernel_rfl), rfl, lenS (by simp [wRobot]; omega), ?_⟩
        rw [sx_app]
        have et : (pl.robots.take (i + 1)).map (fun r => stmW pl.signs pl.moods (robS r)) = (pl.robots.take i).map (fun r => stmW pl.signs pl.moods (robS r)) ++ [stmW pl.signs pl.moods (robS r)] := by
          rw [List.take_succ, hr', List.map_append]
          rfl
        have hll : ((headW pl.floor.length pl.signs pl.moods ++ (pl.robots.take i).map fun r => stmW pl.signs pl.moods (robS r)).map lnV).length < sizeLine := by
          rw [List.length_map, List.length_append, List.length_map, List.length_take, sizeLine_eq]
          simp [headW]
          omega
        refine ⟨_, rfl, _, rfl, ?_⟩
        cases hb : r.2 with
        | true =>
          refine ⟨sx (wRobot ++ [32] ++ dec r.1), sx (32 :: wRight ++ [59]), rfl, (by kernel_rfl), lenS (by simp [wRobot, wRight]; omega), ?_⟩
          rw [sx_app]
          refine ⟨l, _, _, rfl, rfl, hl2, hll, _, _, rfl, sameUpd sm nl, ?_⟩
          rw [upd_same, et]
          have : lnV (stmW pl.signs pl.moods (robS r)) = V.str (sx (wRobot ++ [32] ++ dec r.1 ++ (32 :: wRight ++ [59]))) := by
            unfold lnV lineOf robS
            rw [words_join, hb]
            simp [stmW, TL.joinL, wayOf]
          rw [snoc_ln this]
        | false =>
          refine ⟨sx (wRobot ++ [32] ++ dec r.1), sx (32 :: wLeft ++ [59]), rfl, (by kernel_rfl), lenS (by simp [wRobot, wLeft]; omega), ?_⟩
          rw [sx_app]
          refine ⟨l, _, _, rfl, rfl, hl2, hll, _, _, rfl, sameUpd sm nl, ?_⟩
          rw [upd_same, et]
          have : lnV (stmW pl.signs pl.moods (robS r)) = V.str (sx (wRobot ++ [32] ++ dec r.1 ++ (32 :: wLeft ++ [59]))) := by
            unfold lnV lineOf robS
            rw [words_join, hb]
            simp [stmW, TL.joinL, wayOf]
          rw [snoc_ln this]
    rintro σ H2 ⟨o7, o8, rfl, s2, hl2⟩
    rw [List.length_map, e5.length, List.take_length] at hl2
    generalize hA : headW pl.floor.length pl.signs pl.moods ++ pl.robots.map (fun r => stmW pl.signs pl.moods (robS r)) = LA at hl2
    have hLA : LA.length ≤ 6 := by
      rw [← hA, List.length_append, List.length_map]
      have := wf.r3
      simp [headW]
      omega
    -- puts
    refine ⟨_, rfl, fa, _, rfl, .inr (SqT.of (s2 _ _ e3)), ?_⟩
    refine ⟨_, rfl, by rw [List.length_map]; omega, by rw [List.length_map]; omega, ?_⟩
    refine for_range (lo := 0) (n := ((pl.floor.map fun n : Nat => V.int n).length : Int).toNat) (fun i σ H3 => ∃ o7 : Option V, σ = [some (.ref a), some (.ref sa), some (.ref ma), some (.ref fa), some (.ref ra), some (.ref rd), some (.ref l), o7, o8, none, none, none, none, none, none] ∧ Same H H3 ∧
      H3 l = some (.lst ((LA ++ ((List.range i).filterMap (fun t => if 0 < pl.floor.getD t 0 then some (t, pl.floor.getD t 0) else none)).map fun q => stmW pl.signs pl.moods (putS q)).map lnV))) ⟨o7, rfl, s2, by rw [List.range_zero, List.filterMap_nil, List.map_nil, List.append_nil]; exact hl2⟩ ?_ ?_
    · rintro i σ H3 hi ⟨o7, rfl, sm, hl3⟩
      rw [Int.toNat_natCast, List.length_map] at hi
      have hg : (pl.floor.map fun n : Nat => V.int n)[i]? = some (.int (pl.floor.getD i 0 : Nat)) := by
        rw [List.getElem?_map, List.getD_eq_getElem?_getD, List.getElem?_eq_getElem hi]
        rfl
      have hgs : pl.floor.getD i 0 < pl.signs.length := by
        rw [List.getD_eq_getElem?_getD, List.getElem?_eq_getElem hi]
        exact wf.fl _ (List.getElem_mem hi)
      have ez : (0 : Int) + (i : Nat) = (i : Nat) := by omega
      rw [ez]
      refine ⟨_, rfl, _, rfl, fa, _, _, _, rfl, rfl, SqT.of (sm _ _ e3), atI_nat hg, _, _, rfl, rfl, _, rfl, ?_⟩
      refine ite2 (fun h => ?_) (fun h => ?_)
      · have h0 : 0 < pl.floor.getD i 0 := by
          have := of_decide_eq_true h
          omega
        have hsg : (pl.signs.map sV)[pl.floor.getD i 0]? = some (sV (pl.signs.getD (pl.floor.getD i 0) [])) := by
          rw [List.getElem?_map, List.getD_eq_getElem?_getD (l := pl.signs), List.getElem?_eq_getElem hgs]
          rfl
        have hs8 : (pl.signs.getD (pl.floor.getD i 0) []).length ≤ 8 := names_len wf.sN _ (getD_in hgs)
        have hsa := e1.mono (fun o z => sm _ _ z)
        have dl := dec_len i
        refine ⟨_, rfl, .inl ⟨rfl, _, SqL.of hl3⟩, _, rfl, _, rfl, _, rfl, fa, _, _, _, rfl, rfl, SqT.of (sm _ _ e3), atI_nat hg, sa, _, _, _, rfl, rfl, hsa.sq, atI_nat hsg, ?_⟩
        generalize hgg : pl.floor.getD i 0 = g at *
        refine ⟨sx (wPut ++ [32]), sx (pl.signs.getD g []), (by kernel_rfl), rfl, lenS (by simp [wPut] at hs8 ⊢; omega), ?_⟩
        rw [sx_app]
        refine ⟨sx (wPut ++ [32] ++ pl.signs.getD g []), sx [32], rfl, (by kernel_rfl), lenS (by simp [wPut] at hs8 ⊢; omega), ?_⟩
        rw [sx_app]
        refine ⟨_, rfl, _, rfl, log_small (by omega), ?_⟩
        rw [str_dec (show i < 100 by omega)]
        refine ⟨sx (wPut ++ [32] ++ pl.signs.getD g [] ++ [32]), sx (dec i), rfl, rfl, lenS (by simp [wPut] at hs8 ⊢; omega), ?_⟩
        rw [sx_app]
        refine ⟨sx (wPut ++ [32] ++ pl.signs.getD g [] ++ [32] ++ dec i), sx [59], rfl, (by kernel_rfl), lenS (by simp [wPut] at hs8 ⊢; omega), ?_⟩
        rw [sx_app]
        have hfl := List.length_filterMap_le (fun t => if 0 < pl.floor.getD t 0 then some (t, pl.floor.getD t 0) else none) (List.range i)
        rw [List.length_range] at hfl
        refine ⟨l, _, _, rfl, rfl, hl3, ?_, _, rfl, sameUpd sm nl, ?_⟩
        · rw [List.length_map, List.length_append, List.length_map, sizeLine_eq]
          omega
        · have : lnV (stmW pl.signs pl.moods (putS (i, g))) = V.str (sx (wPut ++ [32] ++ pl.signs.getD g [] ++ [32] ++ dec i ++ [59])) := by
            unfold lnV lineOf putS
            rw [words_join]
            simp [stmW, TL.joinL]
          rw [upd_same, put_range, hgg, if_pos h0, snoc_lf (f := fun q => stmW pl.signs pl.moods (putS q)) this]
      · have h0 : ¬ 0 < pl.floor.getD i 0 := by
          have := of_decide_eq_false (Bool.eq_false_iff.mpr h)
          omega
        refine ⟨_, rfl, sm, ?_⟩
        rw [put_range, if_neg h0, List.append_nil]
        exact hl3
    rintro σ H3 ⟨o7', rfl, s3, hl3⟩
    rw [Int.toNat_natCast, List.length_map] at hl3
    have hLB : (LA ++ (putsL pl.floor).map fun q => stmW pl.signs pl.moods (putS q)).length ≤ 30 := by
      have hfl := List.length_filterMap_le (fun t => if 0 < pl.floor.getD t 0 then some (t, pl.floor.getD t 0) else none) (List.range pl.floor.length)
      rw [List.length_range] at hfl
      rw [List.length_append, List.length_map]
      unfold putsL
      omega
    replace hl3 : H3 l = some (.lst ((LA ++ (putsL pl.floor).map fun q => stmW pl.signs pl.moods (putS q)).map lnV)) := hl3
    generalize hB : LA ++ (putsL pl.floor).map (fun q => stmW pl.signs pl.moods (putS q)) = LB at hl3 hLB
    -- rules
    have hru := rules_few wf so
    refine ⟨_, rfl, rd, kvs, rs.map (·.1), rfl, Rd.of (s3 _ _ e6), rules_keys e7, fun ys bs p hperm hso hpair np => ?_⟩
    obtain rfl := perm_sorted (hperm.trans (hpm.map _)) hso so.le
    have s4 := sameUpd (o := .lst (bs.map V.ref)) (Same.refl H3) np
    have hp4 := @upd_same H3 p (.lst (bs.map V.ref))
    have hpl : p ≠ l := fun z => by rw [z, hl3] at np; cases np
    replace hl3 := s4 _ _ hl3
    have np0 : H p = none := s3.free np
    replace s3 := s3.trans s4
    have hpair : Paired (PairAt (upd H3 p (.lst (bs.map V.ref)))) bs (pl.rules.map (·.1)) := Paired.mapP hpair fun _ _ q => s4 _ _ q
    generalize upd H3 p (.lst (bs.map V.ref)) = H4 at *
    refine ⟨p, rfl, ⟨_, SqL.of hp4⟩, ?_⟩
    refine for_list (K := K) (a := p) (xs := bs.map V.ref) (fun i σ H5 => ∃ o9 o10 o11 o12 o13 o14 : Option V, σ = [some (.ref a), some (.ref sa), some (.ref ma), some (.ref fa), some (.ref ra), some (.ref rd), some (.ref l), o7', o8, o9, o10, o11, o12, o13, o14] ∧ Same (cutH H4 [l]) H5 ∧
      H5 l = some (.lst ((LB ++ (pl.rules.take i).map fun r => stmW pl.signs pl.moods (rulS r)).map lnV))) ⟨none, none, none, none, none, none, rfl, cutH_same, by rw [List.take_zero, List.map_nil, List.append_nil]; exact hl3⟩
      (fun i σ H5 _ ⟨_, _, _, _, _, _, _, sm, _⟩ => SqL.of (sm _ _ (by rw [cutH_out (by simpa using hpl)]; exact hp4))) ?_ ?_
    · rintro i x σ H5 hx ⟨o9, o10, o11, o12, o13, o14, rfl, sm, hl5⟩
      have up : ∀ b o, b ≠ l → H4 b = some o → H5 b = some o := fun b o hb e => sm _ _ (by rw [cutH_out (by simpa using hb)]; exact e)
      rw [List.getElem?_map] at hx
      cases hbi : bs[i]? with
      | none => rw [hbi] at hx; cases hx
      | some bi =>
        rw [hbi] at hx
        cases hx
        obtain ⟨ky, hky, hpr⟩ := pairedL hpair hbi
        rw [List.getElem?_map] at hky
        cases hri : pl.rules[i]? with
        | none => rw [hri] at hky; cases hky
        | some kv =>
          rw [hri] at hky
          cases hky
          have hmem := List.mem_of_getElem? hri
          have rk := wf.ru kv hmem
          have hir : i < pl.rules.length := (List.getElem?_eq_some_iff.mp hri).1
          have nel : ∀ {b : Addr} {o : HO}, H b = some o → b ≠ l := fun e z => by rw [z, nl] at e; cases e
          have bil : bi ≠ l := fun z => by
            have q : H4 bi = _ := hpr
            rw [z, hl3] at q
            cases q
          refine ⟨bi, _, rfl, SqT.of (up _ _ bil hpr), rfl, _, _, rfl, _, _, rfl, rfl, ?_⟩
          refine ⟨_, rfl, _, rfl, _, rfl, (by show 2 ≤ sizeLine; decide), fun t nt => ?_⟩
          have s6 := sameUpd (o := .tup [.int kv.1.1, .int kv.1.2]) (Same.refl H5) nt
          have ht := @upd_same H5 t (.tup [.int kv.1.1, .int kv.1.2])
          have sm6 := sm.trans s6
          replace hl5 := s6 _ _ hl5
          replace up : ∀ b o, b ≠ l → H4 b = some o → (upd H5 t (.tup [.int kv.1.1, .int kv.1.2])) b = some o := fun b o hb e => s6 _ _ (up b o hb e)
          generalize upd H5 t (.tup [.int kv.1.1, .int kv.1.2]) = H6 at *
          have e7' : Paired (RuleAt H6) rs kvs := Paired.mapP e7 fun _ _ q => q.mono fun b xs z => up _ _ (nel z) (s3 _ _ z)
          obtain ⟨tv, hv1, hv2⟩ := (rules_get (k := kv.1) e7').2 kv.2 (getA_mem ((hpm.map _).nodup_iff.mpr wf.rn) (hpm.mem_iff.mpr hmem))
          refine ⟨rd, .ref tv, rfl, by rw [← hv1]; exact DGet.t (k := keyT kv.1) (up _ _ (nel e6) (s3 _ _ e6)) ht, ?_⟩
          refine ⟨tv, _, rfl, SqT.of hv2, rfl, _, _, rfl, _, _, rfl, _, _, rfl, rfl, ?_⟩
          have hma : TupN H6 ma (pl.moods.map sV) := e2.mono fun o z => up _ _ (nel z) (s3 _ _ z)
          have hsa : TupN H6 sa (pl.signs.map sV) := e1.mono fun o z => up _ _ (nel z) (s3 _ _ z)
          refine ⟨_, rfl, _, rfl, ma, _, _, _, rfl, rfl, hma.sq, atI_nat (nm_get rk.k1), _, rfl, _, rfl, sa, _, _, _, rfl, rfl, hsa.sq, atI_nat (nm_get rk.k2), _, rfl, _, rfl, sa, _, _, _, rfl, rfl, hsa.sq, atI_nat (nm_get rk.l), _, rfl, _, rfl, _, rfl, ma, _, _, _, rfl, rfl, hma.sq, atI_nat (nm_get rk.la), ?_⟩
          refine ⟨(by show 7 ≤ sizeLine; decide), fun wl nwl => ?_⟩
          have e8 : [V.str (Str.ofString "when"), sV (pl.moods.getD kv.1.1 []), sV (pl.signs.getD kv.1.2 []), V.str (Str.ofString "leave"), sV (pl.signs.getD kv.2.left []), sV kv.2.move, sV (pl.moods.getD kv.2.later [])] = (stmW pl.signs pl.moods (rulS kv)).map sV := by
            show _ = [sV wWhen, sV (pl.moods.getD kv.1.1 []), sV (pl.signs.getD kv.1.2 []), sV wLeave, sV (pl.signs.getD kv.2.left []), sV kv.2.move, sV (pl.moods.getD kv.2.later [])]
            congr 1
          rw [e8]
          have s7 := sameUpd (o := .lst ((stmW pl.signs pl.moods (rulS kv)).map sV)) (Same.refl H6) nwl
          have hwl := @upd_same H6 wl (.lst ((stmW pl.signs pl.moods (rulS kv)).map sV))
          have sm7 := sm6.trans s7
          replace hl5 := s7 _ _ hl5
          generalize upd H6 wl (.lst ((stmW pl.signs pl.moods (rulS kv)).map sV)) = H7 at *
          have l8 : ∀ w ∈ stmW pl.signs pl.moods (rulS kv), w.length ≤ 8 := by
            have hmv : ∀ m ∈ moves, m.length ≤ 8 := by decide +kernel
            intro w hw
            have hw' : w = wWhen ∨ w = pl.moods.getD kv.1.1 [] ∨ w = pl.signs.getD kv.1.2 [] ∨ w = wLeave ∨ w = pl.signs.getD kv.2.left [] ∨ w = kv.2.move ∨ w = pl.moods.getD kv.2.later [] := by simpa [rulS, stmW] using hw
            rcases hw' with z | z | z | z | z | z | z <;> rw [z]
            · decide
            · exact names_len wf.mN _ (getD_in rk.k1)
            · exact names_len wf.sN _ (getD_in rk.k2)
            · decide
            · exact names_len wf.sN _ (getD_in rk.l)
            · exact hmv _ rk.mv
            · exact names_len wf.mN _ (getD_in rk.la)
          have ls := sum_le l8
          have l7 : (stmW pl.signs pl.moods (rulS kv)).length = 7 := rfl
          rw [l7] at ls
          have lj := joinL_len [32] (stmW pl.signs pl.moods (rulS kv))
          rw [l7] at lj
          simp only [List.length_singleton] at lj
          refine ⟨_, rfl, .inl ⟨rfl, _, SqL.of hl5⟩, ⟨_, rfl⟩, _, rfl, sx [32], wl, (stmW pl.signs pl.moods (rulS kv)).map sx, (by kernel_rfl), rfl, sqJ (.inl (SqL.of hwl)), lenJ (by rw [l7]; simp only [List.length_singleton]; omega), ?_⟩
          rw [join_sx]
          refine ⟨sx (TL.joinL [32] (stmW pl.signs pl.moods (rulS kv))), sx [59], rfl, (by kernel_rfl), lenS (by simp only [List.length_singleton]; omega), ?_⟩
          rw [sx_app]
          refine ⟨l, _, _, rfl, rfl, hl5, ?_, _, _, _, _, _, _, rfl, cutS sm7 (by simp), ?_⟩
          · rw [List.length_map, List.length_append, List.length_map, List.length_take, sizeLine_eq]
            omega
          · have : lnV (stmW pl.signs pl.moods (rulS kv)) = V.str (sx (TL.joinL [32] (stmW pl.signs pl.moods (rulS kv)) ++ [59])) := by
              unfold lnV lineOf
              rw [words_join]
            have et : (pl.rules.take (i + 1)) = pl.rules.take i ++ [kv] := by
              rw [List.take_succ, hri]
              rfl
            rw [upd_same, et, snoc_lf (f := fun r => stmW pl.signs pl.moods (rulS r)) this]
    rintro σ H5 ⟨o9, o10, o11, o12, o13, o14, rfl, sm, hl5⟩
    have hbl : bs.length = pl.rules.length := by rw [hpair.length, List.length_map]
    rw [List.length_map, hbl, List.take_length] at hl5
    refine ⟨_, rfl, k l H5 nl (fun b o e => sm _ _ ?_) ?_⟩
    · rw [cutH_out]
      · exact s3 _ _ e
      · intro z
        rw [List.mem_singleton.mp z, nl] at e
        cases e
    · rw [hl5, ← hB, ← hA]
      unfold linesW stmsOf
      simp [List.append_assoc, Function.comp_def]
/-! ### _law_text -/
theorem ok_lines (T : LinT K mg) : FnE P w K mg base CX0 1 ("_law_lines", none) ["_law_plan_here"] spLines := by
  obtain ⟨fd, G, b, k⟩ := ok_linesP (P := P) (w := w) (base := base) T
  exact ⟨fd, G.imp fun vs H Q E ⟨a, pl, e, hP, wf, so, k⟩ => ⟨a, pl, pl.rules, e, hP, .refl _, wf, so, k⟩, b, k⟩
def spTextP : Sp := fun vs H Q _ => ∃ (a : Addr) (pl : Plan) (rs : List ((Nat × Nat) × Rule)), vs = [.ref a] ∧ PlanV H a { pl with rules := rs } ∧ rs.Perm pl.rules ∧ WfP pl ∧ SortedR pl.rules ∧ ∀ H' : Hp, Same H H' → Q (sV (textOf pl)) H'
def spText : Sp := fun vs H Q _ => ∃ (a : Addr) (pl : Plan), vs = [.ref a] ∧ PlanV H a pl ∧ WfP pl ∧ SortedR pl.rules ∧ ∀ H' : Hp, Same H H' → Q (sV (textOf pl)) H'
theorem sc_text : FnScope ["_law_plan_here"] ["_law_plan_here"] (defScope s__law_text) := ⟨rfl, rfl, rfl, by decide +kernel, rfl, by decide +kernel, by decide +kernel⟩
theorem ok_textP (T : LinT K mg) : FnE P w K mg base CX0 2 ("_law_text", none) ["_law_plan_here"] spTextP := by
  obtain ⟨fd, F⟩ := T.text.d
  obtain ⟨fdL, GL, bL, kL⟩ := ok_linesP (P := P) (w := w) (base := base) T
  refine ⟨fd, F.ok sc_text (fun vs H Q E h => ?_) (fun cdv A outer s H vs Q E hr h => ?_), F.bindsN fun _ _ _ _ _ _ us hl => match us, hl with | [_], _ => rfl, F.kp⟩
  · obtain ⟨a, pl, rs, rfl, _⟩ := h
    rfl
  · obtain ⟨a, pl, rs, rfl, hP, hpm, wf, so, k⟩ := h
    refine ⟨_, PSs.nox (pss_one (ps_ret (pe_join pe_str (pe_call GL hr rfl T.lines.g kL bL .nil pass0 (pa_cons (pv 0) pa_nil))))), ?_⟩
    obtain ⟨t1, t2⟩ := text_len wf so
    refine ⟨⟨_, rfl⟩, _, rfl, a, pl, rs, rfl, hP, hpm, wf, so, fun l H' nl sm hl => ?_⟩
    have e : (linesW pl).map lnV = (((linesW pl).map lineOf).map sx).map V.str := by rw [List.map_map, List.map_map]; rfl
    rw [e] at hl
    refine ⟨sx [10], l, ((linesW pl).map lineOf).map sx, (by kernel_rfl), rfl, .inl (SqL.of hl), lenJ (by rw [List.length_map]; simp only [List.length_singleton]; omega), ?_⟩
    rw [join_sx]
    exact k H' sm
theorem ok_text (T : LinT K mg) : FnE P w K mg base CX0 2 ("_law_text", none) ["_law_plan_here"] spText := by
  obtain ⟨fd, G, b, k⟩ := ok_textP (P := P) (w := w) (base := base) T
  exact ⟨fd, G.imp fun vs H Q E ⟨a, pl, e, hP, wf, so, k⟩ => ⟨a, pl, pl.rules, e, hP, .refl _, wf, so, k⟩, b, k⟩
end
end Sw

end

section
set_option maxRecDepth 100000
set_option maxHeartbeats 4000000
/-! data: what may be compared -/
namespace Sw
open PySem PySem.Spec PyProof.Rows L2 SwA
def ShD (n : Nat) (d : PyData) : Prop := d.canLay0 = true ∧ d.depth ≤ n
theorem ShD.mono {n m : Nat} {d : PyData} (h : ShD n d) (hl : n ≤ m) : ShD m d := ⟨h.1, Nat.le_trans h.2 hl⟩
theorem shd_all {n : Nat} : ∀ {ds : List PyData}, (∀ d ∈ ds, ShD n d) → PyData.canLayAll0 ds = true ∧ PyData.depthAll ds ≤ n
  | [], _ => ⟨rfl, by simp [PyData.depthAll]⟩
  | d :: ds, h => by
    have h1 := h d List.mem_cons_self
    have h2 := shd_all (ds := ds) fun x hx => h x (List.mem_cons_of_mem _ hx)
    refine ⟨?_, ?_⟩
    · rw [PyData.canLayAll0, h1.1, h2.1]; rfl
    · rw [PyData.depthAll]
      have := h1.2
      have := h2.2
      omega
theorem shd_list {n : Nat} {ds : List PyData} (h : ∀ d ∈ ds, ShD n d) : ShD (n + 1) (.list ds) := by
  have h2 := shd_all h
  refine ⟨by rw [PyData.canLay0]; exact h2.1, ?_⟩
  rw [PyData.depth]
  have := h2.2
  omega
theorem shd_tuple {n : Nat} {ds : List PyData} (h : ∀ d ∈ ds, ShD n d) : ShD (n + 1) (.tuple ds) := by
  have h2 := shd_all h
  refine ⟨by rw [PyData.canLay0]; exact h2.1, ?_⟩
  rw [PyData.depth]
  have := h2.2
  omega
theorem shd_int (i : Int) : ShD 1 (.int i) := ⟨by rw [PyData.canLay0], by rw [PyData.depth]; decide⟩
theorem shd_bool (i : Bool) : ShD 1 (.bool i) := ⟨by rw [PyData.canLay0], by rw [PyData.depth]; decide⟩
theorem shd_none : ShD 1 .none := ⟨by rw [PyData.canLay0], by rw [PyData.depth]; decide⟩
theorem shd_str {x : Str} (h : x.cps.all (· < 0x110000) = true) : ShD 1 (.str x) := ⟨by rw [PyData.canLay0]; exact h, by rw [PyData.depth]; decide⟩
theorem shd_sx {cs : Cs} (h : ∀ c ∈ cs, c < 0x110000) : ShD 1 (.str (sx cs)) := shd_str (by
  rw [← Array.all_toList]
  simpa [sx] using h)
theorem shd_nm {cs : Cs} (h : ∀ c ∈ cs, isL c = true) : ShD 1 (.str (sx cs)) := shd_sx fun c hc => by
  have := h c hc
  unfold isL at this
  rw [Bool.and_eq_true, Nat.ble_eq, Nat.ble_eq] at this
  omega
theorem ShD.shaped {n : Nat} {d : PyData} (h : ShD n d) (hn : n ≤ 64) : SeqAt.shaped d = true := Bool.and_eq_true_iff.mpr ⟨h.1, decide_eq_true (Nat.le_trans h.2 hn)⟩
theorem ShD.eqv {n : Nat} {d : PyData} (h : ShD n d) : PyData.eqv d d = true := SeqAt.eqv_refl _ h.1
end Sw

end

section
set_option maxRecDepth 100000
set_option maxHeartbeats 4000000
/-! tuples and lists of numbers and of names, as data -/
namespace Sw
open PySem PySem.Spec PyProof.Rows L2 SwA
/-- a number or None -/
abbrev oV (r : Option Nat) : V := match r with
  | some u => .int u
  | none => .non
abbrev natsD (l : List Nat) : List PyData := l.map fun n : Nat => PyData.int n
abbrev strsD (l : List Cs) : List PyData := l.map fun z => PyData.str (sx z)
theorem dpa_nats {K : PySem.W.Frag} {H : Hp} : ∀ l : List Nat, DpAll K H (l.map fun n : Nat => V.int n) (natsD l)
  | [] => .nil
  | _ :: l => .cons (.int _) (dpa_nats l)
theorem dpa_strs {K : PySem.W.Frag} {H : Hp} : ∀ l : List Cs, DpAll K H (l.map sV) (strsD l)
  | [] => .nil
  | _ :: l => .cons (.str _) (dpa_strs l)
theorem sh_nats (l : List Nat) : ShD 2 (.tuple (natsD l)) := shd_tuple fun d hd => by
  obtain ⟨n, _, rfl⟩ := List.mem_map.mp hd
  exact shd_int _
theorem sh_natsL (l : List Nat) : ShD 2 (.list (natsD l)) := shd_list fun d hd => by
  obtain ⟨n, _, rfl⟩ := List.mem_map.mp hd
  exact shd_int _
theorem eqvA_nats : ∀ xs ys : List Nat, PyData.eqvAll (natsD xs) (natsD ys) = decide (xs = ys)
  | [], [] => by simp [PyData.eqvAll]
  | [], _ :: _ => by simp [PyData.eqvAll]
  | _ :: _, [] => by simp [PyData.eqvAll]
  | x :: xs, y :: ys => by
    have ih := eqvA_nats xs ys
    simp only [List.map_cons, PyData.eqvAll, PyData.eqv] at ih ⊢
    rw [ih]
    by_cases h : x = y
    · subst h
      by_cases h2 : xs = ys
      · simp [h2]
      · simp [h2]
    · have : ((x : Int) == (y : Int)) = false := by simp; omega
      simp [this, h]
theorem eqv_nats (xs ys : List Nat) : PyData.eqv (.tuple (natsD xs)) (.tuple (natsD ys)) = decide (xs = ys) := by
  rw [PyData.eqv]
  exact eqvA_nats xs ys
theorem eqv_natsL (xs ys : List Nat) : PyData.eqv (.list (natsD xs)) (.list (natsD ys)) = decide (xs = ys) := by
  rw [PyData.eqv]
  exact eqvA_nats xs ys
end Sw

end

section
set_option maxRecDepth 100000
set_option maxHeartbeats 4000000
/-! rest_tick -/
namespace Sw
open PySem PySem.Spec PyProof.Rows L2 SwA
structure RkT (K : PySem.W.Frag) (mg : Str → Option Value) : Prop where
  h : HapT K mg
  all : mg "all" = none
  rk : DeT K mg "rest_tick" s_rest_tick
/-- from s on all rest, if they do in tick s -/
def restM (pl : Plan) (s : Nat) : Option Nat := if (tkN pl s).words.all (fun z => decide (z = wRest)) = true then some s else none
theorem dec_wd {wd wz : Cs} {z : Str} (ez : z = sx wz) : decide (sV wd = V.str z) = decide (wd = wz) := by
  subst ez
  by_cases e : wd = wz
  · rw [decide_eq_true e, decide_eq_true (by rw [e])]
  · rw [decide_eq_false e, decide_eq_false (fun q => e (sx_inj (V.str.inj q)))]
theorem tk_wl (pl : Plan) (h : ∀ r ∈ pl.robots, r.1 < pl.floor.length) (t : Nat) : (tkN pl t).words.length = pl.robots.length := by
  have hw := (st_wf h t).ro
  show (actsM pl.rules (stN pl t) (stN pl t).robots.length).1.length = _
  rw [acts_len, hw]
section
variable {P : Program} {w : World} {K : PySem.W.Frag} {mg : Str → Option Value} {base : Heap}
def spRest (K : PySem.W.Frag) : Sp := fun vs H Q _ => ∃ (text : Cs) (pl : Plan), vs = [sV text] ∧ Reads text pl ∧ WfP pl ∧ Early pl 20000 ∧
  ∀ (n s : Nat) (H' : Hp), Rep (stN pl) n s → Same H H' → Q (oV (restM pl s)) H'
abbrev rkN : List Str := ["plan", "story", "one", "word"]
theorem sc_rk : FnScope rkN ["plan"] (defScope s_rest_tick) := ⟨rfl, rfl, rfl, by decide +kernel, rfl, by decide +kernel, by decide +kernel⟩
theorem ok_rk (T : RkT K mg) : FnE P w K mg base CX0 9 ("rest_tick", none) ["plan"] (spRest K) := by
  obtain ⟨fd, F⟩ := T.rk.d
  obtain ⟨tR, mREST⟩ := T.h.s.m.REST
  obtain ⟨fdL, GL, bL, kL⟩ := ok_read (P := P) (w := w) (base := base) T.h.s.m.lo
  obtain ⟨fdS, GS, bS, kS⟩ := ok_story (P := P) (w := w) (base := base) T.h.s
  refine ⟨fd, F.ok sc_rk (fun vs H Q E h => ?_) (fun cdv A outer s H vs Q E hr h => ?_), F.bindsN fun _ _ _ _ _ _ us hl => match us, hl with | [_], _ => rfl, F.kp⟩
  · obtain ⟨text, pl, rfl, _⟩ := h
    rfl
  · obtain ⟨text, pl, rfl, hR, wf, hea, k⟩ := h
    have hr6 : Room 6 _ := hr.mono (by decide)
    have hr8 : Room 8 _ := hr.mono (by decide)
    refine ⟨_, PSs.nox (pss_cons (ps_set (i := 1) sc_rk.nd rfl (.inl rfl) (pe_make T.h.s.sto.m GS hr6 rfl T.h.s.sto.g bS .nil pass0 (pa_cons (pe_call GL hr8 rfl T.h.s.m.lo.g_load kL bL .nil pass0 (pa_cons (pv 0) pa_nil)) pa_nil)))
      (pss_cons (ps_set (i := 2) sc_rk.nd rfl (.inl rfl) (pe_ix ix_list (pe_fld (pv 1) rfl) (pe_fld (pv 1) rfl) (fun _ _ => rfl)))
      (pss_one (ps_ret (pe_ifExp (pt_val (pe_callB (cr_all rfl) (by rfl) T.all (by decide +kernel) (pa_cons (pe_lc (own := [("word", 3)]) (g := (gName 3)) (tt := tYes) (te := tOp rEq (tVar 3) (tC (.str "rest"))) rfl sc_rk.nd (pi_tup (pe_fld (pv 2) rfl)) (blkOk_by (own := [("word", 3)]) (N := rkN) (sc := defScope s_rest_tick) (by decide +kernel)) (fun _ _ _ _ _ => (pg_name (i := 3) sc_rk.nd rfl (.inl rfl))) (fun _ _ _ _ _ => pts_nil) (fun _ _ _ _ _ => (pe_cmpR op_eq (pv 3) (pe_glob (v := .str "rest") rfl mREST ⟨_, rfl⟩) (nomark _)))) pa_nil))) (pe_fld (pv 1) rfl) pe_non))))), ?_⟩
    refine ⟨_, rfl, text, pl, rfl, hR, fun pa H1 npa s1 hpl => ?_⟩
    intro y dy ny ndy ney
    refine story_wf hpl wf hea ny ndy fun n s2 H2 s12 hS => ⟨rfl, ?_⟩
    obtain ⟨dx, tl, tas, e1, e2, e3, e4, e5⟩ := id hS
    have hl := tas_len e3
    have hlt := e4.lt
    have hs3 : s2 < tas.length := by omega
    have eg : tas[s2]? = some tas[s2] := List.getElem?_eq_getElem hs3
    obtain ⟨tk, htk, hT⟩ := Paired_idx e3 eg
    rw [ticksL, List.getElem?_map, List.getElem?_range hlt] at htk
    cases htk
    obtain ⟨dt, sw, wo, sb, w1, w2, w3, w4⟩ := id hT
    refine ⟨_, rfl, y, _, dx, _, _, rfl, e1, T.h.s.sto.c, T.h.s.sto.n _ (by simp), lo_ticks, _, rfl, y, _, dx, _, _, rfl, e1, T.h.s.sto.c, T.h.s.sto.n _ (by simp), lo_start, ?_⟩
    refine ⟨tl, _, _, _, rfl, rfl, SqL.of e2, atI_nat (by rw [List.getElem?_map, eg]; rfl), ?_⟩
    have s02 := s1.trans s12
    refine ⟨_, rfl, tas[s2], _, dt, _, _, rfl, w1, T.h.s.m.tick.c, T.h.s.m.tick.n _ (by simp), by kernel_rfl, wo, rfl, ⟨_, SqT.of w3⟩, fun D nD => ?_⟩
    refine lc_tup (K := K) (a := wo) (xs := (tkN pl s2).words.map sV) (fun i Hy => Same H2 Hy ∧ Hy D = some (.lst ((((tkN pl s2).words.take i).map fun z => decide (z = wRest)).map V.bl))) ⟨sameUpd (Same.refl H2) nD, upd_same⟩ (fun i Hy _ ⟨sm, _⟩ => SqT.of (sm _ _ w3)) ?_ ?_
    · rintro i x Hy hx ⟨sm, hD⟩
      rw [List.getElem?_map] at hx
      obtain ⟨z, hz, rfl⟩ := Option.map_eq_some_iff.mp hx
      have hi := (List.getElem?_eq_some_iff.mp hz).1
      refine ⟨rfl, _, rfl, rfl, _, hD, ?_, sameUpd sm nD, ?_⟩
      · have := tk_wl pl wf.rt s2
        have := wf.r3
        rw [List.length_map, List.length_map, List.length_take, sizeLine_eq]
        omega
      · rw [upd_same, List.take_succ, hz, dec_wd e_rest]
        simp
    · rintro Hy ⟨sm, hD⟩
      rw [List.length_map, List.take_length] at hD
      refine ⟨D, _, rfl, SqL.of hD, _, rfl, ?_⟩
      have hid : (((tkN pl s2).words.map fun z => decide (z = wRest)).all id) = (tkN pl s2).words.all fun z => decide (z = wRest) := by rw [List.all_map]; rfl
      rw [hid]
      have fin := k n s2 Hy e4 (s02.trans sm)
      unfold restM at fin
      by_cases hA : (tkN pl s2).words.all (fun z => decide (z = wRest)) = true
      · rw [if_pos hA] at fin
        rw [hA]
        exact iteT ⟨_, rfl, y, _, dx, _, _, rfl, sm _ _ e1, T.h.s.sto.c, T.h.s.sto.n _ (by simp), lo_start, fin⟩
      · rw [if_neg hA] at fin
        rw [Bool.eq_false_iff.mpr hA]
        exact iteF fin
end
end Sw

end

section
set_option maxRecDepth 100000
set_option maxHeartbeats 4000000
/-! first_difference -/
namespace Sw
open PySem PySem.Spec PyProof.Rows L2 SwA
structure FdT (K : PySem.W.Frag) (mg : Str → Option Value) : Prop where
  h : HapT K mg
  range : mg "range" = none
  max : mg "max" = none
  fd : DeT K mg "first_difference" s_first_difference
/-- the first tick at which the signs differ -/
def FirstD (p q : Plan) : Option Nat → Prop
  | some u => (stN p (u + 1)).floor ≠ (stN q (u + 1)).floor ∧ ∀ v, v < u → (stN p (v + 1)).floor = (stN q (v + 1)).floor
  | none => ∀ v, (stN p (v + 1)).floor = (stN q (v + 1)).floor
theorem equal_ever {p q : Plan} {n1 s1 n2 s2 M : Nat} (h1 : Rep (stN p) n1 s1) (h2 : Rep (stN q) n2 s2) (d1 : (n1 - s1) ∣ M) (d2 : (n2 - s2) ∣ M) (hM : 0 < M)
    (he : ∀ v, v < max s1 s2 + M → (stN p (v + 1)).floor = (stN q (v + 1)).floor) : ∀ v, (stN p (v + 1)).floor = (stN q (v + 1)).floor := by
  intro v
  rcases Nat.lt_or_ge v (max s1 s2 + M) with z | z
  · exact he v z
  · obtain ⟨c1, e1⟩ := d1
    obtain ⟨c2, e2⟩ := d2
    have hm := Nat.mod_lt (v - max s1 s2) hM
    have hd := Nat.mod_add_div (v - max s1 s2) M
    have hq := he (max s1 s2 + (v - max s1 s2) % M) (by omega)
    have a1 := tk_again h1 (v := max s1 s2 + (v - max s1 s2) % M) (k := c1 * ((v - max s1 s2) / M)) (by omega)
    have a2 := tk_again h2 (v := max s1 s2 + (v - max s1 s2) % M) (k := c2 * ((v - max s1 s2) / M)) (by omega)
    rw [← Nat.mul_assoc, ← e1, show max s1 s2 + (v - max s1 s2) % M + M * ((v - max s1 s2) / M) = v by omega] at a1
    rw [← Nat.mul_assoc, ← e2, show max s1 s2 + (v - max s1 s2) % M + M * ((v - max s1 s2) / M) = v by omega] at a2
    show (tkN p v).state.floor = (tkN q v).state.floor
    rw [a1, a2]
    exact hq
theorem sh_names {l : List Cs} (h : NamesOk l) : ShD 2 (.tuple (strsD l)) := shd_tuple fun d hd => by
  obtain ⟨z, hz, rfl⟩ := List.mem_map.mp hd
  exact shd_nm (h.ok z hz).1.1
section
variable {P : Program} {w : World} {K : PySem.W.Frag} {mg : Str → Option Value} {base : Heap}
def spFirstD (K : PySem.W.Frag) : Sp := fun vs H Q _ => ∃ (t1 t2 : Cs) (p q : Plan), vs = [sV t1, sV t2] ∧ (Reads t1 p ∧ WfP p ∧ Early p 20000) ∧ (Reads t2 q ∧ WfP q ∧ Early q 20000) ∧ p.floor.length = q.floor.length ∧ p.signs = q.signs ∧
  ∀ (r : Option Nat) (H' : Hp), Same H H' → FirstD p q r → Q (oV r) H'
abbrev fdN : List Str := ["plan", "other", "one", "two", "first", "second", "multiple", "tick"]
theorem sc_fd : FnScope fdN ["plan", "other"] (defScope s_first_difference) := ⟨rfl, rfl, rfl, by decide +kernel, rfl, by decide +kernel, by decide +kernel⟩
theorem ok_fd (T : FdT K mg) : FnE P w K mg base CX0 9 ("first_difference", none) ["plan", "other"] (spFirstD K) := by
  obtain ⟨fd, F⟩ := T.fd.d
  obtain ⟨fdL, GL, bL, kL⟩ := ok_read (P := P) (w := w) (base := base) T.h.s.m.lo
  obtain ⟨fdS, GS, bS, kS⟩ := ok_story (P := P) (w := w) (base := base) T.h.s
  obtain ⟨fdH, GH, bH, kH⟩ := ok_happens (P := P) (w := w) (base := base) T.h
  obtain ⟨fdZ, GZ, bZ⟩ := ok_size (P := P) (w := w) (base := base) T.h
  refine ⟨fd, F.ok sc_fd (fun vs H Q E h => ?_) (fun cdv A outer s H vs Q E hr h => ?_), F.bindsN fun _ _ _ _ _ _ us hl => match us, hl with | [_, _], _ => rfl, F.kp⟩
  · obtain ⟨t1, t2, p, q, rfl, _⟩ := h
    rfl
  · obtain ⟨t1, t2, p, q, rfl, ⟨hR1, wf1, hea1⟩, ⟨hR2, wf2, hea2⟩, hfl, hsg, k⟩ := h
    have hr2 : Room 2 _ := hr.mono (by decide)
    have hr3 : Room 3 _ := hr.mono (by decide)
    have hr6 : Room 6 _ := hr.mono (by decide)
    have hr8 : Room 8 _ := hr.mono (by decide)
    have hu := hr.units
    refine ⟨_, PSs.nox (pss_cons (ps_par (i := 2) (j := 3) (by rfl) sc_fd.nd rfl rfl (by decide) rfl rfl (pa_cons (pe_call GL hr8 rfl T.h.s.m.lo.g_load kL bL .nil pass0 (pa_cons (pv 0) pa_nil)) (pa_cons (pe_call GL hr8 rfl T.h.s.m.lo.g_load kL bL .nil pass0 (pa_cons (pv 1) pa_nil)) pa_nil)) (by rfl))
      (pss_cons (ps_if (PW.pt (pw_or (pt_cmpR op_ne (pe_callB call_len_seq (by rfl) T.h.s.m.lo.p.l.len boot_len (pa_cons (pe_fld (pv 2) rfl) pa_nil)) (pe_callB call_len_seq (by rfl) T.h.s.m.lo.p.l.len boot_len (pa_cons (pe_fld (pv 3) rfl) pa_nil)) (nomark _)) (pw_or1 (pt_cmpR (op_neD hr.units) (pe_fld (pv 2) rfl) (pe_fld (pv 3) rfl) (nomark _)))))
        (pss_one ps_no) pss_nil)
      (pss_cons (ps_par (i := 4) (j := 5) (by rfl) sc_fd.nd rfl rfl (by decide) rfl rfl (pa_cons (pe_make T.h.s.sto.m GS hr6 rfl T.h.s.sto.g bS .nil pass0 (pa_cons (pv 2) pa_nil)) (pa_cons (pe_make T.h.s.sto.m GS hr6 rfl T.h.s.sto.g bS .nil pass0 (pa_cons (pv 3) pa_nil)) pa_nil)) (by rfl))
      (pss_cons (ps_set (i := 6) sc_fd.nd rfl (.inl rfl) (pe_prop (pv 4) T.h.s.sto.c T.h.size.p GZ hr2 bZ .nil pass0 rfl))
      (pss_cons (ps_while PassesOwn.never (pt_cmpR op_ne (pe_op op_mul (pe_op op_fdiv (pv 6) (pe_prop (pv 5) T.h.s.sto.c T.h.size.p GZ hr2 bZ .nil pass0 rfl)) (pe_prop (pv 5) T.h.s.sto.c T.h.size.p GZ hr2 bZ .nil pass0 rfl)) (pv 6) (nomark _))
        (pss_one (ps_aug (i := 6) sc_fd.nd rfl (.inl rfl) (pe_prop (pv 4) T.h.s.sto.c T.h.size.p GZ hr2 bZ .nil pass0 rfl) ip_add)))
      (pss_cons (ps_for PassesOwn.never rfl (pi_range1 (by rfl) T.range (pa_cons (pe_op op_add (pe_callB (call_max2 rfl) (by rfl) T.max (by decide +kernel) (pa_cons (pe_fld (pv 4) rfl) (pa_cons (pe_fld (pv 5) rfl) pa_nil))) (pv 6)) pa_nil)) (pg_name (i := 7) sc_fd.nd rfl (.inl rfl))
        (pss_one (ps_if (pt_cmpR (op_neD hr.units) (pe_fld (pe_fld (pe_meth (pv 4) T.h.s.sto.c T.h.happens.m GH hr3 bH .nil pass0 (pa_cons (pv 7) pa_nil)) rfl) rfl) (pe_fld (pe_fld (pe_meth (pv 5) T.h.s.sto.c T.h.happens.m GH hr3 bH .nil pass0 (pa_cons (pv 7) pa_nil)) rfl) rfl) (nomark _))
          (pss_one (ps_ret (pv 7))) pss_nil)))
      (pss_one (ps_ret pe_non)))))))), ?_⟩
    refine ⟨_, rfl, t1, p, rfl, hR1, fun pa H1 npa s1 hp1 => ?_⟩
    refine ⟨_, rfl, t2, q, rfl, hR2, fun qa H2 nqa s2 hq2 => ?_⟩
    refine ⟨_, _, rfl, ?_⟩
    replace hp1 := hp1.same s2
    obtain ⟨dp1, sga1, mda1, fla1, rba1, rda1, rs1, y1, y2, y3, y4, y5⟩ := id hp1
    obtain ⟨dp2, sga2, mda2, fla2, rba2, rda2, rs2, z1, z2, z3, z4, z5⟩ := id hq2
    refine ⟨_, rfl, pa, _, dp1, _, _, rfl, y1, T.h.s.m.lo.plan.c, T.h.s.m.lo.plan.n _ (by simp), lpl_floor, fla1, _, rfl, .inr (SqT.of y4), _, rfl, qa, _, dp2, _, _, rfl, z1, T.h.s.m.lo.plan.c, T.h.s.m.lo.plan.n _ (by simp), lpl_floor, fla2, _, rfl, .inr (SqT.of z4), rfl, _, rfl, ?_⟩
    rw [List.length_map, List.length_map, hfl, decide_eq_true rfl]
    refine iteF ⟨_, rfl, pa, _, dp1, _, _, rfl, y1, T.h.s.m.lo.plan.c, T.h.s.m.lo.plan.n _ (by simp), lpl_signs, _, rfl, qa, _, dp2, _, _, rfl, z1, T.h.s.m.lo.plan.c, T.h.s.m.lo.plan.n _ (by simp), lpl_signs, _, _, .tup y2.sq (dpa_strs _), .tup z2.sq (dpa_strs _), ?_⟩
    have hsh := sh_names wf1.sN
    have hsh2 := sh_names wf2.sN
    refine ⟨hsh.shaped (by decide), hsh2.shaped (by decide), _, rfl, ?_⟩
    rw [hsg, hsh2.eqv]
    have sA := s1.trans s2
    refine ⟨_, rfl, ?_⟩
    intro x dx nx ndx ne
    refine story_wf hp1 wf1 hea1 nx ndx fun n1 c1 H3 s3 hS1 => ⟨rfl, ?_⟩
    refine ⟨_, rfl, ?_⟩
    intro x2 dx2 nx2 ndx2 ne2
    refine story_wf (hq2.same s3) wf2 hea2 nx2 ndx2 fun n2 c2 H4 s4 hS2 => ⟨rfl, ?_⟩
    refine ⟨_, _, rfl, ?_⟩
    replace hS1 := hS1.same s4
    have sB := (sA.trans s3).trans s4
    clear s1 s2 s3 s4 nx ndx ne nx2 ndx2 ne2 hp1 hq2
    obtain ⟨dy, tl, tas, e1, e2, e3, e4, e5⟩ := id hS1
    obtain ⟨dz, ul, uas, g1, g2, g3, g4, g5⟩ := id hS2
    have hlt1 := e4.lt
    have hlt2 := g4.lt
    refine ⟨_, rfl, x, dy, _, rfl, e1, x, p, n1, c1, rfl, hS1, ?_⟩
    have ea : (n1 : Int) - (c1 : Int) = ((n1 - c1 : Nat) : Int) := by omega
    have eb : (n2 : Int) - (c2 : Int) = ((n2 - c2 : Nat) : Int) := by omega
    have ha : 0 < n1 - c1 := by omega
    have hb : 0 < n2 - c2 := by omega
    have ha2 : n1 - c1 ≤ 20000 := by omega
    have hb2 : n2 - c2 ≤ 20000 := by omega
    refine ⟨fun m σ Hx => ∃ j : Nat, σ = [some (sV t1), some (sV t2), some (.ref pa), some (.ref qa), some (.ref x), some (.ref x2), some (.int (((n1 - c1) * j : Nat) : Int)), none] ∧ Hx = H4 ∧ 1 ≤ j ∧ j ≤ n2 - c2 ∧ m = n2 - c2 - j, ⟨_, 1, by rw [ea, Nat.mul_one]; rfl, rfl, Nat.le_refl _, by omega, rfl⟩, ?_⟩
    rintro m σ Hx ⟨j, rfl, rfl, hj1, hj2, rfl⟩
    refine ⟨_, rfl, _, rfl, x2, dz, _, rfl, g1, x2, q, n2, c2, rfl, hS2, _, _, rfl, rfl, ⟨by omega, by omega⟩, _, rfl, x2, dz, _, rfl, g1, x2, q, n2, c2, rfl, hS2, _, _, rfl, rfl, .inr ⟨by omega, by omega⟩, _, rfl, rfl, (!decide (V.int ((((n1 - c1) * j : Nat) : Int) / ((n2 : Int) - (c2 : Int)) * ((n2 : Int) - (c2 : Int))) = V.int (((n1 - c1) * j : Nat) : Int))), rfl, ?_⟩
    rw [eb]
    by_cases hdv : (n2 - c2) ∣ (n1 - c1) * j
    · have hc : (((n1 - c1) * j : Nat) : Int) / ((n2 - c2 : Nat) : Int) * ((n2 - c2 : Nat) : Int) = (((n1 - c1) * j : Nat) : Int) := Int.ediv_mul_cancel (Int.natCast_dvd_natCast.mpr hdv)
      rw [hc, decide_eq_true rfl]
      have hM : 0 < (n1 - c1) * j := Nat.mul_pos ha hj1
      have hM2 : (n1 - c1) * j ≤ 20000 * 20000 := Nat.mul_le_mul ha2 (by omega)
      generalize hMM : (n1 - c1) * j = M at *
      have hmx : (if (c2 : Int) > (c1 : Int) then (c2 : Int) else (c1 : Int)) = ((max c1 c2 : Nat) : Int) := by
        split <;> omega
      refine iteF ⟨_, rfl, x, _, dy, _, _, rfl, e1, T.h.s.sto.c, T.h.s.sto.n _ (by simp), lo_start, _, rfl, x2, _, dz, _, _, rfl, g1, T.h.s.sto.c, T.h.s.sto.n _ (by simp), lo_start, _, _, rfl, ?_⟩
      rw [hmx]
      refine ⟨_, rfl, _, _, rfl, rfl, _, rfl, by omega, by omega, ?_⟩
      refine for_range (lo := 0) (n := (((max c1 c2 : Nat) : Int) + ((M : Nat) : Int)).toNat) (fun i σ Hy => (∃ o7, σ = [some (sV t1), some (sV t2), some (.ref pa), some (.ref qa), some (.ref x), some (.ref x2), some (.int (M : Nat)), o7]) ∧ Hy = Hx ∧ ∀ v, v < i → (stN p (v + 1)).floor = (stN q (v + 1)).floor) ⟨⟨none, rfl⟩, rfl, fun v hv => absurd hv (Nat.not_lt_zero _)⟩ ?_ ?_
      · rintro i σ Hy hi ⟨⟨o7, rfl⟩, rfl, hall⟩
        have ez : (0 : Int) + (i : Nat) = (i : Nat) := by omega
        rw [ez]
        refine ⟨_, rfl, x, dy, _, rfl, e1, lo_no_happens, _, rfl, x, p, n1, c1, i, rfl, hS1, fun ta hT => ?_⟩
        obtain ⟨dt, sw, wo, sb, w1, w2, w3, w4⟩ := id hT
        obtain ⟨ds, fa, ra, ras, q1, q2, q3, q4⟩ := id w4
        refine ⟨ta, _, dt, _, _, rfl, w1, T.h.s.m.tick.c, T.h.s.m.tick.n _ (by simp), lt_state, sb, _, ds, _, _, rfl, q1, T.h.s.m.state.c, T.h.s.m.state.n _ (by simp), ls_floor, _, rfl, x2, dz, _, rfl, g1, lo_no_happens, _, rfl, x2, q, n2, c2, i, rfl, hS2, fun ta2 hT2 => ?_⟩
        obtain ⟨dt2, sw2, wo2, sb2, u1, u2, u3, u4⟩ := id hT2
        obtain ⟨ds2, fa2, ra2, ras2, v1, v2, v3, v4⟩ := id u4
        refine ⟨ta2, _, dt2, _, _, rfl, u1, T.h.s.m.tick.c, T.h.s.m.tick.n _ (by simp), lt_state, sb2, _, ds2, _, _, rfl, v1, T.h.s.m.state.c, T.h.s.m.state.n _ (by simp), ls_floor, _, _, .tup (SqT.of q2) (dpa_nats _), .tup (SqT.of v2) (dpa_nats _), (sh_nats _).shaped (by decide), (sh_nats _).shaped (by decide), _, rfl, ?_⟩
        rw [eqv_nats, tk_state, tk_state]
        by_cases hq : (stN p (i + 1)).floor = (stN q (i + 1)).floor
        · rw [decide_eq_true hq]
          refine iteF ⟨⟨_, rfl⟩, rfl, fun v hv => ?_⟩
          rcases Nat.lt_or_ge v i with z | z
          · exact hall v z
          · have : v = i := by omega
            rw [this]
            exact hq
        · rw [decide_eq_false hq]
          exact iteT ⟨_, rfl, k (some i) Hy sB ⟨hq, hall⟩⟩
      · rintro σ Hy ⟨⟨o7, rfl⟩, rfl, hall⟩
        rw [show (((max c1 c2 : Nat) : Int) + ((M : Nat) : Int)).toNat = max c1 c2 + M by omega] at hall
        exact k none Hy sB (equal_ever e4 g4 ⟨j, hMM.symm⟩ hdv hM hall)
    · have hc : ¬ V.int ((((n1 - c1) * j : Nat) : Int) / ((n2 - c2 : Nat) : Int) * ((n2 - c2 : Nat) : Int)) = V.int ((((n1 - c1) * j : Nat) : Int)) := fun z => by
        have z2 : (((n1 - c1) * j : Nat) : Int) / ((n2 - c2 : Nat) : Int) * ((n2 - c2 : Nat) : Int) = (((n1 - c1) * j : Nat) : Int) := by injection z
        exact hdv (Int.natCast_dvd_natCast.mp ⟨_, by rw [Int.mul_comm]; exact z2.symm⟩)
      rw [decide_eq_false hc]
      have hjn : j ≠ n2 - c2 := fun z => hdv ⟨n1 - c1, by rw [z, Nat.mul_comm]⟩
      refine iteT ⟨fun σ H' => ∃ m', m' < n2 - c2 - j ∧ ∃ j : Nat, σ = [some (sV t1), some (sV t2), some (.ref pa), some (.ref qa), some (.ref x), some (.ref x2), some (.int (((n1 - c1) * j : Nat) : Int)), none] ∧ H' = Hx ∧ 1 ≤ j ∧ j ≤ n2 - c2 ∧ m' = n2 - c2 - j, fun _ _ z => z, ?_⟩
      refine ⟨_, rfl, _, rfl, x, dy, _, rfl, e1, x, p, n1, c1, rfl, hS1, _, _, rfl, rfl, ?_⟩
      refine ⟨n2 - c2 - (j + 1), by omega, j + 1, ?_, rfl, by omega, by omega, rfl⟩
      have e : (((n1 - c1) * (j + 1) : Nat) : Int) = (((n1 - c1) * j : Nat) : Int) + ((n1 : Int) - (c1 : Int)) := by rw [ea, Nat.mul_add, Nat.mul_one, Int.natCast_add]
      rw [e]
      rfl
end
end Sw

end

section
set_option maxRecDepth 100000
set_option maxHeartbeats 4000000
/-! one robot, without the rules that never hold: plain -/
namespace Sw
open PySem PySem.Spec PyProof.Rows L2 SwA
/-- the robot's mood and the sign on its tile -/
def keyM (st : MSt) : Nat × Nat := match st.robots with
  | [] => (0, 0)
  | r :: _ => (r.2.2, st.floor.getD r.1 0)
theorem st_one {pl : Plan} (h1 : pl.robots.length = 1) (h : ∀ r ∈ pl.robots, r.1 < pl.floor.length) (t : Nat) : ∃ r : Rob, (stN pl t).robots = [r] := by
  have := (st_wf h t).ro
  rw [h1] at this
  match e : (stN pl t).robots, this with
  | [r], _ => exact ⟨r, rfl⟩
theorem next_one {rules : List ((Nat × Nat) × Rule)} {st : MSt} {r : Rob} (h : st.robots = [r]) : nextM rules st = ⟨[r.1], [(actM rules st 0).1], (actM rules st 0).2⟩ := by
  unfold nextM
  rw [h]
  rfl
theorem act_key {rules rules' : List ((Nat × Nat) × Rule)} {st : MSt} {r : Rob} (h : st.robots = [r]) (e : getA rules' (keyM st) = getA rules (keyM st)) : actM rules' st 0 = actM rules st 0 := by
  obtain ⟨tile, right, mood⟩ := r
  unfold keyM at e
  rw [h] at e
  unfold actM
  rw [h]
  show (match getA rules' (mood, st.floor.getD tile 0) with | none => _ | some r => _) = _
  have e : getA rules' (mood, st.floor.getD tile 0) = getA rules (mood, st.floor.getD tile 0) := e
  rw [e]
  rfl
theorem next_key {rules rules' : List ((Nat × Nat) × Rule)} {st : MSt} {r : Rob} (h : st.robots = [r]) (e : getA rules' (keyM st) = getA rules (keyM st)) : nextM rules' st = nextM rules st := by
  rw [next_one h, next_one h, act_key h e]
theorem getA_filter {κ α : Type} [DecidableEq κ] {p : κ → Bool} {k : κ} (h : p k = true) : ∀ l : List (κ × α), getA (l.filter fun kv => p kv.1) k = getA l k
  | [] => rfl
  | kv :: l => by
    have ih := getA_filter h l
    by_cases e : kv.1 = k
    · rw [List.filter_cons_of_pos (p := fun kv => p kv.1) (a := kv) (l := l) (by show p kv.1 = true; rw [e]; exact h)]
      simp [getA, e]
    · by_cases q : p kv.1 = true
      · rw [List.filter_cons_of_pos (p := fun kv => p kv.1) (a := kv) (l := l) q]
        simp only [getA] at ih ⊢
        simp [e] at ih ⊢
        exact ih
      · rw [List.filter_cons_of_neg (p := fun kv => p kv.1) (a := kv) (l := l) q, ih]
        simp [getA, e]
/-- the same story -/
theorem st_kept {pl : Plan} {rs : List ((Nat × Nat) × Rule)} (h1 : pl.robots.length = 1) (hr : ∀ r ∈ pl.robots, r.1 < pl.floor.length) (hk : ∀ t, getA rs (keyM (stN pl t)) = getA pl.rules (keyM (stN pl t))) : ∀ t, stN { pl with rules := rs } t = stN pl t
  | 0 => rfl
  | t + 1 => by
    obtain ⟨r, e⟩ := st_one h1 hr t
    show (nextM rs (stN { pl with rules := rs } t)).state = (nextM pl.rules (stN pl t)).state
    rw [st_kept h1 hr hk t, next_key e (hk t)]
theorem tk_kept {pl : Plan} {rs : List ((Nat × Nat) × Rule)} (h1 : pl.robots.length = 1) (hr : ∀ r ∈ pl.robots, r.1 < pl.floor.length) (hk : ∀ t, getA rs (keyM (stN pl t)) = getA pl.rules (keyM (stN pl t))) (t : Nat) : tkN { pl with rules := rs } t = tkN pl t := by
  obtain ⟨r, e⟩ := st_one h1 hr t
  show nextM rs (stN { pl with rules := rs } t) = nextM pl.rules (stN pl t)
  rw [st_kept h1 hr hk t, next_key e (hk t)]
theorem trace_kept {p q : Plan} (h : ∀ t, tkN q t = tkN p t) (a : Nat) : ∀ m, traceM q a m = traceM p a m
  | 0 => rfl
  | m + 1 => by rw [trace_succ, trace_succ, trace_kept h a m, h]
theorem longM_kept {p q : Plan} (h : ∀ t, tkN q t = tkN p t) (hf : q.floor.length = p.floor.length) (n s : Nat) : longM q n s = longM p n s := by
  have e1 : ∀ tile m, ticksOf q tile m = ticksOf p tile m := fun tile m => by
    unfold ticksOf
    congr 1
    funext t
    rw [h]
  have e2 : ∀ k m, allW q k m = allW p k m := fun k m => by
    unfold allW waitsOf
    congr 1
    funext tile
    rw [e1]
  unfold longM
  rw [e2, hf]
/-! resting -/
def wordO (pl : Plan) (t : Nat) : Cs := (actM pl.rules (stN pl t) 0).1
theorem words_one {pl : Plan} (h1 : pl.robots.length = 1) (hr : ∀ r ∈ pl.robots, r.1 < pl.floor.length) (t : Nat) : ∃ a, tkN pl t = ⟨[a], [wordO pl t], stN pl (t + 1)⟩ ∧ ∀ r, (stN pl t).robots = [r] → a = r.1 := by
  obtain ⟨r, e⟩ := st_one h1 hr t
  refine ⟨r.1, ?_, fun r' e' => by rw [e] at e'; cases e'; rfl⟩
  have := next_one (rules := pl.rules) e
  show nextM pl.rules (stN pl t) = _
  rw [this]
  have e2 : stN pl (t + 1) = (actM pl.rules (stN pl t) 0).2 := by
    show (nextM pl.rules (stN pl t)).state = _
    rw [this]
  rw [e2]
  rfl
def tileO (pl : Plan) (t : Nat) : Nat := (tkN pl t).swept.getD 0 0
theorem trace_one {pl : Plan} (h1 : pl.robots.length = 1) (hr : ∀ r ∈ pl.robots, r.1 < pl.floor.length) (a : Nat) : ∀ m, traceM pl a m = (List.range m).map fun i => (a + i, 0, tileO pl (a + i), wordO pl (a + i))
  | 0 => rfl
  | m + 1 => by
    obtain ⟨x, e, _⟩ := words_one h1 hr (a + m)
    rw [trace_succ, trace_one h1 hr a m, List.range_succ, List.map_append]
    congr 1
    show _ = [(a + m, 0, (tkN pl (a + m)).swept.getD 0 0, wordO pl (a + m))]
    unfold trc1
    rw [e]
    rfl
theorem paired_refs {H : Hp} {F : Addr → Trc → Prop} : ∀ {rs : List V} {tr : List Trc}, Paired (fun y x => ∃ pp : Addr, y = .ref pp ∧ F pp x) rs tr → ∃ ps : List Addr, rs = ps.map V.ref ∧ Paired F ps tr
  | _, _, .nil => ⟨[], rfl, .nil⟩
  | _, _, .cons ⟨pp, e, h⟩ t => by
    obtain ⟨ps, e2, h2⟩ := paired_refs (H := H) t
    subst e e2
    exact ⟨pp :: ps, rfl, .cons h h2⟩
theorem moves_rest : ∀ m ∈ moves, m ≠ wRest := by decide +kernel
theorem rest_stays {pl : Plan} (wf : WfP pl) (h1 : pl.robots.length = 1) {t : Nat} (h : wordO pl t = wRest) : stN pl (t + 1) = stN pl t := by
  obtain ⟨r, e⟩ := st_one h1 wf.rt t
  have e2 : stN pl (t + 1) = (actM pl.rules (stN pl t) 0).2 := by
    show (nextM pl.rules (stN pl t)).state = _
    rw [next_one e]
  rw [e2]
  unfold wordO at h
  unfold actM at h ⊢
  rw [e] at h ⊢
  obtain ⟨tile, right, mood⟩ := r
  cases q : getA pl.rules (mood, (stN pl t).floor.getD tile 0) with
  | none =>
    simp only [List.getElem?_cons_zero, q]
  | some r =>
    simp only [List.getElem?_cons_zero, q] at h
    exact absurd h (moves_rest _ (mvOk wf _ _ q))
theorem rest_ever {pl : Plan} (wf : WfP pl) (h1 : pl.robots.length = 1) {t : Nat} (h : wordO pl t = wRest) : ∀ d, stN pl (t + d) = stN pl t ∧ wordO pl (t + d) = wRest
  | 0 => ⟨rfl, h⟩
  | d + 1 => by
    obtain ⟨e1, e2⟩ := rest_ever wf h1 h d
    have e3 := rest_stays wf h1 e2
    have e4 : stN pl (t + (d + 1)) = stN pl t := by rw [← Nat.add_assoc, e3, e1]
    refine ⟨e4, ?_⟩
    unfold wordO
    rw [e4]
    exact h
theorem rest_one {pl : Plan} (h1 : pl.robots.length = 1) (hr : ∀ r ∈ pl.robots, r.1 < pl.floor.length) (s : Nat) : restM pl s = if wordO pl s = wRest then some s else none := by
  obtain ⟨a, e, _⟩ := words_one h1 hr s
  unfold restM
  rw [e]
  by_cases z : wordO pl s = wRest <;> simp [z]
theorem rest_at {pl : Plan} (wf : WfP pl) (h1 : pl.robots.length = 1) {n s t : Nat} (h : Rep (stN pl) n s) (ht : wordO pl t = wRest) : restM pl s = some s ∧ s ≤ t := by
  have hs := rest_stays wf h1 ht
  have hlt := h.lt
  have h2 : s ≤ t := by
    rcases Nat.lt_or_ge (t + 1) n with z | z
    · exact absurd hs.symm (h.nd t (t + 1) (Nat.lt_succ_self _) z)
    · omega
  refine ⟨?_, h2⟩
  have e : stN pl s = stN pl t := by
    obtain ⟨e1, _⟩ := rest_ever wf h1 ht ((s + (n - s) * t) - t + 0)
    have hb : t ≤ s + (n - s) * t := by
      have : 1 * t ≤ (n - s) * t := Nat.mul_le_mul_right _ (by omega)
      omega
    rw [Nat.add_zero, show t + (s + (n - s) * t - t) = s + (n - s) * t by omega] at e1
    rw [← e1]
    exact (st_mul h 0 t).symm
  have ew : wordO pl s = wRest := by
    unfold wordO at ht ⊢
    rw [e]; exact ht
  rw [rest_one h1 wf.rt, if_pos ew]
end Sw

end

section
set_option maxRecDepth 100000
/-! lists paired by their places -/
namespace Sw
open PySem PySem.Spec PyProof.Rows L2 SwA
theorem paired_of {α β : Type} {F : α → β → Prop} : ∀ {l : List α} {m : List β}, l.length = m.length → (∀ (k : Nat) (x : α) (y : β), l[k]? = some x → m[k]? = some y → F x y) → Paired F l m
  | [], [], _, _ => .nil
  | [], _ :: _, h, _ => by cases h
  | _ :: _, [], h, _ => by cases h
  | x :: xs, y :: ys, h, f => .cons (f 0 x y rfl rfl) (paired_of (by simpa using h) fun k u v e1 e2 => f (k + 1) u v (by simpa using e1) (by simpa using e2))
end Sw

end

section
set_option maxRecDepth 100000
set_option maxHeartbeats 4000000
/-! find_cycle -/
namespace Sw
open PySem PySem.Spec PyProof.Rows L2 SwA
structure FcT (K : PySem.W.Frag) (mg : Str → Option Value) : Prop where
  h : HapT K mg
  fc : DeT K mg "find_cycle" s_find_cycle
section
variable {P : Program} {w : World} {K : PySem.W.Frag} {mg : Str → Option Value} {base : Heap}
def spFindCycle (K : PySem.W.Frag) : Sp := fun vs H Q _ => ∃ (text : Cs) (pl : Plan), vs = [sV text] ∧ Reads text pl ∧ WfP pl ∧ Early pl 20000 ∧
  ∀ (t : Addr) (n s : Nat) (H' : Hp), H t = none → Same H H' → Rep (stN pl) n s → n ≤ 20000 → H' t = some (.tup [.int s, .int ((n : Int) - (s : Int))]) → Q (.ref t) H'
abbrev fcN : List Str := ["plan", "story"]
theorem sc_fc : FnScope fcN ["plan"] (defScope s_find_cycle) := ⟨rfl, rfl, rfl, by decide +kernel, rfl, by decide +kernel, by decide +kernel⟩
theorem ok_fc (T : FcT K mg) : FnE P w K mg base CX0 9 ("find_cycle", none) ["plan"] (spFindCycle K) := by
  obtain ⟨fd, F⟩ := T.fc.d
  obtain ⟨fdL, GL, bL, kL⟩ := ok_read (P := P) (w := w) (base := base) T.h.s.m.lo
  obtain ⟨fdS, GS, bS, kS⟩ := ok_story (P := P) (w := w) (base := base) T.h.s
  obtain ⟨fdZ, GZ, bZ⟩ := ok_size (P := P) (w := w) (base := base) T.h
  refine ⟨fd, F.ok sc_fc (fun vs H Q E h => ?_) (fun cdv A outer s H vs Q E hr h => ?_), F.bindsN fun _ _ _ _ _ _ us hl => match us, hl with | [_], _ => rfl, F.kp⟩
  · obtain ⟨text, pl, rfl, _⟩ := h
    rfl
  · obtain ⟨text, pl, rfl, hR, wf, hea, k⟩ := h
    have hr2 : Room 2 _ := hr.mono (by decide)
    have hr6 : Room 6 _ := hr.mono (by decide)
    have hr8 : Room 8 _ := hr.mono (by decide)
    refine ⟨_, PSs.nox (pss_cons (ps_set (i := 1) sc_fc.nd rfl (.inl rfl) (pe_make T.h.s.sto.m GS hr6 rfl T.h.s.sto.g bS .nil pass0 (pa_cons (pe_call GL hr8 rfl T.h.s.m.lo.g_load kL bL .nil pass0 (pa_cons (pv 0) pa_nil)) pa_nil)))
      (pss_one (ps_ret (pe_tup (pa_cons (pe_fld (pv 1) rfl) (pa_cons (pe_prop (pv 1) T.h.s.sto.c T.h.size.p GZ hr2 bZ .nil pass0 rfl) pa_nil)))))), ?_⟩
    refine ⟨_, rfl, text, pl, rfl, hR, fun pa H1 npa s1 hpl => ?_⟩
    intro x dx nx ndx ne
    refine story_wf hpl wf hea nx ndx fun n s2 H2 s12 hS => ⟨rfl, ?_⟩
    obtain ⟨dy, tl, tas, e1, e2, e3, e4, e5⟩ := id hS
    refine ⟨_, rfl, x, _, dy, _, _, rfl, e1, T.h.s.sto.c, T.h.s.sto.n _ (by simp), lo_start, _, rfl, x, dy, _, rfl, e1, x, pl, n, s2, rfl, hS, (by show 2 ≤ sizeLine; decide), fun t nt => ?_⟩
    have s02 := s1.trans s12
    exact k t n s2 _ (s02.free nt) (s02.trans (sameUpd (Same.refl H2) nt)) e4 e5 upd_same
end
end Sw

end

section
set_option maxRecDepth 100000
set_option maxHeartbeats 4000000
/-! signs_on -/
namespace Sw
open PySem PySem.Spec PyProof.Rows L2 SwA
structure SonT (K : PySem.W.Frag) (mg : Str → Option Value) : Prop where
  c : CkT K mg
  so : DeT K mg "signs_on" s_signs_on
abbrev namesV (signs : List Cs) (floor : List Nat) : List V := floor.map fun s => sV (signs.getD s [])
section
variable {P : Program} {w : World} {K : PySem.W.Frag} {mg : Str → Option Value} {base : Heap}
def spSignsOn (K : PySem.W.Frag) : Sp := fun vs H Q _ => ∃ (text : Cs) (pl : Plan) (t : Nat), vs = [sV text, .int t] ∧ Reads text pl ∧ WfP pl ∧ Early pl 20000 ∧ t ≤ 1000000000000000000 ∧
  ∀ (l : Addr) (H' : Hp), H l = none → Same H H' → H' l = some (.lst (namesV pl.signs (stN pl (t + 1)).floor)) → Q (.ref l) H'
abbrev soN : List Str := ["plan", "tick", "parsed", "sign"]
theorem sc_son : FnScope soN ["plan", "tick"] (defScope s_signs_on) := ⟨rfl, rfl, rfl, by decide +kernel, rfl, by decide +kernel, by decide +kernel⟩
theorem ok_son (T : SonT K mg) : FnE P w K mg base CX0 9 ("signs_on", none) ["plan", "tick"] (spSignsOn K) := by
  obtain ⟨fd, F⟩ := T.so.d
  obtain ⟨fdL, GL, bL, kL⟩ := ok_read (P := P) (w := w) (base := base) T.c.h.s.m.lo
  obtain ⟨fdC, GC, bC, kC⟩ := ok_ckt (P := P) (w := w) (base := base) T.c
  obtain ⟨fdS, GS, bS, kS⟩ := ok_story (P := P) (w := w) (base := base) T.c.h.s
  obtain ⟨fdH, GH, bH, kH⟩ := ok_happens (P := P) (w := w) (base := base) T.c.h
  refine ⟨fd, F.ok sc_son (fun vs H Q E h => ?_) (fun cdv A outer s H vs Q E hr h => ?_), F.bindsN fun _ _ _ _ _ _ us hl => match us, hl with | [_, _], _ => rfl, F.kp⟩
  · obtain ⟨text, pl, t, rfl, _⟩ := h
    rfl
  · obtain ⟨text, pl, t, rfl, hR, wf, hea, ht, k⟩ := h
    have hr2 : Room 2 _ := hr.mono (by decide)
    have hr3 : Room 3 _ := hr.mono (by decide)
    have hr6 : Room 6 _ := hr.mono (by decide)
    have hr8 : Room 8 _ := hr.mono (by decide)
    refine ⟨_, PSs.nox (pss_cons (ps_set (i := 2) sc_son.nd rfl (.inr rfl) (pe_call GL hr8 rfl T.c.h.s.m.lo.g_load kL bL .nil pass0 (pa_cons (pv 0) pa_nil)))
      (pss_cons (ps_expr (pe_call GC hr2 rfl T.c.ck.g kC bC .nil pass0 (pa_cons (pv 1) pa_nil)))
      (pss_one (ps_ret (pe_lc (own := [("sign", 3)]) (g := (gName 3)) (tt := tYes) (te := tOp (rIxT K) (tFld K (tVar 2) "signs") (tVar 3)) rfl sc_son.nd (pi_tup (pe_fld (pe_fld (pe_meth (pe_make T.c.h.s.sto.m GS hr6 rfl T.c.h.s.sto.g bS .nil pass0 (pa_cons (pv 2) pa_nil)) T.c.h.s.sto.c T.c.h.happens.m GH hr3 bH .nil pass0 (pa_cons (pv 1) pa_nil)) rfl) rfl)) (blkOk_by (own := [("sign", 3)]) (N := soN) (sc := defScope s_signs_on) (by decide +kernel)) (fun _ _ _ _ _ => (pg_name (i := 3) sc_son.nd rfl (.inl rfl))) (fun _ _ _ _ _ => pts_nil) (fun _ _ _ _ _ => (pe_ix ix_tup (pe_fld (pv 2) rfl) (pv 3) (fun _ _ => rfl)))))))), ?_⟩
    refine ⟨_, rfl, text, pl, rfl, hR, fun pa H1 npa s1 hpl => ?_⟩
    refine ⟨_, rfl, t, rfl, ht, ?_⟩
    refine ⟨_, rfl, ?_⟩
    intro x dx nx ndx ne
    refine story_wf hpl wf hea nx ndx fun n s2 H2 s12 hS => ⟨rfl, ?_⟩
    obtain ⟨dy, tl, tas, e1, _⟩ := id hS
    replace hpl := hpl.same s12
    refine ⟨x, dy, _, rfl, e1, lo_no_happens, _, rfl, x, pl, n, s2, t, rfl, hS, fun ta hT => ?_⟩
    obtain ⟨dt, sw, wo, sb, w1, w2, w3, w4⟩ := id hT
    obtain ⟨ds, fa, ra, ras, q1, q2, q3, q4⟩ := id w4
    refine ⟨ta, _, dt, _, _, rfl, w1, T.c.h.s.m.tick.c, T.c.h.s.m.tick.n _ (by simp), lt_state, sb, _, ds, _, _, rfl, q1, T.c.h.s.m.state.c, T.c.h.s.m.state.n _ (by simp), ls_floor, fa, rfl, ⟨_, SqT.of q2⟩, fun D nD => ?_⟩
    obtain ⟨dp, sga, mda, fla, rba, rda, ras3, z1, z2, z3, z4, z5⟩ := id hpl
    rw [tk_state] at q2
    have hsi := st_si wf (t + 1)
    have hfl := (st_wf wf.rt (t + 1)).fl
    have h16 := wf.n16
    have s02 := s1.trans s12
    refine lc_tup (K := K) (a := fa) (xs := (stN pl (t + 1)).floor.map fun n : Nat => V.int n) (fun i H3 => H3 D = some (.lst (namesV pl.signs ((stN pl (t + 1)).floor.take i))) ∧ Same H2 H3) ⟨upd_same, sameUpd (Same.refl H2) nD⟩ (fun i H3 _ ⟨_, sm⟩ => SqT.of (sm _ _ q2)) ?_ ?_
    · rintro i x H3 hx ⟨hD, sm⟩
      rw [List.getElem?_map] at hx
      cases hai : (stN pl (t + 1)).floor[i]? with
      | none => rw [hai] at hx; cases hx
      | some ai =>
        rw [hai] at hx
        cases hx
        have hal := hsi ai (List.mem_of_getElem? hai)
        have eal : pl.signs[ai]? = some pl.signs[ai] := List.getElem?_eq_getElem hal
        refine ⟨rfl, _, rfl, pa, _, dp, _, _, rfl, sm _ _ z1, T.c.h.s.m.lo.plan.c, T.c.h.s.m.lo.plan.n _ (by simp), lpl_signs, _, rfl, sga, _, _, _, rfl, rfl, (z2.mono fun _ z => sm _ _ z).sq, atI_nat (by rw [List.getElem?_map, eal]; rfl), _, hD, ?_, ?_, sameUpd sm nD⟩
        · rw [List.length_map, List.length_take, sizeLine_eq]
          omega
        · rw [upd_same, List.take_succ, hai]
          simp [List.getD_eq_getElem?_getD, eal]
    · rintro H3 ⟨hD, sm⟩
      rw [List.length_map, List.take_length] at hD
      exact k D H3 (s02.free nD) (s02.trans sm) hD
end
end Sw

end

section
set_option maxRecDepth 100000
set_option maxHeartbeats 4000000
/-! robots_in -/
namespace Sw
open PySem PySem.Spec PyProof.Rows L2 SwA
structure RinT (K : PySem.W.Frag) (mg : Str → Option Value) : Prop where
  c : CkT K mg
  ri : DeT K mg "robots_in" s_robots_in
abbrev wayS (r : Bool) : Str := if r = true then "right" else "left"
def RobT (moods : List Cs) (H : Hp) (a : Addr) (r : Rob) : Prop := H a = some (.tup [.int r.1, .str (wayS r.2.1), sV (moods.getD r.2.2 [])])
section
variable {P : Program} {w : World} {K : PySem.W.Frag} {mg : Str → Option Value} {base : Heap}
def spRobotsIn (K : PySem.W.Frag) : Sp := fun vs H Q _ => ∃ (text : Cs) (pl : Plan) (t : Nat), vs = [sV text, .int t] ∧ Reads text pl ∧ WfP pl ∧ Early pl 20000 ∧ t ≤ 1000000000000000000 ∧
  ∀ (l : Addr) (ts : List Addr) (H' : Hp), H l = none → Same H H' → H' l = some (.lst (ts.map V.ref)) → Paired (RobT pl.moods H') ts (stN pl (t + 1)).robots → Q (.ref l) H'
abbrev rnN : List Str := ["plan", "tick", "parsed", "robots", "tile", "is_right", "mood"]
theorem sc_rin : FnScope rnN ["plan", "tick"] (defScope s_robots_in) := ⟨rfl, rfl, rfl, by decide +kernel, rfl, by decide +kernel, by decide +kernel⟩
theorem ok_rin (T : RinT K mg) : FnE P w K mg base CX0 9 ("robots_in", none) ["plan", "tick"] (spRobotsIn K) := by
  obtain ⟨fd, F⟩ := T.ri.d
  obtain ⟨fdL, GL, bL, kL⟩ := ok_read (P := P) (w := w) (base := base) T.c.h.s.m.lo
  obtain ⟨fdC, GC, bC, kC⟩ := ok_ckt (P := P) (w := w) (base := base) T.c
  obtain ⟨fdS, GS, bS, kS⟩ := ok_story (P := P) (w := w) (base := base) T.c.h.s
  obtain ⟨fdH, GH, bH, kH⟩ := ok_happens (P := P) (w := w) (base := base) T.c.h
  refine ⟨fd, F.ok sc_rin (fun vs H Q E h => ?_) (fun cdv A outer s H vs Q E hr h => ?_), F.bindsN fun _ _ _ _ _ _ us hl => match us, hl with | [_, _], _ => rfl, F.kp⟩
  · obtain ⟨text, pl, t, rfl, _⟩ := h
    rfl
  · obtain ⟨text, pl, t, rfl, hR, wf, hea, ht, k⟩ := h
    have hr2 : Room 2 _ := hr.mono (by decide)
    have hr3 : Room 3 _ := hr.mono (by decide)
    have hr6 : Room 6 _ := hr.mono (by decide)
    have hr8 : Room 8 _ := hr.mono (by decide)
    refine ⟨_, PSs.nox (pss_cons (ps_set (i := 2) sc_rin.nd rfl (.inr rfl) (pe_call GL hr8 rfl T.c.h.s.m.lo.g_load kL bL .nil pass0 (pa_cons (pv 0) pa_nil)))
      (pss_cons (ps_expr (pe_call GC hr2 rfl T.c.ck.g kC bC .nil pass0 (pa_cons (pv 1) pa_nil)))
      (pss_cons (ps_set (i := 3) sc_rin.nd rfl (.inl rfl) (pe_fld (pe_fld (pe_meth (pe_make T.c.h.s.sto.m GS hr6 rfl T.c.h.s.sto.g bS .nil pass0 (pa_cons (pv 2) pa_nil)) T.c.h.s.sto.c T.c.h.happens.m GH hr3 bH .nil pass0 (pa_cons (pv 1) pa_nil)) rfl) rfl))
      (pss_one (ps_ret (pe_lc (own := [("tile", 4), ("is_right", 5), ("mood", 6)]) (g := (gTup K 3 (gCons (gName 4) (gCons (gName 5) (gCons (gName 6) gNil))))) (tt := tYes) (te := tTup (tCons (tVar 4) (tCons (tIf (tB (tVar 5)) (tC (.str "right")) (tC (.str "left"))) (tCons (tOp (rIxT K) (tFld K (tVar 2) "moods") (tVar 6)) tNil)))) rfl sc_rin.nd (pi_tup (pv 3)) (blkOk_by (own := [("tile", 4), ("is_right", 5), ("mood", 6)]) (N := rnN) (sc := defScope s_robots_in) (by decide +kernel)) (fun _ _ _ _ _ => (pg_tup rfl (pgs_cons (pg_name (i := 4) sc_rin.nd rfl (.inl rfl)) (pgs_cons (pg_name (i := 5) sc_rin.nd rfl (.inl rfl)) (pgs_cons (pg_name (i := 6) sc_rin.nd rfl (.inl rfl)) pgs_nil))))) (fun _ _ _ _ _ => pts_nil) (fun _ _ _ _ _ => (pe_tup (pa_cons (pv 4) (pa_cons (pe_ifExp (pt_val (pv 5)) pe_str pe_str) (pa_cons (pe_ix ix_tup (pe_fld (pv 2) rfl) (pv 6) (fun _ _ => rfl)) pa_nil))))))))))), ?_⟩
    refine ⟨_, rfl, text, pl, rfl, hR, fun pa H1 npa s1 hpl => ?_⟩
    refine ⟨_, rfl, t, rfl, ht, ?_⟩
    refine ⟨_, rfl, ?_⟩
    intro x dx nx ndx ne
    refine story_wf hpl wf hea nx ndx fun n s2 H2 s12 hS => ⟨rfl, ?_⟩
    obtain ⟨dy, tl, tas, e1, _⟩ := id hS
    replace hpl := hpl.same s12
    refine ⟨x, dy, _, rfl, e1, lo_no_happens, _, rfl, x, pl, n, s2, t, rfl, hS, fun ta hT => ?_⟩
    obtain ⟨dt, sw, wo, sb, w1, w2, w3, w4⟩ := id hT
    obtain ⟨ds, fa, ra, ras, q1, q2, q3, q4⟩ := id w4
    refine ⟨ta, _, dt, _, _, rfl, w1, T.c.h.s.m.tick.c, T.c.h.s.m.tick.n _ (by simp), lt_state, sb, _, ds, _, _, rfl, q1, T.c.h.s.m.state.c, T.c.h.s.m.state.n _ (by simp), ls_robots, ?_⟩
    obtain ⟨dp, sga, mda, fla, rba, rda, ras3, z1, z2, z3, z4, z5⟩ := id hpl
    rw [tk_state] at q4
    have hmo := st_mo wf (t + 1)
    have hrl := (st_wf wf.rt (t + 1)).ro
    have hr3' := wf.r3
    have s02 := s1.trans s12
    refine ⟨_, rfl, ra, rfl, ⟨_, SqT.of q3⟩, fun D nD => ?_⟩
    refine lc_tup (K := K) (a := ra) (xs := ras.map V.ref) (fun i H3 => ∃ ts : List Addr, H3 D = some (.lst (ts.map V.ref)) ∧ Same H2 H3 ∧ Paired (RobT pl.moods H3) ts ((stN pl (t + 1)).robots.take i)) ⟨[], upd_same, sameUpd (Same.refl H2) nD, .nil⟩ (fun i H3 _ ⟨_, _, sm, _⟩ => SqT.of (sm _ _ q3)) ?_ ?_
    · rintro i x H3 hx ⟨ts, hD, sm, hts⟩
      rw [List.getElem?_map] at hx
      cases hai : ras[i]? with
      | none => rw [hai] at hx; cases hx
      | some ai =>
        rw [hai] at hx
        cases hx
        obtain ⟨⟨tile, right, mood⟩, hri, hrob⟩ := Paired_idx q4 hai
        have hir : i < (stN pl (t + 1)).robots.length := (List.getElem?_eq_some_iff.mp hri).1
        have hal := hmo _ (List.mem_of_getElem? hri)
        have eal : pl.moods[mood]? = some pl.moods[mood] := List.getElem?_eq_getElem hal
        have htl := hts.length
        rw [List.length_take] at htl
        have fin : ∀ z : Str, z = wayS right → ∀ σ : L2.St, σ = [some (sV text), some (.int t), some (.ref pa), some (.ref ra), some (.int tile), some (.bl right), some (.int mood)] → tOp (rIxT K) (tFld K (tVar 2) "moods") (tVar 6) σ H3 (fun x H1 => [V.int tile, .str z, x].length ≤ sizeLine ∧ ∀ p, H1 p = none → ∃ acc, (upd H1 p (.tup [V.int tile, .str z, x])) D = some (.lst acc) ∧ acc.length < sizeLine ∧ ∃ ts : List Addr, (upd (upd H1 p (.tup [V.int tile, .str z, x])) D (.lst (acc ++ [.ref p]))) D = some (.lst (ts.map V.ref)) ∧ Same H2 (upd (upd H1 p (.tup [V.int tile, .str z, x])) D (.lst (acc ++ [.ref p]))) ∧ Paired (RobT pl.moods (upd (upd H1 p (.tup [V.int tile, .str z, x])) D (.lst (acc ++ [.ref p])))) ts ((stN pl (t + 1)).robots.take (i + 1))) := fun z hz σ hσ => by
          subst hσ
          refine ⟨_, rfl, pa, _, dp, _, _, rfl, sm _ _ z1, T.c.h.s.m.lo.plan.c, T.c.h.s.m.lo.plan.n _ (by simp), lpl_moods, _, rfl, mda, _, _, _, rfl, rfl, (z3.mono fun _ z => sm _ _ z).sq, atI_nat (by rw [List.getElem?_map, eal]; rfl), (by show 3 ≤ sizeLine; decide), fun t nt => ?_⟩
          have s2 := sameUpd (o := .tup [.int tile, .str z, sV pl.moods[mood]]) (Same.refl H3) nt
          have ht := @upd_same H3 t (.tup [.int tile, .str z, sV pl.moods[mood]])
          have hD2 := s2 _ _ hD
          have hts2 : Paired (RobT pl.moods (upd H3 t (.tup [.int tile, .str z, sV pl.moods[mood]]))) ts _ := Paired.mapP hts fun _ _ q => s2 _ _ q
          have sm2 := sm.trans s2
          generalize upd H3 t (.tup [.int tile, .str z, sV pl.moods[mood]]) = H4 at *
          have kt := keepT (o' := .lst (ts.map V.ref ++ [.ref t])) hD2 (fun xs q => by cases q)
          refine ⟨_, hD2, by rw [List.length_map, sizeLine_eq]; omega, ts ++ [t], by rw [upd_same, List.map_append]; rfl, sameUpd sm2 nD, ?_⟩
          rw [List.take_succ, hri]
          refine Paired_snoc (Paired.mapP hts2 fun _ _ q => kt _ _ q) ?_
          have e2 := kt _ _ ht
          rw [hz] at e2
          show _ = some (HO.tup [.int tile, .str (wayS right), sV (pl.moods.getD mood [])])
          rw [List.getD_eq_getElem?_getD, eal]
          exact e2
        refine ⟨ai, _, rfl, SqT.of (sm _ _ hrob), rfl, _, _, rfl, _, _, rfl, _, _, rfl, rfl, rfl, _, rfl, _, rfl, _, rfl, ?_⟩
        cases right with
        | true => exact iteT (fin _ rfl _ rfl)
        | false => exact iteF (fin _ rfl _ rfl)
    · rintro H3 ⟨ts, hD, sm, hts⟩
      rw [List.length_map, q4.length, List.take_length] at hts
      exact k D ts H3 (s02.free nD) (s02.trans sm) hD hts
end
end Sw

end

section
set_option maxRecDepth 100000
set_option maxHeartbeats 4000000
/-! the law's own machine: how its states lie in the heap -/
namespace Sw
open PySem PySem.Spec PyProof.Rows L2 SwA
abbrev iVn (l : List Nat) : List V := l.map fun n : Nat => V.int n
theorem PlanV.same {H H' : Hp} {a : Addr} {pl : Plan} (s : Same H H') (h : PlanV H a pl) : PlanV H' a pl := by
  obtain ⟨sa, ma, fa, ra, rd, ras, e1, e2, e3, e4, e5, e6, kvs, e7, e8⟩ := h
  exact ⟨sa, ma, fa, ra, rd, ras, s _ _ e1, e2.mono fun _ z => s _ _ z, e3.mono fun _ z => s _ _ z, s _ _ e4, s _ _ e5, Paired.mapP e6 fun _ _ q => s _ _ q, kvs, s _ _ e7, Paired.mapP e8 fun _ _ q => q.mono fun _ _ z => s _ _ z⟩
/-! the law's own corridor; ok: what is true of its lists' places -/
def LState (ok : Addr → Prop) (H : Hp) (a : Addr) (st : MSt) : Prop := ∃ (fl rl : Addr) (ras : List Addr), (ok a ∧ ok fl ∧ ok rl) ∧ H a = some (.lst [.ref fl, .ref rl]) ∧ H fl = some (.lst (iVn st.floor)) ∧ H rl = some (.lst (ras.map V.ref)) ∧ Paired (Rob3At H) ras st.robots
theorem DrawAt.same {H H' : Hp} {d : Addr} (h : DrawAt H d) (s : Same H H') : DrawAt H' d := let ⟨a, b, c, l, e⟩ := h; ⟨a, b, c, l, s _ _ e⟩
theorem DrawAt.put {H : Hp} {d x : Addr} {o : HO} (h : DrawAt H d) (n : d ≠ x) : DrawAt (upd H x o) d := let ⟨a, b, c, l, e⟩ := h; ⟨a, b, c, l, (upd_ne n).trans e⟩
theorem DrawAt.ne {H : Hp} {d x : Addr} (h : DrawAt H d) (n : H x = none) : d ≠ x := fun z => by
  obtain ⟨a, b, c, l, e⟩ := h
  rw [z, n] at e
  cases e
theorem DrawAt.not {H : Hp} {d x : Addr} {o : HO} (hd : DrawAt H d) (h : H x = some o) (n : ∀ xs, o ≠ .lst xs) : x ≠ d := fun z => by
  obtain ⟨a, b, c, _, e⟩ := hd
  rw [z, e] at h
  exact n _ (Option.some.inj h).symm
theorem PlanV.keep {H H' : Hp} {a : Addr} {pl : Plan} (k : ∀ {x : Addr} {o : HO}, H x = some o → (∀ xs, o ≠ .lst xs) → H' x = some o) (h : PlanV H a pl) : PlanV H' a pl := by
  obtain ⟨sa, ma, fa, ra, rd, ras, e1, e2, e3, e4, e5, e6, kvs, e7, e8⟩ := h
  exact ⟨sa, ma, fa, ra, rd, ras, k e1 (by simp), e2.mono fun _ z => k z (by simp), e3.mono fun _ z => k z (by simp), k e4 (by simp), k e5 (by simp), Paired.mapP e6 fun _ _ q => k q (by simp), kvs, k e7 (by simp), Paired.mapP e8 fun _ _ q => q.mono fun _ _ z => k z (by simp)⟩
theorem PlanV.drawn {H H' : Hp} {a d : Addr} {pl : Plan} (hd : DrawAt H d) (dr : Drawn d H H') (h : PlanV H a pl) : PlanV H' a pl := h.keep fun h n => dr.same _ _ (hd.not h n) h
section
/-- tuples stand, and the lists of a kind -/
structure Kp (ok : Addr → Prop) (H H' : Hp) : Prop where
  t : ∀ b xs, H b = some (.tup xs) → H' b = some (.tup xs)
  o : ∀ b o, ok b → H b = some o → H' b = some o
  d : ∀ b ks, H b = some (.dT ks) → H' b = some (.dT ks)
  f : ∀ b o xs, H b = some (.frz o (.tup xs)) → H' b = some (.frz o (.tup xs))
theorem Kp.same {ok : Addr → Prop} {H H' : Hp} (s : Same H H') : Kp ok H H' := ⟨fun _ _ e => s _ _ e, fun _ _ _ e => s _ _ e, fun _ _ e => s _ _ e, fun _ _ _ e => s _ _ e⟩
theorem Kp.trans {ok : Addr → Prop} {H H1 H2 : Hp} (a : Kp ok H H1) (b : Kp ok H1 H2) : Kp ok H H2 := ⟨fun _ _ e => b.t _ _ (a.t _ _ e), fun _ _ k e => b.o _ _ k (a.o _ _ k e), fun _ _ e => b.d _ _ (a.d _ _ e), fun _ _ _ e => b.f _ _ _ (a.f _ _ _ e)⟩
/-- a list of no such kind is stored anew -/
theorem Kp.put {ok : Addr → Prop} {H : Hp} {x : Addr} {xs : List V} {o' : HO} (hx : H x = some (.lst xs)) (n : ¬ ok x) : Kp ok H (upd H x o') :=
  ⟨fun b ys e => (upd_ne (ne_of e hx (by intro z; cases z))).trans e, fun b o k e => (upd_ne (fun z : b = x => n (z ▸ k))).trans e, fun b ys e => (upd_ne (ne_of e hx (by intro z; cases z))).trans e, fun b o ys e => (upd_ne (ne_of e hx (by intro z; cases z))).trans e⟩
variable {ok ok' : Addr → Prop} {H H' : Hp}
theorem PlanV.kp {a : Addr} {pl : Plan} (s : Kp ok H H') (h : PlanV H a pl) : PlanV H' a pl := by
  obtain ⟨sa, ma, fa, ra, rd, ras, e1, ⟨o2, c2, d2, e2⟩, ⟨o3, c3, d3, e3⟩, e4, e5, e6, kvs, e7, e8⟩ := h
  exact ⟨sa, ma, fa, ra, rd, ras, s.t _ _ e1, ⟨o2, c2, d2, s.f _ _ _ e2⟩, ⟨o3, c3, d3, s.f _ _ _ e3⟩, s.t _ _ e4, s.t _ _ e5, Paired.mapP e6 fun _ _ q => s.t _ _ q, kvs, s.d _ _ e7, Paired.mapP e8 fun _ _ q => q.mono fun _ _ z => s.t _ _ z⟩
theorem LState.kp {a : Addr} {st : MSt} (h : LState ok H a st) (s : Kp ok H H') (i : ∀ b, ok b → ok' b := by exact fun _ z => z) : LState ok' H' a st :=
  let ⟨fl, rl, ras, ⟨o1, o2, o3⟩, e1, e2, e3, e4⟩ := h
  ⟨fl, rl, ras, ⟨i _ o1, i _ o2, i _ o3⟩, s.o _ _ o1 e1, s.o _ _ o2 e2, s.o _ _ o3 e3, Paired.mapP e4 fun _ _ q => s.t _ _ q⟩
theorem LState.same {a : Addr} {st : MSt} (h : LState ok H a st) (s : Same H H') : LState ok H' a st := h.kp (.same s)
theorem LState.mono {a : Addr} {st : MSt} (h : LState ok H a st) (i : ∀ b, ok b → ok' b) : LState ok' H a st := h.kp (.same (Same.refl _)) i
end
end Sw

end

section
set_option maxRecDepth 100000
set_option maxHeartbeats 4000000
/-! a plan's own text is read as the plan -/
namespace Sw
open PySem PySem.Spec PyProof.Rows L2 SwA
theorem reads_text {pl : Plan} (wf : WfP pl) (so : SortedR pl.rules) : Reads (textOf pl) pl := by
  obtain ⟨s, h1, h2, h3⟩ := loads_text wf
  exact ⟨Nat.le_trans (text_len wf so).2 (by decide), _, s, h1, h2, h3⟩
end Sw

end

section
set_option maxRecDepth 100000
set_option maxHeartbeats 4000000
/-! the laws' common steps -/
namespace Sw
open PySem PySem.Spec PyProof.Rows L2 SwA
theorem passF {P : Program} {w : World} {X : Cx} : Passes (L2.CX P w) X (fun _ _ _ => False) := fun _ _ _ _ _ _ _ c => let ⟨_, _, _, _, _, _, _, _, _, _, _, _, f⟩ := c; f.elim
theorem Kp.drawn {d : Addr} {H H' : Hp} (hd : DrawAt H d) (dr : Drawn d H H') : Kp (fun b => b ≠ d) H H' :=
  ⟨fun b xs e => dr.same _ _ (hd.not e (by simp)) e, fun b o k e => dr.same _ _ k e, fun b ks e => dr.same _ _ (hd.not e (by simp)) e, fun b o xs e => dr.same _ _ (hd.not e (by simp)) e⟩
end Sw

end

section
set_option maxRecDepth 100000
set_option maxHeartbeats 1000000
/-! what runs while generators sleep leaves them: a run where they are hushed (stuck if woken) is a run where they are not -/
namespace GenW
open PySem
open Sem (wp)

def GState.susp : GenState → Bool
  | .suspended .. => true
  | _ => false
/-- the same to see, stuck if woken -/
def hushG : GenState → GenState
  | .suspended _ l c p fs cl => .suspended (fun _ => .unsupported "asleep") l c p fs cl
  | x => x
theorem hush_seen (x : GenState) : (hushG x).seen = x.seen := by cases x <;> rfl
theorem hush_bare (x : GenState) : (hushG x).bare = x.bare := by cases x <;> rfl
def NoGen (fs : List Frame) : Prop := splitAtGen fs = none
theorem NoGen.append : ∀ {fs gs : List Frame}, NoGen fs → NoGen gs → NoGen (fs ++ gs)
  | [], _, _, h => h
  | .gen .. :: _, _, h, _ => by exact absurd h (by simp [NoGen, splitAtGen])
  | .ret k hd g l c p kp :: rest, gs, h, h2 => by
    have h1 : NoGen rest := by
      have h' : (splitAtGen rest).map _ = none := h
      exact Option.map_eq_none_iff.mp h'
    show (splitAtGen (rest ++ gs)).map _ = none
    rw [show splitAtGen (rest ++ gs) = none from h1.append h2]; rfl
theorem NoGen.one {k : Result → Sem PySem.Fin} {h : Option Value} {g : Bool} {l : List Value} {c : Code} {p : Pos} {kp : List Value} : NoGen [.ret k h g l c p kp] := rfl
theorem NoGen.tail {F : Frame} {fs : List Frame} (h : NoGen (F :: fs)) : NoGen fs := by
  cases F with
  | gen => exact absurd h (by simp [NoGen, splitAtGen])
  | ret k hd g l c p kp =>
    have h' : (splitAtGen fs).map _ = none := h
    exact Option.map_eq_none_iff.mp h'
theorem NoGen.not {g : Nat} {k : GenResult → Sem PySem.Fin} {l : List Value} {c : Code} {p : Pos} {fs : List Frame} (h : NoGen (.gen g k l c p :: fs)) : False := by simp [NoGen, splitAtGen] at h
def cleanG : GenState → Prop
  | .suspended _ _ _ _ fs _ => NoGen fs
  | _ => True
def cleanE : End → Prop
  | .susp _ _ _ _ _ _ fs => NoGen fs
  | _ => True
theorem cleanE.gen {e : End} (h : cleanE e) : cleanG e.genState := by cases e <;> exact h

/-- the left one: those in b are hushed -/
structure RB (b : Nat → Option GenState) (s s1 : Shared) : Prop where
  heap : s.heap = s1.heap
  drawn : s.drawn = s1.drawn
  toks : s.toks = s1.toks
  os : s.os = s1.os
  size : s.gens.size = s1.gens.size
  msk : ∀ i x, b i = some x → GState.susp x = true ∧ s1.gens[i]? = some x ∧ s.gens[i]? = some (hushG x)
  oth : ∀ i, b i = none → s.gens[i]? = s1.gens[i]? ∧ ∀ y, s1.gens[i]? = some y → cleanG y
variable {b : Nat → Option GenState}
theorem RB.setH {s s1 : Shared} (r : RB b s s1) (h : Heap) : RB b { s with heap := h } { s1 with heap := h } := ⟨rfl, r.drawn, r.toks, r.os, r.size, r.msk, r.oth⟩
theorem RB.setT {s s1 : Shared} (r : RB b s s1) (t : Nat) : RB b { s with toks := t } { s1 with toks := t } := ⟨r.heap, r.drawn, rfl, r.os, r.size, r.msk, r.oth⟩
theorem RB.setD {s s1 : Shared} (r : RB b s s1) (d : Drawn) : RB b { s with drawn := d } { s1 with drawn := d } := ⟨r.heap, rfl, r.toks, r.os, r.size, r.msk, r.oth⟩
theorem RB.setO {s s1 : Shared} (r : RB b s s1) (o : OsState) : RB b { s with os := o } { s1 with os := o } := ⟨r.heap, r.drawn, r.toks, rfl, r.size, r.msk, r.oth⟩
theorem RB.free {s s1 : Shared} (r : RB b s s1) {g : Nat} {x : GenState} (h : s.gens[g]? = some x) (hx : GState.susp x = false) : b g = none := by
  cases e : b g with
  | none => rfl
  | some y =>
    obtain ⟨h1, _, h3⟩ := r.msk g y e
    rw [h] at h3
    cases h3
    cases y with
    | suspended => exact Bool.noConfusion (show true = false from hx)
    | fresh => cases h1
    | running => cases h1
    | finished => cases h1
theorem RB.at {s s1 : Shared} (r : RB b s s1) {g : Nat} {x : GenState} (h : s.gens[g]? = some x) (hb : b g = none) : s1.gens[g]? = some x ∧ cleanG x := by
  obtain ⟨h1, h2⟩ := r.oth g hb
  rw [h] at h1
  exact ⟨h1.symm, h2 x h1.symm⟩
theorem RB.seen {s s1 : Shared} (r : RB b s s1) {g : Nat} {x : GenState} (h : s.gens[g]? = some x) : ∃ y, s1.gens[g]? = some y ∧ y.seen = x.seen := by
  cases e : b g with
  | none => exact ⟨x, (r.at h e).1, rfl⟩
  | some y =>
    obtain ⟨_, h2, h3⟩ := r.msk g y e
    rw [h] at h3
    cases h3
    exact ⟨y, h2, (hush_seen y).symm⟩
theorem setGen_get (s : Shared) (g i : Nat) (x : GenState) : (s.setGen g x).gens[i]? = if g = i then (if g < s.gens.size then some x else none) else s.gens[i]? := by
  show (s.gens.setIfInBounds g x)[i]? = _
  rw [Array.getElem?_setIfInBounds]
theorem RB.setG {s s1 : Shared} (r : RB b s s1) {g : Nat} (hb : b g = none) {x : GenState} (hx : cleanG x) : RB b (s.setGen g x) (s1.setGen g x) := by
  refine ⟨r.heap, r.drawn, r.toks, r.os, by rw [setGen_size, setGen_size]; exact r.size, fun i y e => ?_, fun i e => ?_⟩
  · have hne : g ≠ i := fun z => by rw [z, e] at hb; cases hb
    rw [setGen_get, setGen_get, if_neg hne, if_neg hne]
    exact r.msk i y e
  · rw [setGen_get, setGen_get, r.size]
    by_cases hg : g = i
    · rw [if_pos hg, if_pos hg]
      refine ⟨rfl, fun y hy => ?_⟩
      by_cases hl : g < s1.gens.size
      · rw [if_pos hl] at hy; cases hy; exact hx
      · rw [if_neg hl] at hy; cases hy
    · rw [if_neg hg, if_neg hg]
      exact r.oth i e
theorem RB.push {s s1 : Shared} (r : RB b s s1) (c : Code) : RB b { s with gens := s.gens.push (.fresh c) } { s1 with gens := s1.gens.push (.fresh c) } := by
  have lt : ∀ {i : Nat} {y : GenState} {G : Array GenState}, G[i]? = some y → i < G.size := fun h => (Array.getElem?_eq_some_iff.mp h).1
  refine ⟨r.heap, r.drawn, r.toks, r.os, by show (s.gens.push _).size = (s1.gens.push _).size; rw [Array.size_push, Array.size_push, r.size], fun i y e => ?_, fun i e => ?_⟩
  · obtain ⟨h1, h2, h3⟩ := r.msk i y e
    refine ⟨h1, ?_, ?_⟩
    · show (s1.gens.push _)[i]? = _
      rw [Array.getElem?_push, if_neg (Nat.ne_of_lt (lt h2))]; exact h2
    · show (s.gens.push _)[i]? = _
      rw [Array.getElem?_push, if_neg (Nat.ne_of_lt (lt h3))]; exact h3
  · obtain ⟨h1, h2⟩ := r.oth i e
    show (s.gens.push _)[i]? = (s1.gens.push _)[i]? ∧ ∀ y, (s1.gens.push _)[i]? = some y → _
    rw [Array.getElem?_push, Array.getElem?_push, r.size]
    by_cases hg : i = s1.gens.size
    · rw [if_pos hg, if_pos hg]
      exact ⟨rfl, fun y hy => by cases hy; trivial⟩
    · rw [if_neg hg, if_neg hg]
      exact ⟨h1, h2⟩

theorem runs_unsup {M : Model} {Γ : Ctx} {p : Pos} {t : Sem PySem.Fin} {fs : List Frame} {s s' : Shared} {e : End} (h : Runs M Γ p t fs s e s') : ∀ w, t = .unsupported w → False := by
  induction h with
  | segRet _ _ ih1 _ => exact ih1
  | segGen _ _ ih1 _ => exact ih1
  | segSuspOut _ _ ih1 => exact ih1
  | segSuspGen _ _ _ _ ih1 _ => exact ih1
  | _ => intro w hw; cases hw

theorem runs_hush {M : Model} {Γ : Ctx} {p : Pos} {t : Sem PySem.Fin} {fs : List Frame} {s s' : Shared} {e : End} (h : Runs M Γ p t fs s e s') :
    ∀ s1, RB b s s1 → NoGen fs → ∃ s1', Runs M Γ p t fs s1 e s1' ∧ RB b s' s1' ∧ cleanE e := by
  induction h with
  | done => intro s1 r _; exact ⟨s1, .done, r, trivial⟩
  | raise => intro s1 r _; exact ⟨s1, .raise, r, trivial⟩
  | again hq _ ih => intro s1 r hc; obtain ⟨s2, h2, r2, c2⟩ := ih s1 r hc; exact ⟨s2, .again hq h2, r2, c2⟩
  | rule _ ih => intro s1 r hc; obtain ⟨s2, h2, r2, c2⟩ := ih s1 r hc; exact ⟨s2, .rule h2, r2, c2⟩
  | «at» _ ih => intro s1 r hc; obtain ⟨s2, h2, r2, c2⟩ := ih s1 r hc; exact ⟨s2, .at h2, r2, c2⟩
  | load ho _ ih => intro s1 r hc; obtain ⟨s2, h2, r2, c2⟩ := ih s1 r hc; exact ⟨s2, .load (by rw [← r.heap]; exact ho) h2, r2, c2⟩
  | update ho _ ih => intro s1 r hc; obtain ⟨s2, h2, r2, c2⟩ := ih _ (r.setH _) hc; rw [r.heap] at h2 ho; exact ⟨s2, .update ho h2, r2, c2⟩
  | loadIfAlive _ ih => intro s1 r hc; obtain ⟨s2, h2, r2, c2⟩ := ih s1 r hc; rw [r.heap] at h2; exact ⟨s2, .loadIfAlive h2, r2, c2⟩
  | point _ ih => intro s1 r hc; obtain ⟨s2, h2, r2, c2⟩ := ih s1 r hc; exact ⟨s2, .point h2, r2, c2⟩
  | alloc _ ih => intro s1 r hc; obtain ⟨s2, h2, r2, c2⟩ := ih _ (r.setH _) hc; rw [r.heap] at h2; exact ⟨s2, .alloc h2, r2, c2⟩
  | fresh _ ih => intro s1 r hc; obtain ⟨s2, h2, r2, c2⟩ := ih _ (r.setT _) hc; rw [r.toks] at h2; exact ⟨s2, .fresh h2, r2, c2⟩
  | ask _ ih => intro s1 r hc; obtain ⟨s2, h2, r2, c2⟩ := ih s1 r hc; exact ⟨s2, .ask h2, r2, c2⟩
  | choose hn _ ih => intro s1 r hc; obtain ⟨s2, h2, r2, c2⟩ := ih _ (r.setD _) hc; rw [r.drawn] at h2; exact ⟨s2, .choose hn h2, r2, c2⟩
  | os _ ih => intro s1 r hc; obtain ⟨s2, h2, r2, c2⟩ := ih _ (r.setO _) hc; rw [r.os] at h2; exact ⟨s2, .os h2, r2, c2⟩
  | handled _ ih => intro s1 r hc; obtain ⟨s2, h2, r2, c2⟩ := ih s1 r hc; exact ⟨s2, .handled h2, r2, c2⟩
  | genState hs _ ih =>
    intro s1 r hc
    obtain ⟨s2, h2, r2, c2⟩ := ih s1 r hc
    obtain ⟨y, hy, e⟩ := r.seen hs
    rw [← e] at h2
    exact ⟨s2, .genState hy h2, r2, c2⟩
  | stack _ ih => intro s1 r hc; obtain ⟨s2, h2, r2, c2⟩ := ih s1 r hc; exact ⟨s2, .stack h2, r2, c2⟩
  | thread _ ih => intro s1 r hc; obtain ⟨s2, h2, r2, c2⟩ := ih s1 r hc; exact ⟨s2, .thread h2, r2, c2⟩
  | newGen _ ih => intro s1 r hc; obtain ⟨s2, h2, r2, c2⟩ := ih _ (r.push _) hc; rw [r.size] at h2; exact ⟨s2, .newGen h2, r2, c2⟩
  | call _ _ ih1 ih2 =>
    intro s1 r hc
    obtain ⟨s2, h2, r2, _⟩ := ih1 s1 r rfl
    obtain ⟨s3, h3, r3, c3⟩ := ih2 s2 r2 hc
    exact ⟨s3, .call h2 h3, r3, c3⟩
  | callSusp _ ih1 =>
    intro s1 r hc
    obtain ⟨s2, h2, r2, c2⟩ := ih1 s1 r rfl
    exact ⟨s2, .callSusp h2, r2, NoGen.append (show NoGen _ from c2) NoGen.one⟩
  | yield => intro s1 r _; exact ⟨s1, .yield, r, rfl⟩
  | resumeFresh hg _ hq _ ih1 ih2 =>
    intro s1 r hc
    have hb := r.free hg rfl
    obtain ⟨h1, _⟩ := r.at hg hb
    obtain ⟨s2, h2, r2, c2⟩ := ih1 _ (r.setG hb (x := .running) trivial) rfl
    obtain ⟨s3, h3, r3, c3⟩ := ih2 _ (r2.setG hb c2.gen) hc
    exact ⟨s3, .resumeFresh h1 h2 hq h3, r3, c3⟩
  | @resumeSuspended Γ p g r0 l k s k0 l0 c0 p0 fs0 cl e1 sx e s' hg hr hq _ ih1 ih2 =>
    intro s1 r hc
    cases hb : b g with
    | some y =>
      obtain ⟨w1, _, w3⟩ := r.msk g y hb
      rw [hg] at w3
      cases y with
      | suspended k1 l1 c1 p1 fs1 cl1 =>
        injection w3 with w3
        injection w3 with z1 z2 z3 z4 z5 z6
        rw [z1] at hr
        exact (runs_unsup hr _ rfl).elim
      | fresh => cases w1
      | running => cases w1
      | finished => cases w1
    | none =>
      obtain ⟨h1, hcl⟩ := r.at hg hb
      obtain ⟨s2, h2, r2, c2⟩ := ih1 _ (r.setG hb (x := .running) trivial) hcl
      obtain ⟨s3, h3, r3, c3⟩ := ih2 _ (r2.setG hb c2.gen) hc
      exact ⟨s3, .resumeSuspended h1 h2 hq h3, r3, c3⟩
  | resumeJustStarted hg hv _ ih =>
    intro s1 r hc
    obtain ⟨h1, _⟩ := r.at hg (r.free hg rfl)
    obtain ⟨s2, h2, r2, c2⟩ := ih s1 r hc
    exact ⟨s2, .resumeJustStarted h1 hv h2, r2, c2⟩
  | resumeThrowFresh hg _ ih =>
    intro s1 r hc
    have hb := r.free hg rfl
    obtain ⟨h1, _⟩ := r.at hg hb
    obtain ⟨s2, h2, r2, c2⟩ := ih _ (r.setG hb (x := .finished) trivial) hc
    exact ⟨s2, .resumeThrowFresh h1 h2, r2, c2⟩
  | resumeRunning hg _ ih =>
    intro s1 r hc
    obtain ⟨h1, _⟩ := r.at hg (r.free hg rfl)
    obtain ⟨s2, h2, r2, c2⟩ := ih s1 r hc
    exact ⟨s2, .resumeRunning h1 h2, r2, c2⟩
  | resumeFinished hg _ ih =>
    intro s1 r hc
    obtain ⟨h1, _⟩ := r.at hg (r.free hg rfl)
    obtain ⟨s2, h2, r2, c2⟩ := ih s1 r hc
    exact ⟨s2, .resumeFinished h1 h2, r2, c2⟩
  | segRet _ _ ih1 ih2 =>
    intro s1 r hc
    obtain ⟨s2, h2, r2, _⟩ := ih1 s1 r rfl
    obtain ⟨s3, h3, r3, c3⟩ := ih2 s2 r2 hc.tail
    exact ⟨s3, .segRet h2 h3, r3, c3⟩
  | segGen _ _ _ _ => intro s1 r hc; exact hc.not.elim
  | segSuspOut hs _ ih1 =>
    intro s1 r hc
    obtain ⟨s2, h2, r2, c2⟩ := ih1 s1 r rfl
    exact ⟨s2, .segSuspOut hs h2, r2, NoGen.append (show NoGen _ from c2) hc⟩
  | segSuspGen hs _ _ _ _ _ => intro s1 r hc; rw [show splitAtGen _ = none from hc] at hs; cases hs

theorem wakes_hush {M : Model} {Γ : Ctx} {p : Pos} {g : Nat} {r : Resume} {s s1 s' : Shared} {res : GenResult} (R : RB b s s1) (h : Wakes M Γ p g r s res s') : ∃ s1', Wakes M Γ p g r s1 res s1' ∧ RB b s' s1' := by
  unfold Wakes at h ⊢
  cases hg : s.gens[g]? with
  | none => rw [hg] at h; exact h.elim
  | some x =>
    rw [hg] at h
    cases x with
    | fresh c =>
      have hb := R.free hg rfl
      rw [(R.at hg hb).1]
      cases r with
      | throw x =>
        obtain ⟨rfl, rfl⟩ := h
        exact ⟨_, ⟨rfl, rfl⟩, R.setG hb trivial⟩
      | send v =>
        cases v with
        | none =>
          obtain ⟨e1, s2, hr, hq, rfl, rfl⟩ := h
          obtain ⟨s3, h3, r3, c3⟩ := runs_hush hr _ (R.setG hb (x := .running) trivial) rfl
          exact ⟨_, ⟨e1, s3, h3, hq, rfl, rfl⟩, r3.setG hb c3.gen⟩
        | _ =>
          obtain ⟨rfl, rfl⟩ := h
          exact ⟨_, ⟨rfl, rfl⟩, R⟩
    | suspended k0 l0 c0 p0 fs0 cl =>
      cases hb : b g with
      | some y =>
        obtain ⟨w1, _, w3⟩ := R.msk g y hb
        rw [hg] at w3
        obtain ⟨e1, s2, hr, _⟩ := h
        cases y with
        | suspended k1 l1 c1 p1 fs1 cl1 =>
          injection w3 with w3
          injection w3 with z1 z2 z3 z4 z5 z6
          rw [z1] at hr
          exact (runs_unsup hr _ rfl).elim
        | fresh => cases w1
        | running => cases w1
        | finished => cases w1
      | none =>
        obtain ⟨h1, hcl⟩ := R.at hg hb
        rw [h1]
        obtain ⟨e1, s2, hr, hq, rfl, rfl⟩ := h
        obtain ⟨s3, h3, r3, c3⟩ := runs_hush hr _ (R.setG hb (x := .running) trivial) hcl
        exact ⟨_, ⟨e1, s3, h3, hq, rfl, rfl⟩, r3.setG hb c3.gen⟩
    | running =>
      rw [(R.at hg (R.free hg rfl)).1]
      obtain ⟨rfl, rfl⟩ := h
      exact ⟨_, ⟨rfl, rfl⟩, R⟩
    | finished =>
      rw [(R.at hg (R.free hg rfl)).1]
      obtain ⟨rfl, rfl⟩ := h
      exact ⟨_, ⟨rfl, rfl⟩, R⟩

theorem wp_hush {α : Type} (M : Model) (Γ : Ctx) (t : Sem α) : ∀ (Q : α → Pos → Shared → Prop) (E : Value → Pos → Shared → Prop) (p : Pos) (s s1 : Shared), RB b s s1 → wp M Γ t Q E p s →
    wp M Γ t (fun a p' s1' => ∃ s', RB b s' s1' ∧ Q a p' s') (fun e p' s1' => ∃ s', RB b s' s1' ∧ E e p' s') p s1 := by
  induction t with
  | pure a => intro Q E p s s1 R h; exact ⟨s, R, h⟩
  | raise e => intro Q E p s s1 R h; exact ⟨s, R, h⟩
  | unsupported _ => intro Q E p s s1 _ h; exact h
  | finish _ => intro Q E p s s1 _ h; exact h
  | rule _ k ih => intro Q E p s s1 R h; exact ih () Q E p s s1 R h
  | «at» p' k ih => intro Q E p s s1 R h; exact ih () Q E p' s s1 R h
  | load a _ k ih => intro Q E p s s1 R h; obtain ⟨o, ho, h⟩ := h; exact ⟨o, by rw [← R.heap]; exact ho, ih o Q E p s s1 R h⟩
  | update a _ f k ih => intro Q E p s s1 R h; exact ⟨by rw [← R.heap]; exact h.1, by have h2 := ih () Q E p _ _ (R.setH _) h.2; rw [R.heap] at h2; exact h2⟩
  | loadIfAlive a k ih => intro Q E p s s1 R h; have h2 := ih _ Q E p s s1 R h; rw [R.heap] at h2; exact h2
  | point _ k ih => intro Q E p s s1 R h; exact ih () Q E p s s1 R h
  | register _ _ => intro Q E p s s1 _ h; exact h
  | alloc o k ih => intro Q E p s s1 R h; have h2 := ih _ Q E p _ _ (R.setH _) h; rw [R.heap] at h2; exact h2
  | fresh k ih => intro Q E p s s1 R h; have h2 := ih _ Q E p _ _ (R.setT _) h; rw [R.toks] at h2; exact h2
  | ask k ih => intro Q E p s s1 R h; exact ih _ Q E p s s1 R h
  | choose src m k ih => intro Q E p s s1 R h; exact ⟨h.1, by have h2 := ih _ Q E p _ _ (R.setD _) h.2; rw [R.drawn] at h2; exact h2⟩
  | os q _ k ih => intro Q E p s s1 R h; have h2 := ih _ Q E p _ _ (R.setO _) h; rw [R.os] at h2; exact h2
  | call c hd _ _ k ih =>
    intro Q E p s s1 R h
    obtain ⟨r, s', hr, h⟩ := h
    obtain ⟨s2, h2, R2, _⟩ := runs_hush hr s1 R rfl
    exact ⟨r, s2, h2, ih r Q E p s' s2 R2 h⟩
  | handled own k ih => intro Q E p s s1 R h; exact ih _ Q E p s s1 R h
  | genState g k ih =>
    intro Q E p s s1 R h
    obtain ⟨st, hs, h⟩ := h
    obtain ⟨y, hy, e⟩ := R.seen hs
    rw [← e] at h
    exact ⟨y, hy, ih _ Q E p s s1 R h⟩
  | newGen c k ih => intro Q E p s s1 R h; have h2 := ih _ Q E p _ _ (R.push c) h; rw [R.size] at h2; exact h2
  | resume g r _ k ih =>
    intro Q E p s s1 R h
    obtain ⟨res, s', hw, h⟩ := h
    obtain ⟨s2, h2, R2⟩ := wakes_hush R hw
    exact ⟨res, s2, h2, ih res Q E p s' s2 R2 h⟩
  | yield _ _ _ _ => intro Q E p s s1 _ h; exact h
  | stack k ih => intro Q E p s s1 R h; exact ih _ Q E p s s1 R h
  | fork _ _ => intro Q E p s s1 _ h; exact h
  | thread k ih => intro Q E p s s1 R h; exact ih _ Q E p s s1 R h
  | await _ _ _ _ _ => intro Q E p s s1 _ h; exact h

/-- all that sleep are hushed -/
def hushS (s : Shared) : Shared := { s with gens := s.gens.map hushG }
def sleepers (s : Shared) (i : Nat) : Option GenState := match s.gens[i]? with
  | some x => if GState.susp x then some x else none
  | none => none
theorem rb_hush (s : Shared) : RB (sleepers s) (hushS s) s := by
  have at_ : ∀ i : Nat, (hushS s).gens[i]? = (s.gens[i]?).map hushG := fun i => by
    show (s.gens.map hushG)[i]? = _
    rw [Array.getElem?_map]
  refine ⟨rfl, rfl, rfl, rfl, by show (s.gens.map hushG).size = _; rw [Array.size_map], fun i x e => ?_, fun i e => ?_⟩
  · unfold sleepers at e
    cases q : s.gens[i]? with
    | none => rw [q] at e; cases e
    | some y =>
      rw [q] at e
      dsimp only at e
      split at e
      · rename_i hs
        cases e
        exact ⟨hs, rfl, by rw [at_, q]; rfl⟩
      · cases e
  · rw [at_]
    unfold sleepers at e
    cases q : s.gens[i]? with
    | none => exact ⟨rfl, fun y hy => by cases hy⟩
    | some y =>
      rw [q] at e
      dsimp only at e
      split at e
      · cases e
      · rename_i hs
        refine ⟨?_, fun z hz => ?_⟩
        · cases y <;> first | rfl | exact (hs rfl).elim
        · cases hz
          cases y <;> first | trivial | exact (hs rfl).elim
/-- what holds of a run where all that sleep are hushed -/
theorem wpAny_asleep {α : Type} {M : Model} {A : Around} {t : Sem α} {Q Q' : α → Shared → Prop} {E E' : Value → Shared → Prop} {s : Shared} (hQ : ∀ a s' s1', RB (sleepers s) s' s1' → Q a s' → Q' a s1') (hE : ∀ e s' s1', RB (sleepers s) s' s1' → E e s' → E' e s1')
    (h : wpAny M A t Q E (hushS s)) : wpAny M A t Q' E' s := fun Γ p hΓ =>
  Sem.wp_mono M Γ t (fun a _ s1' ⟨s', r, q⟩ => hQ a s' s1' r q) (fun e _ s1' ⟨s', r, q⟩ => hE e s' s1' r q) p s (wp_hush M Γ t _ _ p _ s (rb_hush s) (h Γ p hΓ))
theorem hushS_bare {s : Shared} (h : PyProof.Rows.AllBare s.gens) : PyProof.Rows.AllBare (hushS s).gens := fun y hy => by
  obtain ⟨x, hx, e⟩ := Array.mem_map.mp (show y ∈ s.gens.map hushG from hy)
  rw [← e, hush_bare]
  exact h x hx
theorem RB.bare {s s1 : Shared} {s0 : Shared} (r : RB (sleepers s0) s s1) (h0 : PyProof.Rows.AllBare s0.gens) (h : PyProof.Rows.AllBare s.gens) : PyProof.Rows.AllBare s1.gens := fun y hy => by
  obtain ⟨i, hi, e⟩ := Array.mem_iff_getElem.mp hy
  have hy' : s1.gens[i]? = some y := by rw [Array.getElem?_eq_getElem hi, e]
  cases q : sleepers s0 i with
  | none =>
    obtain ⟨h1, _⟩ := r.oth i q
    exact h y (Array.mem_of_getElem? (h1.trans hy'))
  | some x =>
    obtain ⟨_, h2, _⟩ := r.msk i x q
    rw [hy'] at h2
    cases h2
    unfold sleepers at q
    cases z : s0.gens[i]? with
    | none => rw [z] at q; cases q
    | some w =>
      rw [z] at q
      dsimp only at q
      split at q
      · cases q; exact h0 y (Array.mem_of_getElem? z)
      · cases q
theorem RB.asleep {s s1 s0 : Shared} (r : RB (sleepers s0) s s1) {g : Nat} {x : GenState} (h : s0.gens[g]? = some x) (hx : GState.susp x = true) : s1.gens[g]? = some x :=
  (r.msk g x (by unfold sleepers; rw [h]; dsimp only; rw [if_pos hx])).2.1
end GenW

end

section
set_option maxRecDepth 100000
set_option maxHeartbeats 1000000
/-! a generator whose consumer runs between its items: its body -/
namespace L2
open PySem PySem.Spec PyProof.Rows GenW

def trunc (h : Heap) (n : Nat) : Heap := { h with objs := h.objs.extract 0 n }
theorem trunc_get {h : Heap} {n b : Nat} (hb : b < n) : (trunc h n).get? b = h.get? b := by
  have e : (trunc h n).objs[b]? = h.objs[b]? := by
    show (h.objs.extract 0 n)[b]? = _
    rw [Array.getElem?_extract]
    by_cases hl : b < h.objs.size
    · rw [if_pos (by rw [Nat.sub_zero]; exact Nat.lt_min.mpr ⟨hb, hl⟩), Nat.zero_add]
    · rw [if_neg (by rw [Nat.sub_zero]; exact fun z => hl (Nat.lt_min.mp z).2)]
      exact (Array.getElem?_eq_none (Nat.le_of_not_lt hl)).symm
  unfold Heap.get?
  rw [e]
theorem trunc_size {h : Heap} {n : Nat} : (trunc h n).objs.size = min n h.objs.size := by
  show (h.objs.extract 0 n).size = _
  rw [Array.size_extract, Nat.sub_zero]
theorem of_trunc {h : Heap} {n b : Nat} {o : Obj} (e : (trunc h n).get? b = some o) : h.get? b = some o ∧ b < n := by
  have hl : b < (trunc h n).objs.size := Heap.lt_size e
  rw [trunc_size] at hl
  have hb : b < n := Nat.lt_of_lt_of_le hl (Nat.min_le_left _ _)
  exact ⟨by rw [← trunc_get hb]; exact e, hb⟩

/-- the context of a generator's body -/
def gcx3 (P : Program) (w : World) (K : PySem.W.Frag) (mg : Str → Option Value) (base : Heap) (N : List Str) (env : Env) (A : Around) (outer : List Env) (pn : List (Addr × Obj)) (s : Shared) (H : Hp) (xe : Value → Shared → Prop) : Cx where
  prog := P
  w := w
  K := K
  mg := mg
  base := base
  A := A.deeper env
  N := N
  s_0 := s
  H_0 := H
  env := env
  outer := outer
  stack := env :: outer
  ex := []
  calm := true
  fn := fun _ => true
  pn := pn
  xe := xe
/-- .. since it was woken last; at Ex: what the consumer wants kept through a turn -/
abbrev gcx2 (P : Program) (w : World) (K : PySem.W.Frag) (mg : Str → Option Value) (base : Heap) (N : List Str) (env : Env) (A : Around) (outer : List Env) (pn : List (Addr × Obj)) (Ex : List Addr) (s : Shared) (H : Hp) : Cx :=
  gcx3 P w K mg base N env A outer (pn ++ pinsAt Ex s.heap) { s with heap := trunc s.heap env.locals } H fun _ _ => False

/-- its names: the parameters first; no cells -/
structure GScope2 (N P : List Str) (sc : Scope) : Prop where
  g : GScope N P sc
  nc : ∀ y ∈ sc.names, y.2 ≠ .cell

section
variable {P : Program} {w : World} {K : PySem.W.Frag} {mg : Str → Option Value} {base : Heap} {N : List Str} {env : Env} {A : Around} {outer : List Env} {pn : List (Addr × Obj)}
theorem funs_trunc {h : Heap} {n : Nat} : ∀ {l : List Env}, h.FunFrames base l → (∀ b ∈ frs l, b < n) → (trunc h n).FunFrames base l
  | [], _, _ => trivial
  | env :: rest, ⟨hk, ⟨L, o, hf, hn, ho, hd⟩, hr⟩, hs => by
    have hL : L ∈ frs (env :: rest) := by unfold frs; rw [List.filterMap_cons, hf]; exact List.mem_cons_self
    refine ⟨hk, ⟨L, o, hf, hn, by rw [trunc_get (hs L hL)]; exact ho, hd⟩, funs_trunc hr fun b hb => hs b ?_⟩
    unfold frs at hb ⊢
    rw [List.filterMap_cons, hf]
    exact List.mem_cons_of_mem _ hb
/-- woken again: all that it knows stands -/
theorem Inv.rebase {pn0 ip : List (Addr × Obj)} {Ex : List Addr} {σ : St} {s0 s s' : Shared} {H0 H H' : Hp} {xe : Value → Shared → Prop} (hc : env.cells = []) (I : Inv (gcx3 P w K mg base N env A outer pn0 s0 H0 xe) ip σ H s)
    (kl : ∀ o, s.heap.get? env.locals = some o → s'.heap.get? env.locals = some o) (kp : ∀ p ∈ pn ++ pinsAt Ex s'.heap ++ ip, s'.heap.get? p.1 = some p.2 ∧ H' p.1 = none ∧ p.1 ≠ env.locals ∧ p.1 ∉ frs outer ∧ ∀ v, p.2.data ≠ .cell v) (hfree : H' env.locals = none) (hok : HOk P w H' s'.heap) (hb : AllBare s'.gens)
    (bs : ∀ b o, base.get? b = some o → s'.heap.get? b = some o ∧ H' b = none) (hf : s'.heap.FunFrames base outer) (frf : ∀ b ∈ frs outer, H' b = none) : Inv (gcx2 P w K mg base N env A outer pn Ex s' H') ip σ H' s' := by
  obtain ⟨m, hn, hl⟩ := id I.loc
  obtain ⟨oL, es, ep, hoL, r⟩ := id hn
  have hL := kl _ hoL
  have lt : env.locals < s'.heap.objs.size := Heap.lt_size hL
  have above : s0.heap.objs.size ≤ env.locals := I.ok.above
  have b0 : ∀ b o, base.get? b = some o → b < env.locals := fun b o e => Nat.lt_of_lt_of_le (Heap.lt_size (I.ok.bs b o e).1) above
  have f0 : ∀ b ∈ frs outer, b < env.locals := fun b hb => by
    obtain ⟨_, o, ho, _⟩ := I.ok.funs.mem hb
    exact Nat.lt_of_lt_of_le (Heap.lt_size ho) above
  have nocell : ∀ x c, env.cells.lookup x = some c → False := fun x c e => by rw [hc] at e; cases e
  refine ⟨⟨I.ok.mod, I.ok.kind, I.ok.glob, I.ok.blt, ?_, I.ok.inj, I.ok.has, fun x c _ e => (nocell x c e).elim, I.ok.hd, I.ok.frames, I.ok.stk, fun b z => absurd (show b ∈ ([] : List Addr) from z) (by simp), fun b o e => ⟨?_, (bs b o e).2⟩, ?_, fun b o _ z => absurd (show b ∈ ([] : List Addr) from z) (by simp), fun b z => absurd (show b ∈ ([] : List Addr) from z) (by simp), funs_trunc hf f0, frf⟩,
    rfl, hb, ?_, ⟨m, ⟨oL, es, ep, hL, r⟩, fun i x v e1 e2 e3 => ?_⟩, fun x c e => (nocell x c e).elim, hfree, fun x c e => (nocell x c e).elim, kp, hok, I.len⟩
  · show (trunc s'.heap env.locals).objs.size ≤ env.locals
    rw [trunc_size]; exact Nat.min_le_left _ _
  · show (trunc s'.heap env.locals).get? b = some o
    rw [trunc_get (b0 b o e)]
    exact (bs b o e).1
  · show base.objs.size ≤ (trunc s'.heap env.locals).objs.size
    rw [trunc_size]
    have h1 : base.objs.size ≤ s0.heap.objs.size := I.ok.bsz
    exact Nat.le_min.mpr ⟨Nat.le_trans h1 above, Nat.le_trans (Nat.le_trans h1 above) (Nat.le_of_lt lt)⟩
  · refine ⟨fun b o e _ _ _ => (of_trunc e).1, fun b o e _ _ _ => ⟨o.slots, (of_trunc e).1⟩, fun _ _ _ n _ => n, fun b o e _ => ⟨o, (of_trunc e).1⟩, fun _ _ e => e, fun _ _ _ e => e, fun b ps e => ⟨#[], by rw [show H' b = _ from e]; simp⟩⟩
  · obtain ⟨u, ru, lk⟩ := hl i x v e1 e2 e3
    refine ⟨u, ru, ?_⟩
    rcases lk with lk | ⟨_, c, e, _⟩
    · exact .inl lk
    · exact (nocell x c e).elim

/-! ### the protocol -/
/-- what is agreed on: J: how the consumer stands when it asks for the next item; Rel: what the consumer may do to the heap meanwhile; yl: what is wanted of an item -/
structure GP (L : Nat) (Ex : List Addr) where
  J : List V → Hp → Shared → Prop
  Rel : Hp → Hp → Prop
  yl : List V → Hp → V → Hp → Prop
  old : ∀ ys H s, J ys H s → L ≤ s.heap.objs.size ∧ ∀ e ∈ Ex, ∃ o, s.heap.get? e = some o
variable {Ex : List Addr}
variable (P w K mg base N env A outer pn Ex) in
def GY2 (Z : GP env.locals Ex) : Protocol := fun n s₀ v s kap =>
  ∃ ys x ip σ H0 H1, n + 1 + ys.length = sizeLine ∧ Z.J ys H0 s₀ ∧ RelV x v ∧ Inv (gcx2 P w K mg base N env A outer pn Ex s₀ H0) ip σ H1 s ∧ Z.yl ys H0 x H1 ∧ (∀ p ∈ ip, p.1 ∉ Ex) ∧
    ∀ s' H', Z.J (ys ++ [x]) H' s' → Z.Rel H1 H' → Inv (gcx2 P w K mg base N env A outer pn Ex s' H') ip σ H' s' → kap (.send .none) s'
variable (P w K mg base N env A outer pn Ex) in
def GR2 (Z : GP env.locals Ex) (Q : List V → Hp → Hp → Prop) : GenEnd := fun n s₀ r s =>
  r = .ok (.ret .none) ∧ ∃ ys ip σ H0 H1, n + ys.length = sizeLine ∧ Z.J ys H0 s₀ ∧ Inv (gcx2 P w K mg base N env A outer pn Ex s₀ H0) ip σ H1 s ∧ Q ys H0 H1
structure GEnds2 where
  nx : List V → Hp → St → Hp → Prop
  rt : List V → Hp → VK
  bk : List V → Hp → St → Hp → Prop := fun _ _ _ _ => False
  ct : List V → Hp → St → Hp → Prop := fun _ _ _ _ => False
abbrev TG2 := (Hp → Hp → Prop) → (List V → Hp → V → Hp → Prop) → GEnds2 → List V → Hp → St → Hp → Prop
def GEnds2.at (D : GEnds2) (ys : List V) (H0 : Hp) : Ends := { nx := D.nx ys H0, rt := D.rt ys H0, bk := D.bk ys H0, ct := D.ct ys H0 }
variable (P w K mg base N env A outer pn Ex) in
def GSP2 (ip : List (Addr × Obj)) (s₀ : Shared) (H0 : Hp) (D : GEnds2) (ys : List V) (f : Flow) (s : Shared) : Prop := SP (gcx2 P w K mg base N env A outer pn Ex s₀ H0) ip (D.at ys H0) f s
variable (env A outer Ex) in
/-- where the generator's code stands -/
structure GC2 (ip : List (Addr × Obj)) (c : Code) (fs : List Frame) (gd : Bool → Bool) : Prop where
  ex : ∀ p ∈ ip, p.1 ∉ Ex
  over : A.over c fs = A.deeper env
  split : splitAtGen fs = none
  guard : fs.any Frame.guarded = false
  gd : gd false = false
variable (P w K mg base N env A outer pn Ex) in
/-- what follows -/
def GK2 (Z : GP env.locals Ex) (ip : List (Addr × Obj)) (R : GenEnd) (c : Code) (fs : List Frame) (Kf : Flow → Sem PySem.Fin) (D : GEnds2) : Prop :=
  ∀ (n : Nat) (ys : List V) (s₀ : Shared) (H0 : Hp) (s : Shared) (f : Flow), n + ys.length = sizeLine → Z.J ys H0 s₀ → GSP2 P w K mg base N env A outer pn Ex ip s₀ H0 D ys f s → Seg (model P w) A R (GY2 P w K mg base N env A outer pn Ex Z) n s₀ c (Kf f) fs s
variable (P w K mg base N env A outer pn Ex) in
structure GS2 (st : Stmt) (t : TG2) : Prop where
  run : ∀ (Z : GP env.locals Ex) (ip : List (Addr × Obj)) (R : GenEnd) (n : Nat) (ys : List V) (s₀ : Shared) (H0 : Hp) (c : Code) (fs : List Frame) (Kf : Flow → Sem PySem.Fin) (J : Value → Sem PySem.Fin) (gd : Bool → Bool) (lv : List Value → List Value) (s : Shared) (σ : St) (H : Hp) (D : GEnds2),
    GC2 env A Ex ip c fs gd → n + ys.length = sizeLine → GK2 P w K mg base N env A outer pn Ex Z ip R c fs Kf D → Z.J ys H0 s₀ → Inv (gcx2 P w K mg base N env A outer pn Ex s₀ H0) ip σ H s → t Z.Rel Z.yl D ys H0 σ H →
    Seg (model P w) A R (GY2 P w K mg base N env A outer pn Ex Z) n s₀ c ((exec st env).wrap Kf J gd lv) fs s
variable (P w K mg base N env A outer pn Ex) in
structure GSs2 (st : List Stmt) (t : TG2) : Prop where
  run : ∀ (Z : GP env.locals Ex) (ip : List (Addr × Obj)) (R : GenEnd) (n : Nat) (ys : List V) (s₀ : Shared) (H0 : Hp) (c : Code) (fs : List Frame) (Kf : Flow → Sem PySem.Fin) (J : Value → Sem PySem.Fin) (gd : Bool → Bool) (lv : List Value → List Value) (s : Shared) (σ : St) (H : Hp) (D : GEnds2),
    GC2 env A Ex ip c fs gd → n + ys.length = sizeLine → GK2 P w K mg base N env A outer pn Ex Z ip R c fs Kf D → Z.J ys H0 s₀ → Inv (gcx2 P w K mg base N env A outer pn Ex s₀ H0) ip σ H s → t Z.Rel Z.yl D ys H0 σ H →
    Seg (model P w) A R (GY2 P w K mg base N env A outer pn Ex Z) n s₀ c ((execs st env).wrap Kf J gd lv) fs s

variable {st : Stmt} {rest : List Stmt}
def tPlain2 (t : TS) : TG2 := fun _ _ D ys H0 σ H => t (D.at ys H0) σ H
theorem g2_ps {t : TS} (h : ∀ s H, PS (gcx2 P w K mg base N env A outer pn Ex s H) st t) : GS2 P w K mg base N env A outer pn Ex st (tPlain2 t) := by
  refine ⟨fun Z ip R n ys s₀ H0 c fs Kf J gd lv s σ H D g hn k hJ I ht => ?_⟩
  refine seg_wrap ?_
  rw [g.over]
  exact wpAny_mono ((h s₀ H0).run ip s σ H (D.at ys H0) I ht) (fun f s' hs => k n ys s₀ H0 s' f hn hJ hs) fun x s' hx => (show False from hx).elim
def tG20 : TG2 := fun _ _ D ys H0 σ H => D.nx ys H0 σ H
theorem g2_nil : GSs2 P w K mg base N env A outer pn Ex [] tG20 := by
  refine ⟨fun Z ip R n ys s₀ H0 c fs Kf J gd lv s σ H D g hn k hJ I ht => ?_⟩
  exact seg_execs_nil (k n ys s₀ H0 s .next hn hJ ⟨σ, H, I, ht⟩)
def tG2Then (t u : TG2) : TG2 := fun Rel yl D ys H0 σ H => t Rel yl { D with nx := fun ys' H0' σ' H' => u Rel yl D ys' H0' σ' H' } ys H0 σ H
theorem g2_cons {t u : TG2} (a : GS2 P w K mg base N env A outer pn Ex st t) (b : GSs2 P w K mg base N env A outer pn Ex rest u) : GSs2 P w K mg base N env A outer pn Ex (st :: rest) (tG2Then t u) := by
  refine ⟨fun Z ip R n ys s₀ H0 c fs Kf J gd lv s σ H D g hn k hJ I ht => ?_⟩
  refine seg_execs_cons ?_
  refine a.run Z ip R n ys s₀ H0 c fs _ J gd lv s σ H { D with nx := fun ys' H0' σ' H' => u Z.Rel Z.yl D ys' H0' σ' H' } g hn (fun n' ys' s₀' H0' s' f hn' hJ' hs => ?_) hJ I ht
  cases f with
  | next =>
    obtain ⟨σ', H', I', q⟩ := hs
    exact b.run Z ip R n' ys' s₀' H0' c fs Kf J gd lv s' σ' H' D g hn' k hJ' I' q
  | brk => exact k n' ys' s₀' H0' s' .brk hn' hJ' hs
  | cont => exact k n' ys' s₀' H0' s' .cont hn' hJ' hs
  | ret u => exact k n' ys' s₀' H0' s' (.ret u) hn' hJ' hs
/-! ### yield -/
def tG2Yield (te : TE) : TG2 := fun Rel yl D ys H0 σ H => ys.length < sizeLine ∧ te σ H fun x H1 => yl ys H0 x H1 ∧ ∀ H', Rel H1 H' → D.nx (ys ++ [x]) H' σ H'
theorem g2_yield {e : Expr} {yp pos : Pos} {te : TE} (he : ∀ s H, PE (gcx2 P w K mg base N env A outer pn Ex s H) e te) (hco : env.scope.isCoroutine = false) (hi : interactive env = false) : GS2 P w K mg base N env A outer pn Ex (.Expr (.Yield (some e) yp) pos) (tG2Yield te) := by
  refine ⟨fun Z ip R n ys s₀ H0 c fs Kf J gd lv s σ H D g hn k hJ I ht => ?_⟩
  obtain ⟨hlt, ht⟩ := ht
  obtain ⟨n, rfl⟩ : ∃ m, n = m + 1 := ⟨n - 1, by omega⟩
  refine seg_Expr_Yield g.split g.gd g.guard ?_ hco hi
  rw [g.over]
  refine wpAny_mono ((he s₀ H0).run ip s σ H _ I ht) (fun v s' hv => ?_) fun x s' hx => (show False from hx).elim
  obtain ⟨x, H1, I1, rv, q1, q2⟩ := hv
  intro kap hk
  refine ⟨ys, x, ip, σ, H0, H1, hn, hJ, rv, I1, q1, g.ex, fun s'' H' hJ' hR I' => hk .none s'' ?_⟩
  refine k n (ys ++ [x]) s'' H' s'' .next ?_ hJ' ⟨σ, H', I', q2 H' hR⟩
  rw [List.length_append, List.length_singleton]; omega
/-! ### for -/
def tG2For (wi : TI) (g : TG) (tb : TG2) : TG2 := fun Rel yl D ys H0 σ H => wi σ H fun Jt H1 => ∃ W : Nat → Nat → List V → Hp → St → Hp → Prop, (∃ m, W 0 m ys H0 σ H1) ∧ ∀ i m ys H0 σ H, W i m ys H0 σ H →
  (Jt.stop i H ∧ D.nx ys H0 σ H) ∨ (Jt.go i H ∧ ∃ N : List V → Hp → St → Hp → Prop, (∀ ys' H0' σ' H', N ys' H0' σ' H' → ∃ m', m' < m ∧ W (i + 1) m' ys' H0' σ' H') ∧ ∀ x H', Jt.yld i H x H' → g x σ H' fun σ2 H2 => tb Rel yl { D with nx := N, ct := N, bk := D.nx } ys H0 σ2 H2)
theorem gc2_loop {ip : List (Addr × Obj)} {c c' : Code} {fs : List Frame} {gd : Bool → Bool} {k : Result → Sem PySem.Fin} {l kp : List Value} {p : Pos} (g : GC2 env A Ex ip c fs gd) (hw : c'.weight = 0) (hu : c'.cUnits = 0) : GC2 env A Ex ip c' (.ret k none (gd false) l c p kp :: fs) id where
  ex := g.ex
  over := (over_loop hw hu).trans g.over
  split := by
    show (splitAtGen fs).map _ = none
    rw [g.split]; rfl
  guard := by
    show (gd false || fs.any Frame.guarded) = false
    rw [g.gd, g.guard]; rfl
  gd := rfl
theorem g2_for {tg iter : Expr} {body : List Stmt} {pos : Pos} {wi : TI} {g : TG} {tb : TG2} (hi : ∀ s H, PI (gcx2 P w K mg base N env A outer pn Ex s H) tg iter wi) (hg : ∀ s H, PG (gcx2 P w K mg base N env A outer pn Ex s H) tg g) (hb : GSs2 P w K mg base N env A outer pn Ex body tb)
    (hs : ∀ x, foldedSetIterable iter env x = pure x := by intro _; rfl) : GS2 P w K mg base N env A outer pn Ex (.For tg iter body [] pos) (tG2For wi g tb) := by
  refine ⟨fun Z ip R n ys s₀ H0 c fs Kf J gd lv s σ H D gc hn k hJ I0 ht => ?_⟩
  refine seg_For hs ?_
  rw [gc.over]
  refine wpAny_mono ((hi s₀ H0).run ip s σ H _ I0 ht) (fun v s1 h1 => wpAny_mono h1 (fun itv s2 h2 => ?_) fun x s' hx => (show False from hx).elim) fun x s' hx => (show False from hx).elim
  obtain ⟨it, fp, tn, Jt, H2, e, I2, T, st2, f2, W, ⟨m0, w0⟩, turn⟩ := h2
  subst e
  intro p
  have exF : ∀ b ∈ fp, b ∉ Ex := fun b hb hm => by
    obtain ⟨o, e⟩ := (Z.old ys H0 s₀ hJ).2 b hm
    exact (f2 b hb).2.2.2.2.2 (b, o) (List.mem_append_left _ (List.mem_append_right _ (mem_pinsAt hm e))) rfl
  have cl : ∀ {s₀' : Shared} {H0' H' : Hp}, (∀ b ∈ fp, H' b = none) → ∀ b ∈ fp, FpOk (gcx2 P w K mg base N env A outer pn Ex s₀' H0') ip H' b := fun {s₀' H0' H'} hn b hb =>
    ⟨hn b hb, (f2 b hb).2.1, (f2 b hb).2.2.1, .inr (by
      show (trunc _ env.locals).objs.size ≤ b
      rw [trunc_size]
      refine Nat.le_trans (Nat.min_le_left _ _) ?_
      rcases (f2 b hb).2.2.2.1 with z | z
      · exact absurd (show b ∈ ([] : List Addr) from z) (by simp)
      · have z : (trunc s₀.heap env.locals).objs.size ≤ b := z
        rw [trunc_size, Nat.min_eq_left (Z.old ys H0 s₀ hJ).1] at z
        exact z), (f2 b hb).2.2.2.2.1, fun p hp => by
      rcases List.mem_append.mp hp with z | z
      · rcases List.mem_append.mp (show p ∈ pn ++ pinsAt Ex s₀'.heap from z) with z | z
        · exact (f2 b hb).2.2.2.2.2 p (List.mem_append_left _ (List.mem_append_left _ z))
        · exact fun e => exF b hb (by rw [← e]; exact (of_pinsAt z).1)
      · exact (f2 b hb).2.2.2.2.2 p (List.mem_append_right _ z)⟩
  have gl := fun (kk : Result → Sem PySem.Fin) => gc2_loop (k := kk) (c' := .forLoop tg (.ref it) body [] env) (l := lv []) (kp := []) (p := p) gc rfl rfl
  have loop : ∀ (m i n : Nat) (ys : List V) (s₀ : Shared) (H0 : Hp) (s : Shared) (σ : St) (H : Hp), n + ys.length = sizeLine → Z.J ys H0 s₀ → W i m ys H0 σ H → Inv (gcx2 P w K mg base N env A outer pn Ex s₀ H0) ip σ H s → tn i s.heap → (∀ b ∈ fp, H b = none) →
      Seg (model P w) A R (GY2 P w K mg base N env A outer pn Ex Z) n s₀ (.forLoop tg (.ref it) body [] env) ((model P w).den (.forLoop tg (.ref it) body [] env))
        (.ret (fun r => ((match r with | .ok f => (.pure f : Sem Flow) | .error e => .raise e).onRaise (cameBack env)).wrap Kf J gd lv) none (gd false) (lv []) c p [] :: fs) s := by
    intro m
    induction m using Nat.strongRecOn with
    | ind m ih =>
      intro i n ys s₀ H0 s σ H hn hJ w hI ht fr
      refine seg_forLoop ?_
      rw [(gl _).over]
      rcases turn i m ys H0 σ H w with ⟨stop, qn⟩ | ⟨go, N', hN, step⟩
      · refine wpAny_mono (T.done (gcx2 P _ K mg base N env A outer pn Ex s₀ H0) rfl rfl rfl rfl i ip s σ H (fun _ _ => False) hI (cl fr) ht stop) (fun rr s4 hr => ?_) fun x s' hx => hx.elim
        obtain ⟨hr, I4⟩ := hr
        subst hr
        refine seg_again rfl ?_
        exact seg_leaf (.ok .next) (k n ys s₀ H0 s4 .next hn hJ ⟨σ, H, I4, qn⟩)
      · refine wpAny_mono (T.item (gcx2 P _ K mg base N env A outer pn Ex s₀ H0) rfl rfl rfl rfl i ip s σ H (fun _ _ => False) hI (cl fr) ht go) (fun rr s4 hr => ?_) fun x s' hx => hx.elim
        obtain ⟨u, hr, h4⟩ := hr
        subst hr
        refine wpAny_mono h4 (fun _ s5 h5 => ?_) fun x s' hx => hx.elim
        obtain ⟨x, H5, I5, r5, y5, st5, fr5⟩ := h5
        have I5' := I5.pinned (cl fr5) (T.obj _ _ st5)
        refine wpAny_mono ((hg s₀ H0).run _ s5 σ H5 x u _ I5' r5 (step x H5 y5)) (fun _ s6 h6 => ?_) fun x s' hx => (show False from hx).elim
        obtain ⟨σ6, H6, I6, q6⟩ := h6
        have again : ∀ {n' : Nat} {ys' : List V} {s₀' : Shared} {H0' : Hp} {s3 : Shared} {σ7 : St} {H7 : Hp}, n' + ys'.length = sizeLine → Z.J ys' H0' s₀' → Inv (gcx2 P _ K mg base N env A outer pn Ex s₀' H0') (ip ++ pinsAt fp s5.heap) σ7 H7 s3 → N' ys' H0' σ7 H7 →
            Seg (model P _) A R (GY2 P _ K mg base N env A outer pn Ex Z) n' s₀' (.forLoop tg (.ref it) body [] env) (.pure (.again (.forLoop tg (.ref it) body [] env)))
              (.ret (fun r => ((match r with | .ok f => (.pure f : Sem Flow) | .error e => .raise e).onRaise (cameBack env)).wrap Kf J gd lv) none (gd false) (lv []) c p [] :: fs) s3 := fun {n' ys' s₀' H0' s3 σ7 H7} hn' hJ' I7 n7 => by
          obtain ⟨m', hm, w7⟩ := hN ys' H0' σ7 H7 n7
          refine seg_again rfl (ih m' hm (i + 1) n' ys' s₀' H0' s3 σ7 H7 hn' hJ' w7 (Inv.unpinned I7) (T.keep _ _ _ st5 fun b hb o e => (I7.pin (b, o) (List.mem_append_right _ (List.mem_append_right _ (mem_pinsAt hb e)))).1) fun b hb => ?_)
          obtain ⟨o, e, d⟩ := T.obj _ _ st5 b hb
          exact (I7.pin (b, o) (List.mem_append_right _ (List.mem_append_right _ (mem_pinsAt hb e)))).2.1
        have gl2 : GC2 env A Ex (ip ++ pinsAt fp s5.heap) (.forLoop tg (.ref it) body [] env) (.ret (fun r => ((match r with | .ok f => (.pure f : Sem Flow) | .error e => .raise e).onRaise (cameBack env)).wrap Kf J gd lv) none (gd false) (lv []) c p [] :: fs) id :=
          ⟨fun q hq => (List.mem_append.mp hq).elim (fun z => gc.ex q z) (fun z => exF _ (of_pinsAt z).1), (gl _).over, (gl _).split, (gl _).guard, rfl⟩
        refine hb.run Z (ip ++ pinsAt fp s5.heap) R n ys s₀ H0 _ _ _ _ id id s6 σ6 H6 { D with nx := N', ct := N', bk := D.nx } gl2 hn (fun n' ys' s₀' H0' s3 f hn' hJ' hs => ?_) hJ I6 q6
        cases f with
        | next =>
          obtain ⟨σ3, H3, I3, n3⟩ := hs
          exact again hn' hJ' I3 n3
        | cont =>
          obtain ⟨σ3, H3, I3, n3⟩ := hs
          exact again hn' hJ' I3 n3
        | brk =>
          obtain ⟨σ3, H3, I3, q3⟩ := hs
          exact seg_leaf (.ok .next) (k n' ys' s₀' H0' s3 .next hn' hJ' ⟨σ3, H3, Inv.unpinned I3, q3⟩)
        | ret v =>
          obtain ⟨x3, σ3, H3, I3, r3, q3⟩ := hs
          exact seg_leaf (.ok (.ret v)) (k n' ys' s₀' H0' s3 (.ret v) hn' hJ' ⟨x3, σ3, H3, Inv.unpinned I3, r3, q3⟩)
  exact loop m0 0 n ys s₀ H0 s2 σ H2 hn hJ w0 I2 st2 fun b hb => (f2 b hb).1
end
end L2

end

section
set_option maxRecDepth 100000
set_option maxHeartbeats 1000000
/-! a generator whose consumer runs between its items: its call, next, `for .. in gen(..)` -/
namespace PySem
open Sem (wp)
def goesOn (M : Model) (A : Around) (R : GenEnd) (Y : Protocol) (gs : GenState) : Nat → Resume → Shared → Prop
  | 0 => fun _ _ => False
  | m + 1 => fun r s => gs.Goes M A R Y m r s
section
variable {M : Model}
theorem wpAny_resume2 {A : Around} {R : GenEnd} {Y : Protocol} {n : Nat} {E : Value → Shared → Prop} {s : Shared} {g : Nat} {gs : GenState}
    {r : Resume} {l : List Value} {α : Type} {k : GenResult → Sem α} {Q : α → Shared → Prop} (hg : s.gens[g]? = some gs)
    (hgo : gs.Goes M A R Y n r (s.setGen g .running))
    (hR : ∀ x s₁, R n (s.setGen g .running) x s₁ → wpAny M A (k (End.ret x).result) Q E (s₁.setGen g .finished))
    (hY : ∀ v s₁ gs', gs'.bare = true → GenW.GState.susp gs' = true → Y (n - 1) (s.setGen g .running) v s₁ (goesOn M A R Y gs' n) →
      wpAny M A (k (.yielded v)) Q E (s₁.setGen g gs')) :
    wpAny M A (.resume g r l k) Q E s := by
  intro Γ p hΓ
  rw [Sem.wp_resume]
  have hB : ∀ c, (Γ.wake c p).Woken A := fun c => hΓ.wake c p
  have fin : ∀ e₁ s₁, SegEnd R Y n (Seg.next M A R Y n) (s.setGen g .running) e₁ s₁ →
      wp M Γ (k e₁.result) (fun a _ s' => Q a s') (fun e _ s' => E e s') p (s₁.setGen g e₁.genState) := by
    intro e₁ s₁ he
    cases e₁ with
    | ret x => exact hR x s₁ he Γ p hΓ
    | susp v g₀ l₀ k₀ c₀ p₀ fs₀ =>
      refine hY v s₁ _ (End.bare_of_quiet he.1) rfl ?_ Γ p hΓ
      cases n with
      | zero => exact he.2
      | succ m => exact he.2
  have hqt : ∀ e₁ s₁, SegEnd R Y n (Seg.next M A R Y n) (s.setGen g .running) e₁ s₁ → e₁.quiet = true := by
    intro e₁ s₁ he
    cases e₁ with
    | ret x => rfl
    | susp v g₀ l₀ k₀ c₀ p₀ fs₀ => exact he.1
  cases gs with
  | fresh c =>
    obtain ⟨rfl, hs⟩ := hgo
    obtain ⟨e₁, s₁, hr, he⟩ := seg_iff.mp hs (Γ.wake c p) p rfl (hB c)
    exact ⟨_, _, by unfold Wakes; rw [hg]; exact ⟨e₁, s₁, hr, hqt e₁ s₁ he, rfl, rfl⟩, fin e₁ s₁ he⟩
  | suspended k₀ l₀ c₀ p₀ fs₀ cl =>
    obtain ⟨e₁, s₁, hr, he⟩ := seg_iff.mp hgo (Γ.wake c₀ p) p₀ rfl (hB c₀)
    exact ⟨_, _, by unfold Wakes; rw [hg]; exact ⟨e₁, s₁, hr, hqt e₁ s₁ he, rfl, rfl⟩, fin e₁ s₁ he⟩
  | running => exact hgo.elim
  | finished => exact hgo.elim
end
end PySem
namespace L2
open PySem PySem.Spec PyProof.Rows GenW
section
variable {P : Program} {w : World} {A : Around} {E : Value → Shared → Prop} {s : Shared}
theorem next_gen2 {a : Addr} {g n : Nat} {gs : GenState} {R : GenEnd} {Y : Protocol} {Q : Option Value → Shared → Prop} (hh : A.handled = none)
    (hl : s.heap.NoLimit) (hroom : A.depth < recursionLimit) (hg : s.heap.IsGen a g) (hgs : s.gens[g]? = some gs)
    (hgo : gs.Goes (model P w) A.in1 R Y n (.send .none) (s.setGen g .running)) (hr : ∀ n s₀ r s₁, R n s₀ r s₁ → r = .ok (.ret .none))
    (hY : ∀ v s₁ gs', gs'.bare = true → GenW.GState.susp gs' = true → Y (n - 1) (s.setGen g .running) v s₁ (goesOn (model P w) A.in1 R Y gs' n) → Q (some v) (s₁.setGen g gs'))
    (hP : ∀ s₁, R n (s.setGen g .running) (.ok (.ret .none)) s₁ → ∀ h', (∀ b o, s₁.heap.get? b = some o → h'.get? b = some o) → Q none { s₁.setGen g .finished with heap := h' }) :
    wpAny (model P w) A (pyNext (.ref a)) Q E s := by
  unfold pyNext
  refine wpAny_bind (wpAny_attempt (wpAny_callSpecial?_slot (name := Str.ofString "__next__") hg.typeIs slot_gen_next
    (wpAny_call_entry slot_gen_next hg.typeIs entry_gen_next ?_ (args_gen_next _))))
  show wpAny _ A.in1 (Builtin.Generator.genWake (.ref a) (.send .none)) _ _ s
  unfold Builtin.Generator.genWake
  refine wpAny_bind (wpAny_holding (wpAny_genNumber hg (wpAny_bind (wpAny_genState hgs ?_))))
  cases gs with
  | running => exact hgo.elim
  | finished => exact hgo.elim
  | _ =>
    refine wpAny_bind (wpAny_roomToWake hl hroom ?_)
    show wpAny _ A.in1 (.resume g (.send .none) [] _) _ _ s
    refine wpAny_resume2 hgs hgo (fun x s₁ hx => ?_) (fun v s₁ gs' hb hsu hv => ?_)
    · obtain rfl := hr _ _ _ _ hx
      show wpAny _ A.in1 (newExc (.type "StopIteration") [] >>= _) _ _ _
      refine wpAny_bind ?_
      simp only [newExc, newTuple]
      refine wpAny_bind (wpAny_newObj_type ?_ (by size_fits))
      refine wpAny_bind (m := firstArgMember _ _) (wpAny_of_eq (a := Value.none) (by first | rfl | (simp only [firstArgMember]; rfl)) ?_)
      refine wpAny_newObj_type ?_ (by size_fits)
      simp only [raiseNew]
      refine wpAny_bind (wpAny_bind (wpAny_handled ?_))
      first | rw [show A.in1.handled = none from hh] | rw [hh]
      refine wpAny_throw ?_
      refine wpAny_bind (wpAny_isInstance (T := "StopIteration") (b := true) ⟨_, Heap.get?_push_size _ rfl, rfl⟩ isSubtype_stop ?_)
      exact wpAny_pure (hP s₁ hx _ fun b o hb => Heap.get?_push_of_some _ (Heap.get?_push_of_some _ hb))
    · exact wpAny_pure ⟨v, rfl, wpAny_pure (hY v s₁ gs' hb hsu hv)⟩
end

/-- a generator def's promise: the arguments, the heap; what the consumer may do meanwhile, what is wanted of an item, of the end -/
abbrev SpG2 := List V → Hp → (Hp → Hp → Prop) → (List V → Hp → V → Hp → Prop) → (List V → Hp → Hp → Prop) → Prop
/-- a generator that has not begun: it may be woken in any heap where its promise is taken -/
def GMade2 (P : Program) (w : World) (K : PySem.W.Frag) (mg : Str → Option Value) (base : Heap) (k : Nat) (outer : List Env) (sp : SpG2) (vs : List V) (s : Shared) (u : Value) (s' : Shared) : Prop :=
  ∃ (a : Addr) (g : Nat) (c : Code) (N : List Str) (env : Env) (go oL : Obj), u = .ref a ∧ s.heap.objs.size < a ∧ (∀ h : Heap, h.get? a = some go → h.IsGen a g) ∧ s'.heap.get? a = some go ∧ s'.gens[g]? = some (.fresh c) ∧ s'.os = s.os ∧ AllBare s'.gens ∧
    (∀ b o, s.heap.get? b = some o → s'.heap.get? b = some o) ∧ env.locals = s.heap.objs.size ∧ env.cells = [] ∧ s'.heap.get? env.locals = some oL ∧ (∀ v, oL.data ≠ .cell v) ∧
    ∀ (A : Around) (J : List V → Hp → Shared → Prop) Rel yl Q (Ex : List Addr) (old : ∀ ys H s, J ys H s → env.locals ≤ s.heap.objs.size ∧ ∀ e ∈ Ex, ∃ o, s.heap.get? e = some o) (s2 : Shared) (H2 : Hp), Room k A → A.frames = some outer → s2.heap.get? a = some go → s2.heap.get? env.locals = some oL → H2 a = none → H2 env.locals = none →
      HOk P w H2 s2.heap → AllBare s2.gens → (∀ b o, base.get? b = some o → s2.heap.get? b = some o ∧ H2 b = none) → s2.heap.FunFrames base outer → (∀ b ∈ frs outer, H2 b = none) → (∀ p ∈ pinsAt Ex s2.heap, H2 p.1 = none ∧ p.1 ≠ env.locals ∧ p.1 ∉ frs outer ∧ ∀ v, p.2.data ≠ .cell v) → sp vs H2 Rel yl Q → J [] H2 s2 →
      Seg (model P w) A (GR2 P w K mg base N env A outer [(a, go)] Ex ⟨J, Rel, yl, old⟩ Q) (GY2 P w K mg base N env A outer [(a, go)] Ex ⟨J, Rel, yl, old⟩) sizeLine s2 c ((model P w).den c) [] s2
structure GFn2 (P : Program) (w : World) (K : PySem.W.Frag) (mg : Str → Option Value) (base : Heap) (k : Nat) (f : Addr) (fd : FuncData) (ps : List Str) (sp : SpG2) : Prop where
  run : ∀ (A : Around) (outer : List Env) (s : Shared) (H : Hp) (args : Args) (us : List Value) (vs : List V), Room k A → Env0 P w K mg base A outer s H → BindsTo s fd args (ps.zip us) → Vals vs us → vs.length = ps.length →
    codeAny (model P w) A (.call (.ref f) args) (fun r s' => match r with | .ok (.ret u) => GMade2 P w K mg base k outer sp vs s u s' | _ => False) s

theorem no_cells : ∀ {names : List (Str × NameKind)} {n : Nat}, (∀ y ∈ names, y.2 ≠ .cell) → cellsFrom n names [] = []
  | [], _, _ => rfl
  | (x, k) :: r, n, h => by
    have hk : (k == NameKind.cell) = false := by
      have := h (x, k) List.mem_cons_self
      cases k <;> first | rfl | exact absurd rfl this
    show (if (k == NameKind.cell) = true then _ else _) = _
    rw [hk, if_neg Bool.false_ne_true]
    exact no_cells fun y hy => h y (List.mem_cons_of_mem _ hy)

/-- THE RULE: a generator def, by its body -/
theorem gfn2_of {P : Program} {w : World} {K : PySem.W.Frag} {mg : Str → Option Value} {base : Heap} {k : Nat} {f : Addr} {name qual : Str} {params : Arguments} {body : List Stmt} {scope : Scope} {dV kV doc pm cdv ct oc : Value} {an od : Option Addr}
    {osl : Array (Option Value)} {N ps : List Str} {sp : SpG2} (lk : K.lookup f = some ⟨oc, od, .func (PySem.W.fnOf name qual params body scope dV kV doc pm an cdv ct), osl⟩) (hcd : PySem.W.codeIn K cdv qual = true) (S2 : GScope2 N ps scope)
    (hbody : ∀ (A : Around) (outer : List Env) (L : Nat) (H : Hp) (vs : List V) Rel yl (Q : List V → Hp → Hp → Prop) (pn : List (Addr × Obj)) (Ex : List Addr), Room k (A.deeper (envOfC qual scope L f cdv)) → sp vs H Rel yl Q →
      ∃ t : TG2, GSs2 P w K mg base N (envOfC qual scope L f cdv) A outer pn Ex body t ∧ t Rel yl { nx := fun ys H0 _ H' => Q ys H0 H', rt := fun ys H0 v H' => v = .non ∧ Q ys H0 H' } [] H (start N vs) H) :
    GFn2 P w K mg base (k + 1) f (PySem.W.fnOf name qual params body scope dV kV doc pm an cdv ct) ps sp := by
  have S := S2.g
  refine ⟨fun A outer s H args us vs hr e0 hb r hl => ?_⟩
  have KX : K.In s.heap := e0.mod.kin.keeps fun b o e => (e0.bs b o e).1
  have lim : s.heap.NoLimit := e0.mod.nolimit.keeps fun b o e => (e0.bs b o e).1
  have hkind : ∀ y ∈ ps.zip us, scope.names.lookup y.1 = some .local ∨ (scope.names.lookup y.1 = some .cell ∧ ((cellsFrom (s.heap.objs.size + 1) scope.names []).lookup y.1).isSome = true) := fun ⟨n, v⟩ hy => by
    rcases S.par n (List.of_mem_zip hy).1 with q | q
    · exact .inl q
    · exact .inr ⟨q, PySem.W.cellsFrom_some _ _ _ (.inl q)⟩
  refine codeAny_call_generator hr.depth (KX _ _ lk) rfl S.co S.gen rfl (PySem.W.codeRec_of KX hcd) (hb _ _ _ _ ?_)
  refine wpAny_newFunctionEnv_cells S.kind hkind fun env he s1 x => ?_
  subst he
  have lim1 : s1.heap.NoLimit := lim.keeps x.toInCall.keep
  refine ⟨lim1, ?_⟩
  obtain ⟨h1, tk, es1, hk1⟩ := x.done
  have os1 : s1.os = s.os := by rw [es1]
  have gen1 : s1.gens = s.gens := by rw [es1]
  have lt1 : s.heap.objs.size < s1.heap.objs.size := x.toInCall.ns.lt
  have sz1 : s.heap.objs.size ≤ s1.heap.objs.size := Nat.le_of_lt lt1
  have kp1 : ∀ b o, s.heap.get? b = some o → s1.heap.get? b = some o := x.toInCall.keep
  have main : ∀ (go : Obj) (nm qn : Value) (tk2 : Nat), go.cls = .type "generator" → go.data = .fields #[.int s1.gens.size 0, nm, qn] → go.slots = #[] → (∀ h : Heap, (h.push go).get? h.objs.size = some go) →
      GMade2 P w K mg base (k + 1) outer sp vs s (.ref s1.heap.objs.size) { s1 with gens := s1.gens.push (.fresh (.func body (envOfC qual scope s.heap.objs.size f cdv))), toks := tk2, heap := s1.heap.push go } := by
    intro go nm qn tk2 hgc hgd0 hgs hgp
    have hgen : ∀ h : Heap, h.get? s1.heap.objs.size = some go → h.IsGen s1.heap.objs.size s1.gens.size := fun h e => ⟨go, nm, qn, e, hgc, hgd0, hgs⟩
    have hpushed : (s1.heap.push go).get? s1.heap.objs.size = some go := hgp _
    have I1 : Inv (gcxOf P w K mg base N qual scope f cdv A outer s H (fun _ _ _ => False) []) [] (start N vs) H s1 := inv_startG S hr.hd e0 hl r x
    obtain ⟨mL, hnL, hlL⟩ := id I1.loc
    obtain ⟨oL, esL, epL, hoL, hdL, rL⟩ := id hnL
    refine ⟨s1.heap.objs.size, s1.gens.size, _, N, envOfC qual scope s.heap.objs.size f cdv, go, oL, rfl, lt1, hgen, hpushed, Array.getElem?_push_size .., os1, ?_, fun b o e => Heap.get?_push_of_some _ (kp1 b o e), rfl, no_cells S2.nc, Heap.get?_push_of_some _ hoL, fun v q => (by rw [hdL] at q; cases q), ?_⟩
    · exact AllBare.push (by rw [gen1]; exact e0.bare) rfl
    intro Aw J Rel yl Q Ex old s2 H2 hrw hfr hea heL hna hnL2 hok2 hba hbs hfu hff hEx hsp hJ
    have e0w : Env0 P w K mg base Aw outer s H := ⟨hfr, e0.mod, e0.bs, e0.bsz, e0.funs, e0.frf, e0.hok, e0.bare⟩
    obtain ⟨t, ht, hq⟩ := hbody Aw outer s.heap.objs.size H2 vs Rel yl Q [(s1.heap.objs.size, go)] Ex (hrw.deeper _) hsp
    have I2 : Inv (gcxOf P w K mg base N qual scope f cdv Aw outer s H (fun _ _ _ => False) []) [] (start N vs) H s1 := inv_startG S hrw.hd e0w hl r x
    have hI : Inv (gcx2 P w K mg base N (envOfC qual scope s.heap.objs.size f cdv) Aw outer [(s1.heap.objs.size, go)] Ex s2 H2) [] (start N vs) H2 s2 := by
      refine Inv.rebase (pn0 := []) (s0 := s) (H0 := H) (xe := _) (no_cells S2.nc) (show Inv (gcx3 P w K mg base N (envOfC qual scope s.heap.objs.size f cdv) Aw outer [] s H _) [] (start N vs) H s1 from I2) (fun o e => ?_) (fun p hp => ?_) hnL2 hok2 hba hbs hfu hff
      · have e' : oL = o := Option.some.inj (hoL.symm.trans e)
        rw [← e']; exact heL
      · rw [List.append_nil] at hp
        rcases List.mem_append.mp hp with hp | hp
        case inr => exact ⟨(of_pinsAt hp).2, hEx p hp⟩
        rw [List.mem_singleton.mp hp]
        exact ⟨hea, hna, Nat.ne_of_gt lt1, I1.nofs (Nat.le_refl _), fun v q => by rw [hgd0] at q; cases q⟩
    refine seg_func ?_
    refine ht.run ⟨J, Rel, yl, old⟩ [] _ sizeLine [] s2 H2 _ [] _ _ id id s2 (start N vs) H2 _ ⟨fun p hp => (by simp at hp), over_func, rfl, rfl, rfl⟩ (Nat.add_zero _) (fun n ys s₀ H0 s' fl hn hJ' hs => ?_) hJ hI hq
    cases fl with
    | next =>
      obtain ⟨σ', H', hI', hQ⟩ := hs
      exact seg_end (.ok (.ret .none)) ⟨rfl, ys, [], σ', H0, H', hn, hJ', hI', hQ⟩
    | brk => obtain ⟨_, _, _, q⟩ := hs; exact False.elim q
    | cont => obtain ⟨_, _, _, q⟩ := hs; exact False.elim q
    | ret u =>
      obtain ⟨v, σ', H', hI', rv, ev, hQ⟩ := hs
      subst ev
      have eu : u = Value.none := rv
      subst eu
      exact seg_end (.ok (.ret .none)) ⟨rfl, ys, [], σ', H0, H', hn, hJ', hI', hQ⟩
  exact main _ _ _ _ rfl rfl rfl fun h => Heap.get?_push_size _ rfl

/-! ### the call -/
section
variable {X : Cx} {k : Nat} {f : Addr} {fd : FuncData} {ps : List Str} {sp : SpG2} {dvs : List V} {ds : List Value} {x : Str} {p pos : Pos}
abbrev TGen2 := L2.St → Hp → (List V → Hp → Prop) → Prop
structure PGen2 (X : Cx) (k : Nat) (sp : SpG2) (e : Expr) (tg : TGen2) : Prop where
  run : ∀ (pins : List (Addr × Obj)) (s : Shared) (σ : L2.St) (H : Hp) W0, Inv X pins σ H s → tg σ H W0 → wpAny (model X.prog X.w) X.A (eval e X.env)
    (fun u s' => ∃ H1 sc vs, Inv X pins σ H1 sc ∧ W0 vs H1 ∧ GMade2 X.prog X.w X.K X.mg X.base k X.stack sp vs sc u s') X.xe s
def tCallG2 (n : Nat) (dvs : List V) (t : TA) : TGen2 := fun σ H W0 => t σ H fun vs H1 => (vs ++ dvs).length = n ∧ W0 (vs ++ dvs) H1
theorem run_gfn2 {pins : List (Addr × Obj)} {σ : L2.St} {H : Hp} {s : Shared} {us : List Value} {vs : List V} {W0 : List V → Hp → Prop} {E1 : Value → Shared → Prop} (F : GFn2 X.prog X.w X.K X.mg X.base k f fd ps sp) (hr : Room k X.A) (hb : Binds X.K fd ps ds) (hd : Vals dvs ds)
    (I : Inv X pins σ H s) (r : Vals vs us) (hl : (vs ++ dvs).length = ps.length) (hw : W0 (vs ++ dvs) H) :
    wpAny (model X.prog X.w) X.A (call (.ref f) us) (fun u s' => ∃ H1 sc vs, Inv X pins σ H1 sc ∧ W0 vs H1 ∧ GMade2 X.prog X.w X.K X.mg X.base k X.stack sp vs sc u s') E1 s := by
  have r2 : Vals (vs ++ dvs) (us ++ ds) := r.append hd
  have hl2 : (us ++ ds).length = ps.length := by rw [← r2.length]; exact hl
  refine wpAny_call (codeAny_mono (F.run X.A X.stack s H ⟨us, []⟩ (us ++ ds) (vs ++ dvs) hr I.env0 (hb s us I.kIn hl2) r2 hl) fun r s' hq => ?_)
  cases r with
  | error e => exact False.elim hq
  | ok fl =>
    cases fl with
    | ret u => exact ⟨H, s, _, I, hw, hq⟩
    | next => exact False.elim hq
    | brk => exact False.elim hq
    | cont => exact False.elim hq
/-- f(e, ..) of a generator def -/
theorem pgen2_call {e : Expr} {es : List Expr} {t : TA} (F : GFn2 X.prog X.w X.K X.mg X.base k f fd ps sp) (hr : Room k X.A) (hg : Gl X x) (hm : X.mg x = some (.ref f)) (hk : PySem.W.keepIn X.K (.ref f) = true) (hb : Binds X.K fd ps ds) (hd : Vals dvs ds)
    (ha : PA X (e :: es) t) (hdb : (x == ("__debug__" : Str)) = false := by decide) (he : starEach (e :: es) X.env = (false, eval e X.env) :: starEach es X.env := by rfl) (hpl : (backTo pos (starEach es X.env)).any (·.1) = false := by rfl) :
    PGen2 X k sp (.Call (.Name x p) (e :: es) [] pos) (tCallG2 ps.length dvs t) := by
  refine ⟨fun pins s σ H W0 I h => ?_⟩
  refine wpAny_Call_Name_kw (ld_glob I hg hm ?_ hdb)
  refine PySem.W.callWith_K (h₀ := X.base) I.ok.mod.kin hk (thn (ha.run pos pins s σ H _ I h) fun us s1 ⟨vs, H1, I1, r, hl, hw⟩ => ⟨I1.kIn, ?_⟩) he hpl
  exact run_gfn2 F hr hb hd I1 r hl hw

/-! ### for .. in gen(..) -/
/-- what is wanted of an exception stays when the sleepers are told -/
def XeR (X : Cx) : Prop := ∀ (b : Nat → Option GenState) (e : Value) (s s1 : Shared), RB b s s1 → X.xe e s → X.xe e s1
theorem xer_never {M : Model} {A : Around} {env : Env} (hx : X.xe = fun e s' => wpAny M A (leaving env e) (fun _ _ => False) (fun _ _ => False) s') : XeR X := fun b e s s1 r h => by
  rw [hx] at h ⊢
  exact fun Γ p hΓ => Sem.wp_mono M Γ _ (fun _ _ _ ⟨_, _, q⟩ => q) (fun _ _ _ ⟨_, _, q⟩ => q) p s1 (wp_hush M Γ _ _ _ p s s1 r (h Γ p hΓ))
theorem Inv.regen {pins : List (Addr × Obj)} {σ : St} {H : Hp} {s s1 : Shared} (I : Inv X pins σ H s) (hh : s1.heap = s.heap) (ho : s1.os = s.os) (hb : AllBare s1.gens) : Inv X pins σ H s1 := by
  obtain ⟨h, g, d, t, o⟩ := s
  obtain ⟨h1, g1, d1, t1, o1⟩ := s1
  have e1 : h1 = h := hh
  have e2 : o1 = o := ho
  subst e1 e2
  exact ⟨I.ok, I.os, hb, I.base, I.loc, I.cell, I.free, I.freeC, I.pin, I.hok, I.len⟩
theorem Inv.told {pins : List (Addr × Obj)} {σ : St} {H : Hp} {s0 s s1 : Shared} (I : Inv X pins σ H s) (r : RB (sleepers s0) s s1) (h0 : AllBare s0.gens) : Inv X pins σ H s1 := I.regen r.heap.symm r.os.symm (r.bare h0 I.bare)
/-- behind a turn of the generator: the consumer's own view -/
theorem Inv.behind {Ex : List Addr} {N : List Str} {env : Env} {A : Around} {pn pins ip : List (Addr × Obj)} {σ σg : St} {H0 H1 : Hp} {s₀ s1 : Shared} (I : Inv X pins σ H0 s₀) (Ig : Inv (gcx2 X.prog X.w X.K X.mg X.base N env A X.stack pn Ex s₀ H0) ip σg H1 s1)
    (hp : ∀ p ∈ X.pn ++ pins, p.1 < env.locals) (hL : X.env.locals < env.locals) (hc : ∀ x c, X.env.cells.lookup x = some c → c < env.locals) : Inv X pins σ H1 s1 := by
  have old : ∀ {b o}, s₀.heap.get? b = some o → b ∉ (List.range s₀.heap.objs.size).filter (fun b => decide (env.locals ≤ b)) → (trunc s₀.heap env.locals).get? b = some o := fun {b o} e hb => by
    have hl : b < env.locals := by
      rcases Nat.lt_or_ge b env.locals with z | z
      · exact z
      · exact absurd (List.mem_filter.mpr ⟨List.mem_range.mpr (Heap.lt_size e), decide_eq_true z⟩) hb
    rw [trunc_get hl]; exact e
  have B : Un (frs X.stack) [] H0 H1 (trunc s₀.heap env.locals) s1.heap := Ig.base
  refine I.call' (ch := (List.range s₀.heap.objs.size).filter fun b => decide (env.locals ≤ b)) Ig.os ⟨fun b o e n hb hx => B.keep b o (old e hx) n hb (by simp), fun b o e n hb hx => B.slot b o (old e hx) n hb (by simp), fun b o e n hx => B.free b o (old e hx) n (by simp), fun b o e hx => B.there b o (old e hx) (by simp), B.tups, B.frzs, B.tbls⟩ Ig.hok Ig.bare fun b hb => ?_
  have hge : env.locals ≤ b := of_decide_eq_true (List.mem_filter.mp hb).2
  refine ⟨.inr (Nat.le_trans I.ok.above (Nat.le_of_lt (Nat.lt_of_lt_of_le hL hge))), Nat.ne_of_gt (Nat.lt_of_lt_of_le hL hge), fun x c e => Nat.ne_of_lt (Nat.lt_of_lt_of_le (hc x c e) hge), fun p h => Nat.ne_of_lt (Nat.lt_of_lt_of_le (hp p h) hge)⟩
/-- for target in gen(..): W: how the slots and the heap stand when so much is handed out -/
def tForG (tg : TGen2) (sp : SpG2) (g : TG) (tb : TS) : TS := fun D σ H => tg σ H fun vs H1 => ∃ (W : List V → St → Hp → Prop) (Rel : Hp → Hp → Prop) (yl : List V → Hp → V → Hp → Prop) (Q : List V → Hp → Hp → Prop), W [] σ H1 ∧ sp vs H1 Rel yl Q ∧
  (∀ ys σ H0 x H1, W ys σ H0 → yl ys H0 x H1 → g x σ H1 fun σ2 H2 => tb { D with nx := fun σ3 H3 => W (ys ++ [x]) σ3 H3 ∧ Rel H1 H3, ct := fun σ3 H3 => W (ys ++ [x]) σ3 H3 ∧ Rel H1 H3, bk := D.nx } σ2 H2) ∧
  (∀ ys σ H0 H1, W ys σ H0 → Q ys H0 H1 → D.nx σ H1)
theorem ps_forG {tg iter : Expr} {body : List Stmt} {tgen : TGen2} {g : TG} {tb : TS} {pos : Pos} (hp : PassesOwn (model X.prog X.w) X.A X.env X.xe) (hx : XeR X) (hst : X.stack = X.env :: X.outer) (hf : X.env.frame = some X.env.locals) (hr : Room (k + 1) X.A) (hi : PGen2 X k sp iter tgen) (hg : PG X tg g) (hb : PSs X body tb)
    (hs : ∀ x, foldedSetIterable iter X.env x = pure x := by intro _; rfl) : PS X (.For tg iter body [] pos) (tForG tgen sp g tb) := by
  refine ⟨fun pins s σ H D I h => ?_⟩
  refine wpAny_For (thn (hi.run pins s σ H _ I h) fun v s1 ⟨H1, sc, vs, I1, ⟨W, Rel, yl, Q, w1, hsp, hstep, hend⟩, hG⟩ => ?_) hs
  obtain ⟨a, gn, c, N, env, go, oL0, rfl, ha, hgen, hea, hgs, hos, hba, hkp, hL, hcl, heL, hcL, wake⟩ := hG
  refine wpAny_pyIter_gen (hgen _ hea) ?_
  have pb : ∀ p ∈ X.pn ++ pins, p.1 < env.locals := fun p hp => by rw [hL]; exact Heap.lt_size (I1.pin p hp).1
  have lb : X.env.locals < env.locals := by rw [hL]; exact I1.lt
  have cb : ∀ x c, X.env.cells.lookup x = some c → c < env.locals := fun x c e => by
    rw [hL]
    obtain ⟨v, z⟩ := I1.cell x c e
    exact z.lt
  have I1' : Inv X pins σ H1 s1 := I1.call' (ch := []) hos (Un.kept hkp) (I1.hok.kept hkp) hba fun b z => by simp at z
  have sz1 : env.locals ≤ s1.heap.objs.size := by
    rw [hL]
    exact Nat.le_trans (Nat.le_of_lt ha) (Nat.le_of_lt (Heap.lt_size hea))
  -- how the consumer stands
  obtain ⟨J, hJ⟩ : ∃ J : List V → Hp → Shared → Prop, J = fun ys H s => (∃ σ, Inv X pins σ H s ∧ W ys σ H) ∧ env.locals ≤ s.heap.objs.size := ⟨_, rfl⟩
  have old : ∀ ys H s, J ys H s → env.locals ≤ s.heap.objs.size ∧ ∀ e ∈ ([] : List Addr), ∃ o, s.heap.get? e = some o := fun ys H s z => by rw [hJ] at z; exact ⟨z.2, fun e he => by simp at he⟩
  have hAf : X.A.in1.frames = some X.stack := I1.ok.frames
  have ru : ∀ {s : Shared} {x : GenState}, AllBare s.gens → x.bare = true → AllBare (s.setGen gn x).gens := fun h hx => allBare_setGen h hx
  refine codeAny_forLoop_any (fun n s' => ∃ ys σ' H' gs, Inv X pins σ' H' s' ∧ W ys σ' H' ∧ env.locals ≤ s'.heap.objs.size ∧ s'.heap.get? a = some go ∧ s'.gens[gn]? = some gs ∧
    gs.Goes (model X.prog X.w) X.A.in1 (GR2 X.prog X.w X.K X.mg X.base N env X.A.in1 X.stack [(a, go)] [] ⟨J, Rel, yl, old⟩ Q) (GY2 X.prog X.w X.K X.mg X.base N env X.A.in1 X.stack [(a, go)] [] ⟨J, Rel, yl, old⟩) n (.send .none) (s'.setGen gn .running)) ?_ sizeLine
    ⟨[], σ, H1, _, I1', w1, sz1, hea, hgs, rfl, wake X.A.in1 J Rel yl Q [] old _ H1 hr.in1 hAf hea heL (I1.hok.fresh (Nat.le_of_lt ha)) (by rw [hL]; exact I1.hok.fresh (Nat.le_refl _)) I1'.hok (ru hba rfl) I1'.bs I1'.stack I1'.stkFree (fun p hp => by simp [pinsAt] at hp) hsp (by rw [hJ]; exact ⟨⟨σ, I1'.regen rfl rfl (ru hba rfl), w1⟩, sz1⟩)⟩
  rintro n s3 ⟨ys3, σ3, H3, gs3, I3, w3, sz3, ea3, eg3, go3⟩
  have hgl : gn + 1 ≤ s3.gens.size := (Array.getElem?_eq_some_iff.mp eg3).1
  refine wpAny_passesOwn hp (wpAny_gsz (n := gn + 1) hgl (next_gen2 (A := X.A) hr.hd I3.nolimit hr.depth (hgen _ ea3) eg3 go3 (fun n s₀ r s₁ z => z.1) (fun v s4 gs' hbare hsusp hy => ?_) fun s4 hR h' hk => ?_))
  · intro hsz
    obtain ⟨ys, x, ip, σg, H0, H4, hn, hJ0, rv, Ig, hyl, _, hkap⟩ := hy
    have hJ0' : J ys H0 (s3.setGen gn .running) := hJ0
    rw [hJ] at hJ0'
    obtain ⟨⟨σ0, I0, w0⟩, _⟩ := hJ0'
    have I4 : Inv X pins σ0 H4 s4 := I0.behind Ig pb lb cb
    obtain ⟨mL, hnL, _⟩ := id Ig.loc
    obtain ⟨oL, esL, epL, hoL, hdL, rL⟩ := id hnL
    have nL : env.locals ∉ frs X.stack := fun hb => by
      obtain ⟨_, o, ho, _⟩ := Ig.ok.funs.mem hb
      exact absurd (of_trunc ho).2 (Nat.lt_irrefl _)
    have stL : X.env.locals ∈ frs X.stack := by rw [hst]; unfold frs; rw [List.filterMap_cons, hf]; exact List.mem_cons_self
    have stF : ∀ b, b ∉ frs X.stack → b ≠ X.env.locals ∧ b ∉ X.fs := fun b hb => ⟨fun z => hb (by rw [z]; exact stL), fun z => hb (by
      rw [hst]; unfold frs; rw [List.filterMap_cons, hf]; exact List.mem_cons_of_mem _ z)⟩
    -- what the generator knows is pinned
    have I5 : Inv X (pins ++ ((env.locals, oL) :: ([(a, go)] ++ ip))) σ0 H4 s4 := I4.pins_of fun p hp => by
      rcases List.mem_append.mp hp with z | z
      · exact I4.pin p (List.mem_append_right _ z)
      · rcases List.mem_cons.mp z with z | z
        · rw [z]
          exact ⟨hoL, Ig.free, (stF _ nL).1, (stF _ nL).2, fun v q => by rw [hdL] at q; cases q⟩
        · obtain ⟨q1, q2, q3, q4, q5⟩ := Ig.pin p z
          exact ⟨q1, q2, (stF _ q4).1, (stF _ q4).2, q5⟩
    have hb4 : AllBare (s4.setGen gn gs').gens := ru Ig.bare hbare
    have eg4 : (s4.setGen gn gs').gens[gn]? = some gs' := by
      refine setGen_at ?_
      rw [setGen_size] at hsz
      exact hsz
    have I6 : Inv X (pins ++ ((env.locals, oL) :: ([(a, go)] ++ ip))) σ0 H4 (s4.setGen gn gs') := I5.regen rfl rfl hb4
    have ea4 : (s4.setGen gn gs').heap.get? a = some go := (I6.pin (a, go) (List.mem_append_right _ (List.mem_append_right _ (List.mem_cons_of_mem _ (List.mem_append_left _ (List.mem_singleton.mpr rfl)))))).1
    show wpAny _ _ (letOwnedTupleGo tg (.ref a) v) _ _ (s4.setGen gn gs')
    obtain ⟨oG, nm, qn, hoG, hcG, hdG, _⟩ := hgen _ ea4
    refine wpAny_passesOwn hp (go_of hoG hcG hdG (by decide) ?_)
    refine wpAny_passesOwn hp (wpAny_asleep (fun _ s6 s6' rb q => ?_) (fun e s6 s6' rb q => hx _ e s6 s6' rb q) (hg.run _ (hushS (s4.setGen gn gs')) σ0 H4 x v _ (I6.regen rfl rfl (hushS_bare hb4)) rv (hstep ys σ0 H0 x H4 w0 hyl)))
    obtain ⟨σ6, H6, J6, q6⟩ := q
    have I7 := J6.told rb hb4
    have eg7 := rb.asleep eg4 hsusp
    refine wpAny_passesOwn hp (wpAny_asleep (fun f s8 s8' rb8 q8 => ?_) (fun e s8 s8' rb8 q => hx _ e s8 s8' rb8 q) (hb.run _ (hushS s6') σ6 H6 _ (I7.regen rfl rfl (hushS_bare I7.bare)) q6))
    have again : ∀ {σ8 : St} {H8 : Hp}, Inv X (pins ++ ((env.locals, oL) :: ([(a, go)] ++ ip))) σ8 H8 s8 → W (ys ++ [x]) σ8 H8 ∧ Rel H4 H8 → ∃ m, m < n ∧ ∃ ys σ' H' gs, Inv X pins σ' H' s8' ∧ W ys σ' H' ∧ env.locals ≤ s8'.heap.objs.size ∧ s8'.heap.get? a = some go ∧ s8'.gens[gn]? = some gs ∧
        gs.Goes (model X.prog X.w) X.A.in1 (GR2 X.prog X.w X.K X.mg X.base N env X.A.in1 X.stack [(a, go)] [] ⟨J, Rel, yl, old⟩ Q) (GY2 X.prog X.w X.K X.mg X.base N env X.A.in1 X.stack [(a, go)] [] ⟨J, Rel, yl, old⟩) m (.send .none) (s8'.setGen gn .running) := fun {σ8 H8} J8 ⟨w8, rel8⟩ => by
      have I8 := J8.told rb8 I7.bare
      have eg8 := rb8.asleep eg7 hsusp
      have pinL := I8.pin (env.locals, oL) (List.mem_append_right _ (List.mem_append_right _ List.mem_cons_self))
      have sz8 : env.locals ≤ s8'.heap.objs.size := Nat.le_of_lt (Heap.lt_size pinL.1)
      have hb8 : AllBare (s8'.setGen gn .running).gens := ru I8.bare rfl
      have hk := hkap (s8'.setGen gn .running) H8 (by
        show J _ _ _
        rw [hJ]; exact ⟨⟨σ8, I8.unpinned.regen rfl rfl hb8, w8⟩, sz8⟩) rel8
        (Inv.rebase hcl Ig (fun o e => by
          have e' : oL = o := Option.some.inj (hoL.symm.trans e)
          rw [← e']; exact pinL.1) (fun p hp => by
            obtain ⟨_, _, q3, q4, q5⟩ := Ig.pin p hp
            obtain ⟨z1, z2, _⟩ := I8.pin p (List.mem_append_right _ (List.mem_append_right _ (List.mem_cons_of_mem _ hp)))
            exact ⟨z1, z2, q3, q4, q5⟩) pinL.2.1 I8.hok hb8 I8.bs I8.stack I8.stkFree)
      cases n with
      | zero => exact hk.elim
      | succ m => exact ⟨m, Nat.lt_succ_self _, ys ++ [x], σ8, H8, gs', I8.unpinned, w8, sz8, (I8.pin (a, go) (List.mem_append_right _ (List.mem_append_right _ (List.mem_cons_of_mem _ (List.mem_append_left _ (List.mem_singleton.mpr rfl)))))).1, eg8, hk⟩
    cases f with
    | next => obtain ⟨σ8, H8, J8, q9⟩ := q8; exact again J8 q9
    | cont => obtain ⟨σ8, H8, J8, q9⟩ := q8; exact again J8 q9
    | brk => obtain ⟨σ8, H8, J8, q9⟩ := q8; exact ⟨σ8, H8, (J8.told rb8 I7.bare).unpinned, q9⟩
    | ret v => obtain ⟨x8, σ8, H8, J8, r8, q9⟩ := q8; exact ⟨x8, σ8, H8, (J8.told rb8 I7.bare).unpinned, r8, q9⟩
  · intro _
    obtain ⟨_, ys, ip, σg, H0, H4, hn, hJ0, Ig, hQ⟩ := hR
    have hJ0' : J ys H0 (s3.setGen gn .running) := hJ0
    rw [hJ] at hJ0'
    obtain ⟨⟨σ0, I0, w0⟩, _⟩ := hJ0'
    have I4 : Inv X pins σ0 H4 s4 := I0.behind Ig pb lb cb
    refine wpAny_execs_nil ⟨σ0, H4, ?_, hend ys σ0 H0 H4 w0 hQ⟩
    exact (I4.kept (t' := s4.toks) hk).regen rfl rfl (ru Ig.bare rfl)
end
end L2

end

section
set_option maxRecDepth 100000
set_option maxHeartbeats 4000000
/-! trace, its consumer running between the items -/
namespace Sw
open PySem PySem.Spec PyProof.Rows L2 SwA
/-- all but these places stands -/
def KeepB (bad : List Addr) (H H' : Hp) : Prop := ∀ b o, b ∉ bad → H b = some o → H' b = some o
def AreL (bad : List Addr) (H : Hp) : Prop := ∀ b ∈ bad, ∃ xs, H b = some (.lst xs)
theorem KeepB.same {bad : List Addr} {H H' : Hp} (s : Same H H') : KeepB bad H H' := fun b o _ e => s b o e
theorem KeepB.trans {bad : List Addr} {H H1 H' : Hp} (a : KeepB bad H H1) (b : KeepB bad H1 H') : KeepB bad H H' := fun x o n e => b x o n (a x o n e)
theorem AreL.same {bad : List Addr} {H H' : Hp} (h : AreL bad H) (s : Same H H') : AreL bad H' := fun b hb => let ⟨xs, e⟩ := h b hb; ⟨xs, s _ _ e⟩
theorem AreL.not {bad : List Addr} {H : Hp} (h : AreL bad H) {a : Addr} {o : HO} (e : H a = some o) (n : ∀ xs, o ≠ .lst xs) : a ∉ bad := fun z => by
  obtain ⟨xs, q⟩ := h a z
  rw [e] at q; cases q
  exact n xs rfl
/-- the heap without these places -/
def cutE (H : Hp) (bad : List Addr) : Hp := fun b => if b ∈ bad then none else H b
theorem cutE_out {H : Hp} {bad : List Addr} {a : Addr} {o : HO} (h : a ∉ bad) (e : H a = some o) : cutE H bad a = some o := (if_neg h).trans e
theorem KeepB.cut {bad : List Addr} {H H' : Hp} (k : KeepB bad H H') : Same (cutE H bad) H' := fun a o e => by
  unfold cutE at e
  split at e
  · cases e
  · rename_i h
    exact k a o h e
section
variable {K : PySem.W.Frag} {H : Hp} {bad : List Addr}
theorem StateAt.cutE (hb : AreL bad H) {a : Addr} {st : MSt} (h : StateAt K H a st) : StateAt K (cutE H bad) a st :=
  let ⟨dx, fa, ra, ras, e1, e2, e3, e4⟩ := h
  ⟨dx, fa, ra, ras, cutE_out (hb.not e1 fun _ z => nomatch z) e1, cutE_out (hb.not e2 fun _ z => nomatch z) e2, cutE_out (hb.not e3 fun _ z => nomatch z) e3, Paired.mapP e4 fun _ _ q => cutE_out (hb.not q fun _ z => nomatch z) q⟩
theorem TickAt.cutE (hb : AreL bad H) {a : Addr} {tk : TickM} (h : TickAt K H a tk) : TickAt K (cutE H bad) a tk :=
  let ⟨dx, sw, wo, sa, e1, e2, e3, e4⟩ := h
  ⟨dx, sw, wo, sa, cutE_out (hb.not e1 fun _ z => nomatch z) e1, e2.mono fun _ z => cutE_out (hb.not z fun _ z => nomatch z) z, cutE_out (hb.not e3 fun _ z => nomatch z) e3, e4.cutE hb⟩
theorem StoryAt.cutE (hb : ∀ b ∈ bad, H b = some (.lst [])) {a : Addr} {pl : Plan} {n s : Nat} (h : StoryAt K H a pl n s) : StoryAt K (cutE H bad) a pl n s := by
  have hl : AreL bad H := fun b z => ⟨[], hb b z⟩
  obtain ⟨dx, tl, tas, e1, e2, e3, e4, e5⟩ := h
  refine ⟨dx, tl, tas, cutE_out (hl.not e1 fun _ z => nomatch z) e1, cutE_out (fun z => ?_) e2, Paired.mapP e3 fun _ _ q => q.cutE hl, e4, e5⟩
  have q := hb tl z
  rw [e2] at q
  have hn := tas_len e3
  have hlt := e4.lt
  cases tas with
  | nil => exact absurd hn (by show (0 : Nat) ≠ n; omega)
  | cons a b => cases q
end
theorem trace_at (pl : Plan) (first : Nat) {i j : Nat} : ∀ {m : Nat}, i < m → j < (trc1 (first + i) (tkN pl (first + i))).length → (traceM pl first m)[(traceM pl first i).length + j]? = (trc1 (first + i) (tkN pl (first + i)))[j]?
  | 0, h, _ => absurd h (Nat.not_lt_zero _)
  | m + 1, h, hj => by
    rw [trace_succ]
    by_cases e : i = m
    · subst e
      rw [List.getElem?_append_right (Nat.le_add_right _ _), Nat.add_sub_cancel_left]
    · have hi : i < m := by omega
      have := trace_at pl first (m := m) hi hj
      rw [List.getElem?_append_left]
      · exact this
      · exact (List.getElem?_eq_some_iff.mp (this.trans (List.getElem?_eq_getElem hj))).1
theorem g2for_it {J : It} {n : Nat} {G : Hp → Prop} {Y : Nat → Hp → V → Hp → Prop} (w : Walk J n G Y) {g : TG} {tb : TG2} {Rel : Hp → Hp → Prop} {yl : List V → Hp → V → Hp → Prop} {D : GEnds2} {ys : List V} {H0 : Hp} {σ : L2.St} {H : Hp} (Pv : Nat → List V → Hp → L2.St → Hp → Prop) (h0 : Pv 0 ys H0 σ H) (hG : ∀ i ys H0 σ H, i ≤ n → Pv i ys H0 σ H → G H)
    (hs : ∀ i x ys H0 σ H H', i < n → Pv i ys H0 σ H → Y i H x H' → g x σ H' fun σ2 H2 => tb Rel yl { D with nx := Pv (i + 1), ct := Pv (i + 1), bk := D.nx } ys H0 σ2 H2) (hd : ∀ ys H0 σ H, Pv n ys H0 σ H → D.nx ys H0 σ H) :
    ∃ W : Nat → Nat → List V → Hp → L2.St → Hp → Prop, (∃ m, W 0 m ys H0 σ H) ∧ ∀ i m ys H0 σ H, W i m ys H0 σ H →
      (J.stop i H ∧ D.nx ys H0 σ H) ∨ (J.go i H ∧ ∃ N : List V → Hp → L2.St → Hp → Prop, (∀ ys' H0' σ' H', N ys' H0' σ' H' → ∃ m', m' < m ∧ W (i + 1) m' ys' H0' σ' H') ∧ ∀ x H', J.yld i H x H' → g x σ H' fun σ2 H2 => tb Rel yl { D with nx := N, ct := N, bk := D.nx } ys H0 σ2 H2) := by
  refine ⟨fun i m ys H0 σ H => m = n - i ∧ i ≤ n ∧ Pv i ys H0 σ H, ⟨n, by simp, Nat.zero_le _, h0⟩, ?_⟩
  rintro i m ys H0 σ H ⟨rfl, hi, p⟩
  have q := hG i ys H0 σ H hi p
  by_cases hlt : i < n
  · exact .inr ⟨w.goes i H hlt q, Pv (i + 1), fun ys' H0' σ' H' p' => ⟨n - (i + 1), by omega, rfl, hlt, p'⟩, fun x H' y => hs i x ys H0 σ H H' hlt p (w.yields i H x H' hlt q y)⟩
  · obtain rfl : i = n := by omega
    exact .inl ⟨w.stops H q, hd ys H0 σ H p⟩
section
variable {P : Program} {w : World} {K : PySem.W.Frag} {mg : Str → Option Value} {base : Heap}
/-- bad: the (then empty) lists that the consumer may fill between the items -/
def spTrace2 : SpG2 := fun vs H Rel yl Q => ∃ (text : Cs) (pl : Plan) (first m : Nat) (bad : List Addr), vs = [sV text, .int first, .int ((first : Int) + (m : Int) - 1)] ∧ Reads text pl ∧ WfP pl ∧ Early pl 20000 ∧ first ≤ 1000000000000000000 ∧ first + m ≤ 1000000000000000001 ∧ m ≤ 500 ∧
  (∀ b ∈ bad, H b = some (.lst [])) ∧ (∀ H1 H2, Rel H1 H2 → KeepB bad H1 H2 ∧ AreL bad H2) ∧
  (∀ x ys H0 H1 a, (traceM pl first m)[ys.length]? = some x → Same H0 H1 → H0 a = none → H a = none → TrcAt H1 a x → yl ys H0 (.ref a) H1) ∧
  (∀ ys H0 H1, ys.length = (traceM pl first m).length → Same H0 H1 → Q ys H0 H1)
theorem sc_tra2 : GScope2 trN ["plan", "first", "last"] (defScope s_trace) := ⟨sc_tra, by decide +kernel⟩
theorem ok_tra2 (T : TraT K mg) : ∃ fd, GFn2 P w K mg base 10 (He.fAd K ("trace", none)) fd ["plan", "first", "last"] spTrace2 ∧ Binds K fd ["plan", "first", "last"] [] ∧ PySem.W.keepIn K (.ref (He.fAd K ("trace", none))) = true := by
  obtain ⟨fd, F⟩ := T.tr.d
  obtain ⟨fdL, GL, bL, kL⟩ := ok_read (P := P) (w := w) (base := base) T.c.h.s.m.lo
  obtain ⟨fdC, GC, bC, kC⟩ := ok_ckt (P := P) (w := w) (base := base) T.c
  obtain ⟨fdS, GS, bS, kS⟩ := ok_story (P := P) (w := w) (base := base) T.c.h.s
  obtain ⟨fdH, GH, bH, kH⟩ := ok_happens (P := P) (w := w) (base := base) T.c.h
  obtain ⟨fdI, GI, bI, kI⟩ := ok_is_int_in (P := P) (w := w) (base := base) T.c.h.s.m
  obtain ⟨tMT, mMT⟩ := T.c.MAXT
  obtain ⟨tMR, mMR⟩ := T.MAXR
  have kp := F.kp
  have bn := F.bindsN (ps := ["plan", "first", "last"]) fun _ _ _ _ _ _ us hl => match us, hl with | [_, _, _], _ => rfl
  obtain ⟨oc, od, dV, kV, doc, pm, an, cd, ct, osl, rfl, lk, hcd, _, _⟩ := F.ex
  refine ⟨_, gfn2_of lk hcd sc_tra2 (fun A outer L H vs Rel yl Q pn Ex hr h => ?_), bn, kp⟩
  · obtain ⟨text, pl, first, m, bad, rfl, hR, wf, hea, h1, h2, h3, hbad, hRel, hyl, k⟩ := h
    have hr1 : Room 1 _ := hr.mono (by decide)
    have hr2 : Room 2 _ := hr.mono (by decide)
    have hr3 : Room 3 _ := hr.mono (by decide)
    have hr6 : Room 6 _ := hr.mono (by decide)
    have hr8 : Room 8 _ := hr.mono (by decide)
    refine ⟨_, (g2_cons (g2_ps fun _ _ => (ps_set (i := 3) sc_tra.nd rfl (.inl rfl) (pe_call GL hr8 rfl T.c.h.s.m.lo.g_load kL bL .nil pass0 (pa_cons (pv 0) pa_nil))))
      (g2_cons (g2_ps fun _ _ => (ps_expr (pe_call GC hr2 rfl T.c.ck.g kC bC .nil pass0 (pa_cons (pv 1) pa_nil))))
      (g2_cons (g2_ps fun _ _ => (ps_if (pt_not (pt_val (pe_call GI hr1 rfl T.c.h.s.m.is_int_in.g kI bI .nil pass0 (pa_cons (pv 2) (pa_cons (pe_op op_sub (pv 1) pe_int) (pa_cons (pe_callB (call_min2 rfl) (by rfl) T.min (by decide +kernel) (pa_cons (pe_glob (v := .int 1000000000000000000) rfl mMT ⟨_, rfl⟩) (pa_cons (pe_op op_sub (pe_op op_add (pv 1) (pe_glob (v := .int 500) rfl mMR ⟨_, rfl⟩)) pe_int) pa_nil))) pa_nil))))))
        (pss_one ps_no) pss_nil))
      (g2_cons (g2_ps fun _ _ => (ps_set (i := 4) sc_tra.nd rfl (.inl rfl) (pe_make T.c.h.s.sto.m GS hr6 rfl T.c.h.s.sto.g bS .nil pass0 (pa_cons (pv 3) pa_nil))))
      (g2_cons (g2_for (fun s0 H0 => (pi_range2 (by rfl) T.range (pa_cons (pv 1) (pa_cons (pe_op op_add (pv 2) pe_int) pa_nil)))) (fun _ _ => (pg_name (i := 5) sc_tra.nd rfl (.inl rfl))) 
        (g2_cons (g2_ps fun _ _ => (ps_set (i := 6) sc_tra.nd rfl (.inl rfl) (pe_meth (pv 4) T.c.h.s.sto.c T.c.h.happens.m GH hr3 bH .nil pass0 (pa_cons (pv 5) pa_nil))))
        (g2_cons (g2_for (wi := iEnumZ K (tCons (tFld K (tVar 6) "swept") (tCons (tFld K (tVar 6) "words") tNil))) (g := gTup K 2 (gCons (gName 7) (gCons (gTup K 2 (gCons (gName 8) (gCons (gName 9) gNil))) gNil))) (fun s0 H0 => (pi_enumZ (X := gcx2 P w K mg base trN _ A outer pn Ex s0 H0) (by rfl) T.enumerate (by rfl) T.zip (pa_cons (pe_fld (pv 6) rfl) (pa_cons (pe_fld (pv 6) rfl) pa_nil)))) (fun _ _ => (pg_tup rfl (pgs_cons (pg_name (i := 7) sc_tra.nd rfl (.inl rfl)) (pgs_cons (pg_tup rfl (pgs_cons (pg_name (i := 8) sc_tra.nd rfl (.inl rfl)) (pgs_cons (pg_name (i := 9) sc_tra.nd rfl (.inl rfl)) pgs_nil))) pgs_nil)))) 
          (g2_cons (g2_yield (fun _ _ => (pe_tup (pa_cons (pv 5) (pa_cons (pv 7) (pa_cons (pv 8) (pa_cons (pv 9) pa_nil)))))) rfl rfl)
          g2_nil))
        g2_nil)))
      g2_nil))))), ?_⟩
    refine ⟨_, rfl, text, pl, rfl, hR, fun pa H1 npa s1 hpl => ?_⟩
    refine ⟨_, rfl, first, rfl, h1, ?_⟩
    have hI : isIntIn (.int ((first : Int) + (m : Int) - 1)) ((first : Int) - 1) (if (first : Int) + 500 - 1 < 1000000000000000000 then (first : Int) + 500 - 1 else 1000000000000000000) = true := by
      unfold isIntIn
      simp
      split <;> omega
    refine ⟨_, rfl, _, rfl, _, _, rfl, rfl, _, rfl, _, _, rfl, rfl, _, _, rfl, rfl, _, _, rfl, _, _, _, _, rfl, .int _, ?_⟩
    rw [hI]
    refine ⟨_, rfl, ?_⟩
    refine ⟨_, rfl, ?_⟩
    intro x dx nx ndx ne
    refine story_wf hpl wf hea nx ndx fun n s2 H2 s12 hS => ⟨rfl, ?_⟩
    have s02 := s1.trans s12
    have h3r := wf.r3
    have hrt := wf.rt
    -- the ticks
    refine ⟨_, rfl, _, rfl, _, _, rfl, rfl, _, _, rfl, by omega, ?_⟩
    have eN : ((first : Int) + (m : Int) - 1 + 1 - (first : Int)).toNat = m := by omega
    rw [eN]
    have hC : StoryAt K (cutE H2 bad) x pl n s2 := StoryAt.cutE (fun b z => s02 _ _ (hbad b z)) hS
    have hL2 : AreL bad H2 := fun b z => ⟨[], s02 _ _ (hbad b z)⟩
    -- what was there when it was woken first is there
    have nv : ∀ {H3 : Hp} {b : Addr}, KeepB bad H2 H3 → AreL bad H3 → H3 b = none → H b = none := fun {H3 b} kb al e => by
      cases q : H b with
      | none => rfl
      | some o =>
        by_cases z : b ∈ bad
        · obtain ⟨xs, q2⟩ := al b z
          rw [e] at q2; cases q2
        · have q2 := kb b o z (s02 _ _ q)
          rw [e] at q2; cases q2
    refine g2for_it (walk_range (lo := (first : Int)) (n := m)) (fun i ys H0 σ H3 => ∃ (o5 o6 o7 o8 o9 : Option V), σ = [some (sV text), some (.int first), some (.int ((first : Int) + (m : Int) - 1)), some (.ref pa), some (.ref x), o5, o6, o7, o8, o9] ∧ KeepB bad H2 H3 ∧ AreL bad H3 ∧ Same H0 H3 ∧ ys.length = (traceM pl first i).length)
      ⟨_, _, _, _, _, rfl, KeepB.same (Same.refl _), hL2, s02, rfl⟩ (fun _ _ _ _ _ _ _ => trivial) ?_ ?_
    · rintro i v ys H0 σ H3 H3' hi ⟨o5, o6, o7, o8, o9, rfl, kb, al, sm, hlen⟩ ⟨rfl, ev⟩
      have et : (first : Int) + (i : Nat) = ((first + i : Nat) : Int) := by omega
      have ev2 : v = V.int ((first + i : Nat) : Int) := ev.trans (congrArg V.int et)
      subst ev2
      have hS3 := hC.same kb.cut
      obtain ⟨dy, tl, tas, e1, _⟩ := id hS3
      refine ⟨_, rfl, x, dy, _, rfl, e1, lo_no_happens, _, rfl, x, pl, n, s2, first + i, rfl, hS3, fun ta hT => ?_⟩
      obtain ⟨dt, sw, wo, sb, w1, w2, w3, w4⟩ := id hT
      obtain ⟨lw, ls⟩ := tk_words pl hrt (first + i)
      have htl := hlen
      rw [trace_len hrt] at htl
      refine ⟨_, rfl, ta, _, dt, _, _, rfl, w1, T.c.h.s.m.tick.c, T.c.h.s.m.tick.n _ (by simp), lt_swept, _, rfl, ta, _, dt, _, _, rfl, w1, T.c.h.s.m.tick.c, T.c.h.s.m.tick.n _ (by simp), lt_words, sw, wo, _, _, rfl, w2.sq, SqT.of w3, ?_⟩
      have hlen2 : ((tkN pl (first + i)).swept.map iV).length = ((tkN pl (first + i)).words.map sV).length := by rw [List.length_map, List.length_map, lw, ls]
      have cut3 : ∀ {H4 : Hp}, KeepB bad H3' H4 → Same (cutE H3' bad) H4 := fun k4 => k4.cut
      have w2c : TupN (cutE H3' bad) sw ((tkN pl (first + i)).swept.map iV) := w2.mono fun _ z => cutE_out (al.not z fun _ z => nomatch z) z
      have w3c : cutE H3' bad wo = some (.tup ((tkN pl (first + i)).words.map sV)) := cutE_out (al.not w3 fun _ z => nomatch z) w3
      refine g2for_it (walk_enumZ (K := K) (a := sw) (b := wo) hlen2) (fun j ys H0 σ H4 => ∃ (o7 o8 o9 : Option V), σ = [some (sV text), some (.int first), some (.int ((first : Int) + (m : Int) - 1)), some (.ref pa), some (.ref x), some (.int (first + i : Nat)), some (.ref ta), o7, o8, o9] ∧ KeepB bad H3' H4 ∧ AreL bad H4 ∧ Same H0 H4 ∧ ys.length = (traceM pl first i).length + j)
        ⟨_, _, _, rfl, KeepB.same (Same.refl _), al, sm, hlen⟩ (fun j ys H0 σ H4 _ ⟨_, _, _, _, k4, _⟩ => ⟨(w2c.mono fun _ z => k4.cut _ _ z).sq, SqT.of (k4.cut _ _ w3c)⟩) ?_ ?_
      · rintro j v ys H0 σ H4 H4' hj ⟨o7, o8, o9, rfl, k4, al4, sm4, hl4⟩ ⟨T1, T2, y1, y2, rfl, nT1, nT2, nT, rfl, hy1, hy2⟩
        rw [List.getElem?_map] at hy1 hy2
        cases ha : (tkN pl (first + i)).swept[j]? with
        | none => rw [ha] at hy1; cases hy1
        | some a1 =>
          cases hb : (tkN pl (first + i)).words[j]? with
          | none => rw [hb] at hy2; cases hy2
          | some b1 =>
            rw [ha] at hy1
            rw [hb] at hy2
            cases hy1
            cases hy2
            have s5 : Same H4 (upd H4 T1 (.tup [iV a1, sV b1])) := sameUpd (Same.refl _) nT1
            have nT2' : (upd H4 T1 (.tup [iV a1, sV b1])) T2 = none := (upd_ne nT).trans nT2
            have s6 := sameUpd (o := .tup [.int (j : Nat), .ref T1]) (Same.refl (upd H4 T1 (.tup [iV a1, sV b1]))) nT2'
            have hT1 := s6 _ _ (@upd_same H4 T1 (.tup [iV a1, sV b1]))
            have hT2 := @upd_same (upd H4 T1 (.tup [iV a1, sV b1])) T2 (.tup [.int (j : Nat), .ref T1])
            have s46 := s5.trans s6
            generalize upd (upd H4 T1 (.tup [iV a1, sV b1])) T2 (.tup [.int (j : Nat), .ref T1]) = H6 at *
            have hjl : j < (trc1 (first + i) (tkN pl (first + i))).length := by
              rw [trc1_len]
              exact (List.getElem?_eq_some_iff.mp hb).1
            refine ⟨T2, _, rfl, SqT.of hT2, rfl, _, _, rfl, _, _, rfl, T1, _, rfl, SqT.of hT1, rfl, _, _, rfl, _, _, rfl, rfl, rfl, ?_⟩
            have hmul : i * pl.robots.length ≤ 500 * 3 := Nat.mul_le_mul (by omega) h3r
            have hj3 : j < 3 := by rw [trc1_len] at hjl; omega
            refine ⟨by rw [sizeLine_eq, hl4, trace_len hrt]; omega, ?_⟩
            refine ⟨_, rfl, _, rfl, _, rfl, _, rfl, (by show 4 ≤ sizeLine; decide), fun t4 nt4 => ?_⟩
            have s7 := sameUpd (o := .tup [.int (first + i : Nat), .int (j : Nat), iV a1, sV b1]) (Same.refl H6) nt4
            have n4 : H4 t4 = none := by
              cases q : H4 t4 with
              | none => rfl
              | some o => have q2 := s46 _ _ q; rw [nt4] at q2; cases q2
            have n0 : H0 t4 = none := by
              cases q : H0 t4 with
              | none => rfl
              | some o => have q2 := sm4 _ _ q; rw [n4] at q2; cases q2
            refine ⟨hyl (first + i, j, a1, b1) ys H0 _ t4 ?_ (sm4.trans (s46.trans s7)) n0 (nv (kb.trans k4) al4 n4) upd_same, fun H' hr' => ?_⟩
            · rw [hl4, trace_at pl first hi hjl]
              have e := trc1_take (t := first + i) ha hb
              have e2 : ((trc1 (first + i) (tkN pl (first + i))).take (j + 1))[j]? = some (first + i, j, a1, b1) := by
                rw [e, List.getElem?_append_right (by rw [List.length_take]; omega)]
                have : j - ((trc1 (first + i) (tkN pl (first + i))).take j).length = 0 := by rw [List.length_take]; omega
                rw [this]; rfl
              rw [List.getElem?_take_of_lt (Nat.lt_succ_self j)] at e2
              exact e2
            · obtain ⟨kr, alr⟩ := hRel _ _ hr'
              refine ⟨_, _, _, rfl, k4.trans ((KeepB.same (s46.trans s7)).trans kr), alr, Same.refl _, ?_⟩
              rw [List.length_append, hl4]; rfl
      · rintro ys H0 σ H4 ⟨o7, o8, o9, rfl, k4, al4, sm4, hl4⟩
        refine ⟨_, _, _, _, _, rfl, kb.trans k4, al4, sm4, ?_⟩
        rw [hl4, List.length_map, ls, trace_succ, List.length_append, trc1_len, lw]
    · rintro ys H0 σ H3 ⟨o5, o6, o7, o8, o9, rfl, kb, al, sm, hlen⟩
      exact k ys H0 H3 hlen sm
end
end Sw

end

section
set_option maxRecDepth 100000
set_option maxHeartbeats 1000000
/-! [elt for target in gen(..)] -/
namespace L2
open PySem PySem.Spec PyProof.Rows GenW SwA
section
variable {X : Cx}
theorem Inv.behindB {Ex : List Addr} {N : List Str} {env : Env} {A : Around} {pn pins ip : List (Addr × Obj)} {σ σg : St} {H0 H1 : Hp} {s₀ s1 : Shared} {D : Addr} {acc : List V} (I : Inv X pins σ H0 s₀) (Ig : Inv (gcx2 X.prog X.w X.K X.mg X.base N env A X.stack pn Ex s₀ H0) ip σg H1 s1)
    (sm : Same H0 H1) (hD : H0 D = some (.lst acc)) (hC : X.env.locals ∈ Ex) (hp : ∀ p ∈ X.pn ++ pins, p.1 < env.locals) (hc : ∀ x c, X.env.cells.lookup x = some c → c < env.locals) (hy : ∀ b, env.locals ≤ b → b ≠ X.env.locals → b ≠ D → b < s₀.heap.objs.size → b ∈ X.ex ∨ X.s_0.heap.objs.size ≤ b) : Inv X pins σ H1 s1 := by
  obtain ⟨ch, hch⟩ : ∃ ch, ch = (List.range s₀.heap.objs.size).filter (fun b => decide (env.locals ≤ b) && (decide (b ≠ X.env.locals) && decide (b ≠ D))) := ⟨_, rfl⟩
  have mem : ∀ {b o}, s₀.heap.get? b = some o → b ∉ ch → b < env.locals ∨ b = X.env.locals ∨ b = D := fun {b o} e hb => by
    rcases Nat.lt_or_ge b env.locals with z | z
    · exact .inl z
    · by_cases h1 : b = X.env.locals
      · exact .inr (.inl h1)
      · by_cases h2 : b = D
        · exact .inr (.inr h2)
        · refine absurd ?_ hb
          rw [hch]
          exact List.mem_filter.mpr ⟨List.mem_range.mpr (Heap.lt_size e), by simp [z, h1, h2]⟩
  have old : ∀ {b o}, s₀.heap.get? b = some o → b < env.locals → (trunc s₀.heap env.locals).get? b = some o := fun {b o} e hl => by rw [trunc_get hl]; exact e
  have B : Un (frs X.stack) [] H0 H1 (trunc s₀.heap env.locals) s1.heap := Ig.base
  have atC : ∀ {o}, s₀.heap.get? X.env.locals = some o → s1.heap.get? X.env.locals = some o ∧ H1 X.env.locals = none := fun {o} e => by
    obtain ⟨z1, z2, _⟩ := Ig.pin (X.env.locals, o) (List.mem_append_left _ (List.mem_append_right _ (mem_pinsAt hC e)))
    exact ⟨z1, z2⟩
  have nD : ∀ {b : Addr}, b = D → H0 b = none → False := fun {b} e n => by rw [e, hD] at n; cases n
  refine I.call' (ch := ch) Ig.os ⟨fun b o e n hb hx => ?_, fun b o e n hb hx => ?_, fun b o e n hx => ?_, fun b o e hx => ?_, B.tups, B.frzs, B.tbls⟩ Ig.hok Ig.bare fun b hb => ?_
  · rcases mem e hx with z | z | z
    · exact B.keep b o (old e z) n hb (by simp)
    · subst z; exact (atC e).1
    · exact (nD z n).elim
  · rcases mem e hx with z | z | z
    · exact B.slot b o (old e z) n hb (by simp)
    · subst z; exact ⟨o.slots, (atC e).1⟩
    · exact (nD z n).elim
  · rcases mem e hx with z | z | z
    · exact B.free b o (old e z) n (by simp)
    · subst z; exact (atC e).2
    · exact (nD z n).elim
  · rcases mem e hx with z | z | z
    · exact B.there b o (old e z) (by simp)
    · subst z; exact ⟨o, (atC e).1⟩
    · subst z
      obtain ⟨_, _, _, _, e1⟩ := Ig.hok b _ (sm _ _ hD)
      exact ⟨_, e1⟩
  · rw [hch] at hb
    obtain ⟨h1, h2⟩ := List.mem_filter.mp hb
    simp only [Bool.and_eq_true, decide_eq_true_eq] at h2
    obtain ⟨hge, hnC, hnD⟩ := h2
    exact ⟨hy b hge hnC hnD (List.mem_range.mp h1), hnC, fun x c e => Nat.ne_of_lt (Nat.lt_of_lt_of_le (hc x c e) hge), fun p h => Nat.ne_of_lt (Nat.lt_of_lt_of_le (hp p h) hge)⟩
theorem thnA {α : Type} {M : Model} {A : Around} {t : Sem α} {Q Q' : α → Shared → Prop} {E : Value → Shared → Prop} {s : Shared} (h : wpAny M A t Q (fun _ _ => False) (hushS s)) (hQ : ∀ a s' s1', RB (sleepers s) s' s1' → Q a s' → Q' a s1') : wpAny M A t Q' E s :=
  wpAny_asleep hQ (fun _ _ _ _ z => z.elim) h
variable {k : Nat} {sp : SpG2}
/-- [elt for target in gen(..) if ..]: D the new list; W by what is handed out -/
def tLcG (tg : TGen2) (sp : SpG2) (g : TG) (tt : TT) (te : TE) (vs : List Nat) : TE := fun σ H Q => tg σ H fun avs H1 => ∀ D, H1 D = none → ∃ (W : List V → Hp → Prop) (Rel : Hp → Hp → Prop) (yl : List V → Hp → V → Hp → Prop) (Qe : List V → Hp → Hp → Prop),
  W [] (upd H1 D (.lst [])) ∧ (∀ ys H, W ys H → ∃ acc, H D = some (.lst acc)) ∧ sp avs (upd H1 D (.lst [])) Rel (fun ys H0 x H1 => Same H0 H1 ∧ yl ys H0 x H1) (fun ys H0 H1 => Same H0 H1 ∧ Qe ys H0 H1) ∧
  (∀ ys H0 x H1, W ys H0 → Same H0 H1 → yl ys H0 x H1 → g x (wipe σ vs) H1 fun σ2 H2 => wipe σ2 vs = wipe σ vs ∧ tt σ2 H2 fun b H3 =>
    if b = true then te σ2 H3 fun y H4 => ∃ acc, H4 D = some (.lst acc) ∧ acc.length < sizeLine ∧ W (ys ++ [x]) (upd H4 D (.lst (acc ++ [y]))) ∧ Rel H1 (upd H4 D (.lst (acc ++ [y]))) else W (ys ++ [x]) H3 ∧ Rel H1 H3) ∧
  (∀ ys H0 H1, W ys H0 → Same H0 H1 → Qe ys H0 H1 → Q (.ref D) H1)
theorem lcG_core {pins : List (Addr × Obj)} {s : Shared} {σ : St} {H : Hp} {Q : VK} {elt tg iter : Expr} {ifs : List Expr} {scope : Scope} {own : List (Str × Nat)} {pos pos' : Pos} {tgen : TGen2} {g : TG} {tt : TT} {te : TE} {use : Option (Value → Sem Unit)} {Qf : Value → Shared → Prop}
    (hc : X.calm = true) (hN : X.N.Nodup) (hr : Room (k + 1) X.A) (I : Inv X pins σ H s) (hi : PGen2 X k sp iter tgen) (ok : BlkOk X.N X.env.scope scope own) (hnc : ∀ y ∈ scope.names, y.2 ≠ .cell)
    (hg : ∀ (s : Shared) (H : Hp) (C : Addr) (cl : List (Str × Addr)) (fp : List Addr), PG (X.blk s H scope (compEnvC scope cl C X.env) fp) tg g) (ht : ∀ (s : Shared) (H : Hp) (C : Addr) (cl : List (Str × Addr)) (fp : List Addr), PTs (X.blk s H scope (compEnvC scope cl C X.env) fp) ifs tt)
    (he : ∀ (s : Shared) (H : Hp) (C : Addr) (cl : List (Str × Addr)) (fp : List Addr), PE (X.blk s H scope (compEnvC scope cl C X.env) fp) elt te) (hs : ∀ x, foldedSetIterable iter X.env x = pure x)
    (h : tLcG tgen sp g tt te (own.map (·.2)) σ H Q)
    (hRR : ∀ D C s' m H', Inv X pins σ H' s' → Q (.ref D) H' → s'.heap.Ns C m → FpOk X pins H' C → compPost (model X.prog X.w) X.A X.xe use Qf (.ref D) C (.ok .next) s') :
    wpAny (model X.prog X.w) X.A (comprehension (.ListComp elt [⟨tg, iter, ifs, 0⟩] scope pos) scope X.env pos' (newList []) false (eval iter X.env) use) Qf X.xe s := by
  have hfree : ∀ y ∈ scope.names, y.2 = .free → ∃ c, X.env.cells.lookup y.1 = some c := fun y hy e => by
    rcases ok.free y hy e with k | k
    · exact I.ok.has _ (.inl k)
    · exact I.ok.has _ (.inr k)
  refine wpAny_comprehension_free (use := use) rfl hs (closure_ok hfree) ok.kind (fun y hy e => by rw [ok.uniq y hy, e])
    (thn (hi.run pins s σ H _ I h) fun xv s1 ⟨H1, sc, avs, I1, q, hG⟩ => ?_)
  obtain ⟨a, gn, c, N, env, go, oL0, rfl, ha, hgen, hea, hgs, hos, hba, hkp, hL, hcl, heL, hcL, wake⟩ := hG
  refine wpAny_pyIter_gen (hgen _ hea) ?_
  refine wpAny_newObj_type (newEnv_comp ?_) (by show 0 ≤ sizeLine; decide)
  have I1' : Inv X pins σ H1 s1 := I1.call' (ch := []) hos (Un.kept hkp) (I1.hok.kept hkp) hba fun b z => by simp at z
  generalize hD : s1.heap.objs.size = D
  have hDn : H1 D = none := I1'.hok.fresh (Nat.le_of_eq hD)
  obtain ⟨W, Rel, yl, Qe, w0, wD, hsp, step, hend⟩ := q D hDn
  have la : env.locals < a := by rw [hL]; exact ha
  have aD : a < D := by rw [← hD]; exact Heap.lt_size hea
  -- the new list
  generalize hs3 : ({ s1 with heap := s1.heap.push { cls := .type "list", data := .seq ([] : List Value).toArray } } : Shared) = s3
  have I3 : Inv X pins σ (upd H1 D (.lst [])) s3 := by
    rw [← hs3]
    refine I1'.laid (t' := s1.toks) (fun b o e => Heap.get?_push_of_some _ e) (Nat.le_of_eq hD) ⟨Nat.zero_le _, [], 0, .nil, ?_⟩
    rw [← hD]
    exact Heap.get?_push_size _ rfl
  have h3 : s3.heap = s1.heap.push { cls := .type "list", data := .seq ([] : List Value).toArray } := by rw [← hs3]
  have DC : D < s3.heap.objs.size := by rw [h3, Heap.size_push, hD]; exact Nat.lt_succ_self _
  obtain ⟨fp, hfp⟩ : ∃ fp, fp = (List.range s3.heap.objs.size).filter (fun b => decide (env.locals ≤ b) && ((upd H1 D (.lst [])) b).isNone) := ⟨_, rfl⟩
  have f3 : ∀ b ∈ fp, FpOk X pins (upd H1 D (.lst [])) b ∧ b < s3.heap.objs.size := fun b hb => by
    rw [hfp] at hb
    obtain ⟨h1, h2⟩ := List.mem_filter.mp hb
    simp only [Bool.and_eq_true, decide_eq_true_eq] at h2
    exact ⟨I1.fpOk (by rw [← hL]; exact h2.1) (Option.isNone_iff_eq_none.mp h2.2), List.mem_range.mp h1⟩
  have young : ∀ b, env.locals ≤ b → b ≠ D → b < s3.heap.objs.size → b ∈ fp := fun b h1 h2 h4 => by
    rw [hfp]
    refine List.mem_filter.mpr ⟨List.mem_range.mpr h4, ?_⟩
    have : (upd H1 D (.lst [])) b = none := by rw [upd_ne h2]; exact I1.hok.fresh (by rw [← hL]; exact h1)
    simp [h1, this]
  have I4 := block_start I3 ok hN f3
  have pg := hg s3 (upd H1 D (.lst [])) s3.heap.objs.size (cellsFrom (s3.heap.objs.size + 1) scope.names (cloFrom X.env.cells scope.names [])) fp
  have pt := ht s3 (upd H1 D (.lst [])) s3.heap.objs.size (cellsFrom (s3.heap.objs.size + 1) scope.names (cloFrom X.env.cells scope.names [])) fp
  have pe := he s3 (upd H1 D (.lst [])) s3.heap.objs.size (cellsFrom (s3.heap.objs.size + 1) scope.names (cloFrom X.env.cells scope.names [])) fp
  show codeAny _ _ (.compStart (.ListComp elt [⟨tg, iter, ifs, 0⟩] scope pos) 0 (.ref a) (.ref D) (compEnvC scope (cellsFrom (s3.heap.objs.size + 1) scope.names (cloFrom X.env.cells scope.names [])) s3.heap.objs.size X.env)) (compPost (model X.prog X.w) X.A X.xe use Qf (.ref D) s3.heap.objs.size) { s3 with heap := pushCells (s3.heap.push { cls := .type "dict", data := .dict #[] }) scope.names }
  -- the block's cells are captured
  have cells : ∀ x c, (compEnvC scope (cellsFrom (s3.heap.objs.size + 1) scope.names (cloFrom X.env.cells scope.names [])) s3.heap.objs.size X.env).cells.lookup x = some c → c < env.locals := fun x c e => by
    have e : (cellsFrom (s3.heap.objs.size + 1) scope.names (cloFrom X.env.cells scope.names [])).lookup x = some c := e
    rw [← Heap.size_push s3.heap { cls := .type "dict", data := .dict #[] }] at e
    rcases cells_mem (PySem.mem_of_lookup e) with hm | ⟨h1, _, _⟩
    · rcases cloFrom_mem hm with hm | ⟨h1, rfl⟩
      · cases hm
      · obtain ⟨c', hc'⟩ := hfree _ h1 rfl
        rw [hc']
        obtain ⟨w, z⟩ := I1.cell _ _ hc'
        rw [hL]
        exact z.lt
    · exact absurd rfl (hnc _ h1)
  generalize hce : compEnvC scope (cellsFrom (s3.heap.objs.size + 1) scope.names (cloFrom X.env.cells scope.names [])) s3.heap.objs.size X.env = ce at I4 pg pt pe cells ⊢
  have cL : ce.locals = s3.heap.objs.size := by subst hce; rfl
  have n3a : (upd H1 D (.lst [])) a = none := by rw [upd_ne (Nat.ne_of_lt aD)]; exact I1.hok.fresh (Nat.le_of_lt ha)
  have n3L : (upd H1 D (.lst [])) env.locals = none := by rw [upd_ne (Nat.ne_of_lt (Nat.lt_trans la aD)), hL]; exact I1.hok.fresh (Nat.le_refl _)
  generalize hH3 : upd H1 D (.lst []) = H3 at I3 I4 pg pt pe w0 f3 n3a n3L hsp
  generalize hs4 : ({ s3 with heap := pushCells (s3.heap.push { cls := .type "dict", data := .dict #[] }) scope.names } : Shared) = s4 at I4 ⊢
  have k4 : ∀ b o, s1.heap.get? b = some o → s4.heap.get? b = some o := fun b o e => by
    rw [← hs4]
    exact pushCells_keeps _ _ _ _ (Heap.get?_push_of_some _ (by rw [h3]; exact Heap.get?_push_of_some _ e))
  have g4 : s4.gens = s1.gens := by rw [← hs4, ← hs3]
  have ru : ∀ {s : Shared} {x : GenState}, AllBare s.gens → x.bare = true → AllBare (s.setGen gn x).gens := fun h hx => allBare_setGen h hx
  have LC : env.locals < ce.locals := by rw [cL]; exact Nat.lt_trans la (Nat.lt_trans aD DC)
  obtain ⟨B, hB⟩ : ∃ B : Cx, B = X.blk s3 H3 scope ce fp := ⟨_, rfl⟩
  have Cnf : ∀ {σ' : St} {H' : Hp} {s' : Shared}, Inv (X.blk s3 H3 scope ce fp) [] σ' H' s' → ce.locals ∉ frs X.stack := fun {σ' H' s'} I' hb => by
    obtain ⟨_, o, ho, _⟩ := I'.ok.funs.mem hb
    have ho : s3.heap.get? ce.locals = some o := ho
    have := Heap.lt_size ho
    rw [cL] at this
    exact absurd this (Nat.lt_irrefl _)
  -- how the consumer stands
  obtain ⟨J, hJ⟩ : ∃ J : List V → Hp → Shared → Prop, J = fun ys H s => Inv (X.blk s3 H3 scope ce fp) [] (wipe σ (own.map (·.2))) H s ∧ W ys H ∧ s.heap.get? a = some go := ⟨_, rfl⟩
  have old : ∀ ys H s, J ys H s → env.locals ≤ s.heap.objs.size ∧ ∀ e ∈ [ce.locals], ∃ o, s.heap.get? e = some o := fun ys H s z => by
    rw [hJ] at z
    obtain ⟨I', _, ea⟩ := z
    refine ⟨Nat.le_of_lt (Nat.lt_trans la (Heap.lt_size ea)), fun e he => ?_⟩
    rw [List.mem_singleton.mp he]
    obtain ⟨m, ⟨o, _, _, ho, _⟩, _⟩ := I'.loc
    exact ⟨o, ho⟩
  have hAf : X.A.in1.frames = some X.stack := I1.ok.frames
  have exC : ∀ {σ' : St} {H' : Hp} {s' : Shared}, Inv (X.blk s3 H3 scope ce fp) [] σ' H' s' → ∀ p ∈ pinsAt [ce.locals] s'.heap, s'.heap.get? p.1 = some p.2 ∧ H' p.1 = none ∧ p.1 ≠ env.locals ∧ p.1 ∉ frs X.stack ∧ ∀ v, p.2.data ≠ .cell v := fun {σ' H' s'} I' p hp => by
    obtain ⟨h1, h2⟩ := of_pinsAt hp
    have e1 := List.mem_singleton.mp h1
    obtain ⟨m, ⟨o, _, _, ho, hd, _⟩, _⟩ := I'.loc
    have ho : s'.heap.get? ce.locals = some o := ho
    refine ⟨h2, by rw [e1]; exact I'.free, by rw [e1]; exact Nat.ne_of_gt LC, by rw [e1]; exact Cnf I', fun v q => ?_⟩
    rw [e1, ho] at h2
    cases h2
    rw [hd] at q; cases q
  have loop : codeAny (model X.prog X.w) X.A (.compLoop (.ListComp elt [⟨tg, iter, ifs, 0⟩] scope pos) 0 (.ref a) (.ref D) ce) (compPost (model X.prog X.w) X.A X.xe use Qf (.ref D) s3.heap.objs.size) s4 := by
    refine compLoop_any (fun n s' => ∃ ys H' gs, Inv (X.blk s3 H3 scope ce fp) [] (wipe σ (own.map (·.2))) H' s' ∧ W ys H' ∧ s'.heap.get? a = some go ∧ s'.gens[gn]? = some gs ∧
      gs.Goes (model X.prog X.w) X.A.in1 (GR2 X.prog X.w X.K X.mg X.base N env X.A.in1 X.stack [(a, go)] [ce.locals] ⟨J, Rel, fun ys H0 x H1 => Same H0 H1 ∧ yl ys H0 x H1, old⟩ (fun ys H0 H1 => Same H0 H1 ∧ Qe ys H0 H1)) (GY2 X.prog X.w X.K X.mg X.base N env X.A.in1 X.stack [(a, go)] [ce.locals] ⟨J, Rel, fun ys H0 x H1 => Same H0 H1 ∧ yl ys H0 x H1, old⟩) n (.send .none) (s'.setGen gn .running)) ?_ sizeLine
      ⟨[], H3, .fresh c, I4, w0, k4 _ _ hea, by rw [g4]; exact hgs, ⟨rfl, wake X.A.in1 J Rel _ _ [ce.locals] old (s4.setGen gn .running) H3 hr.in1 hAf (k4 _ _ hea) (k4 _ _ heL) n3a n3L I4.hok (ru I4.bare rfl) I4.bs I4.stack I4.stkFree (fun p hp => (exC I4 p hp).2) hsp (by rw [hJ]; exact ⟨I4.regen rfl rfl (ru I4.bare rfl), w0, k4 _ _ hea⟩)⟩⟩
    rintro n s5 ⟨ys5, H5, gs5, I5, w5, ea5, eg5, go5⟩
    have hgl : gn + 1 ≤ s5.gens.size := (Array.getElem?_eq_some_iff.mp eg5).1
    refine wpAny_gsz (n := gn + 1) hgl (next_gen2 (A := X.A) hr.hd I5.nolimit hr.depth (hgen _ ea5) eg5 go5 (fun n s₀ r s₁ z => z.1) (fun v s6 gs' hbare hsusp hy => ?_) fun s6 hR h' hk => ?_)
    · intro hsz
      obtain ⟨ys, x, ip, σg, H0, H6, hn, hJ0, rv, Ig, ⟨sm, hyl⟩, hex, hkap⟩ := hy
      have hJ0' : J ys H0 (s5.setGen gn .running) := hJ0
      rw [hJ] at hJ0'
      obtain ⟨I0, wI, _⟩ := hJ0'
      obtain ⟨acc, hacc⟩ := wD ys H0 wI
      have I6 : Inv (X.blk s3 H3 scope ce fp) [] (wipe σ (own.map (·.2))) H6 s6 := Inv.behindB (X := X.blk s3 H3 scope ce fp) I0 Ig sm hacc List.mem_cons_self (fun p hp => absurd (show p ∈ ([] : List (Addr × Obj)) ++ [] from hp) (by simp)) cells (fun b h1 h2 h4 h5 => by
        rcases Nat.lt_or_ge b s3.heap.objs.size with z | z
        · exact .inl (young b h1 h4 z)
        · exact .inr z)
      obtain ⟨mL, hnL, _⟩ := id Ig.loc
      obtain ⟨oL, esL, epL, hoL, hdL, rL⟩ := id hnL
      have nL : env.locals ∉ frs X.stack := fun hb => by
        obtain ⟨_, o, ho, _⟩ := Ig.ok.funs.mem hb
        exact absurd (of_trunc ho).2 (Nat.lt_irrefl _)
      -- what the generator knows is pinned
      have P6 : Inv (X.blk s3 H3 scope ce fp) ((env.locals, oL) :: ([(a, go)] ++ ip)) (wipe σ (own.map (·.2))) H6 s6 := I6.pins_of fun p hp => by
        rcases List.mem_cons.mp hp with z | z
        · rw [z]
          exact ⟨hoL, Ig.free, Nat.ne_of_lt LC, nL, fun v q => by rw [hdL] at q; cases q⟩
        · rcases List.mem_append.mp z with z | z
          · obtain ⟨q1, q2, q3, q4, q5⟩ := Ig.pin p (List.mem_append_left _ (List.mem_append_left _ z))
            rw [List.mem_singleton.mp z] at q1 q2 q4 q5 ⊢
            exact ⟨q1, q2, by show a ≠ ce.locals; rw [cL]; exact Nat.ne_of_lt (Nat.lt_trans aD DC), q4, q5⟩
          · obtain ⟨q1, q2, q3, q4, q5⟩ := Ig.pin p (List.mem_append_right _ z)
            exact ⟨q1, q2, fun e => hex p z (List.mem_singleton.mpr e), q4, q5⟩
      have hb6 : AllBare (s6.setGen gn gs').gens := ru Ig.bare hbare
      have eg6 : (s6.setGen gn gs').gens[gn]? = some gs' := by
        refine setGen_at ?_
        rw [setGen_size] at hsz
        exact hsz
      have I7 : Inv (X.blk s3 H3 scope ce fp) ((env.locals, oL) :: ([(a, go)] ++ ip)) (wipe σ (own.map (·.2))) H6 (s6.setGen gn gs') := P6.regen rfl rfl hb6
      have pinA : ((a, go) : Addr × Obj) ∈ ((env.locals, oL) :: ([(a, go)] ++ ip)) := List.mem_cons_of_mem _ (List.mem_append_left _ (List.mem_singleton.mpr rfl))
      have ea7 : (s6.setGen gn gs').heap.get? a = some go := (I7.pin (a, go) (List.mem_append_right _ pinA)).1
      show wpAny _ _ (letOwnedTupleGo tg (.ref a) v) _ _ (s6.setGen gn gs')
      obtain ⟨oG, nm, qn, hoG, hcG, hdG, _⟩ := hgen _ ea7
      refine go_of hoG hcG hdG (by decide) ?_
      refine thnA (pg.run _ (hushS (s6.setGen gn gs')) _ H6 x v _ (I7.regen rfl rfl (hushS_bare hb6)) rv (step ys H0 x H6 wI sm hyl)) fun _ s8 s8' r8 ⟨σ8, H8, J8, hw8, q8⟩ => ?_
      have I8 := J8.told r8 hb6
      have eg8 := r8.asleep eg6 hsusp
      refine thnA (pt.run _ (hushS s8') σ8 H8 _ (I8.regen rfl rfl (hushS_bare I8.bare)) q8) fun b s9 s9' r9 ⟨H9, J9, q9⟩ => ?_
      have I9 := J9.told r9 I8.bare
      have eg9 := r9.asleep eg8 hsusp
      -- the turn's end
      have fin : ∀ {s' : Shared} {H' : Hp}, Inv (X.blk s3 H3 scope ce fp) ((env.locals, oL) :: ([(a, go)] ++ ip)) σ8 H' s' → s'.gens[gn]? = some gs' → W (ys ++ [x]) H' ∧ Rel H6 H' → ∃ m, m < n ∧ ∃ ys H' gs, Inv (X.blk s3 H3 scope ce fp) [] (wipe σ (own.map (·.2))) H' s' ∧ W ys H' ∧ s'.heap.get? a = some go ∧ s'.gens[gn]? = some gs ∧
          gs.Goes (model X.prog X.w) X.A.in1 (GR2 X.prog X.w X.K X.mg X.base N env X.A.in1 X.stack [(a, go)] [ce.locals] ⟨J, Rel, fun ys H0 x H1 => Same H0 H1 ∧ yl ys H0 x H1, old⟩ (fun ys H0 H1 => Same H0 H1 ∧ Qe ys H0 H1)) (GY2 X.prog X.w X.K X.mg X.base N env X.A.in1 X.stack [(a, go)] [ce.locals] ⟨J, Rel, fun ys H0 x H1 => Same H0 H1 ∧ yl ys H0 x H1, old⟩) m (.send .none) (s'.setGen gn .running) := fun {s' H'} I' eg' ⟨w', rel'⟩ => by
        have hl : (wipe σ (own.map (·.2))).length = σ8.length := by rw [← hw8, wipe_length]
        have K' : Inv (X.blk s3 H3 scope ce fp) [] (wipe σ (own.map (·.2))) H' s' := (I'.pins_of (pins' := []) fun p hp => by simp at hp).weak hl fun j v e => by
          rw [← hw8] at e
          exact (wipe_some e).1
        have pinL := I'.pin (env.locals, oL) (List.mem_append_right _ List.mem_cons_self)
        have ea' := (I'.pin (a, go) (List.mem_append_right _ pinA)).1
        have hb' : AllBare (s'.setGen gn .running).gens := ru I'.bare rfl
        have hk := hkap (s'.setGen gn .running) H' (by
          show J _ _ _
          rw [hJ]; exact ⟨K'.regen rfl rfl hb', w', ea'⟩) rel'
          (Inv.rebase hcl Ig (fun o e => by
            have e' : oL = o := Option.some.inj (hoL.symm.trans e)
            rw [← e']; exact pinL.1) (fun p hp => by
              rcases List.mem_append.mp hp with hp | hp
              · rcases List.mem_append.mp hp with hp | hp
                · obtain ⟨_, _, q3, q4, q5⟩ := Ig.pin p (List.mem_append_left _ (List.mem_append_left _ hp))
                  obtain ⟨z1, z2, _⟩ := I'.pin p (List.mem_append_right _ (List.mem_cons_of_mem _ (List.mem_append_left _ hp)))
                  exact ⟨z1, z2, q3, q4, q5⟩
                · exact exC K' p hp
              · obtain ⟨_, _, q3, q4, q5⟩ := Ig.pin p (List.mem_append_right _ hp)
                obtain ⟨z1, z2, _⟩ := I'.pin p (List.mem_append_right _ (List.mem_cons_of_mem _ (List.mem_append_right _ hp)))
                exact ⟨z1, z2, q3, q4, q5⟩) pinL.2.1 I'.hok hb' I'.bs I'.stack I'.stkFree)
        cases n with
        | zero => exact hk.elim
        | succ m => exact ⟨m, Nat.lt_succ_self _, ys ++ [x], H', gs', K', w', ea', eg', hk⟩
      cases b with
      | false =>
        simp only [Bool.false_eq_true, if_false] at q9 ⊢
        exact fin I9 eg9 q9
      | true =>
        simp only [if_true] at q9 ⊢
        refine thnA (pe.run _ (hushS s9') σ8 H9 _ (I9.regen rfl rfl (hushS_bare I9.bare)) q9) fun z s10 s10' r10 ⟨yv, H10, J10, rz, acc', hD10, hz10, nx⟩ => ?_
        have I10 := J10.told r10 I9.bare
        have eg10 := r10.asleep eg9 hsusp
        refine thnA (app_ok (X := X.blk s3 H3 scope ce fp) (Q := fun _ s' => Inv (X.blk s3 H3 scope ce fp) ((env.locals, oL) :: ([(a, go)] ++ ip)) σ8 (upd H10 D (.lst (acc' ++ [yv]))) s') (I10.regen rfl rfl (hushS_bare I10.bare)) hD10 hz10 rz fun s11 I11 => I11) fun _ s11 s11' r11 J11 => ?_
        exact fin (J11.told r11 I10.bare) (r11.asleep eg10 hsusp) nx
    · intro _
      obtain ⟨_, ys, ip, σg, H0, H6, hn, hJ0, Ig, sm, hQ⟩ := hR
      have hJ0' : J ys H0 (s5.setGen gn .running) := hJ0
      rw [hJ] at hJ0'
      obtain ⟨I0, wI, _⟩ := hJ0'
      obtain ⟨acc, hacc⟩ := wD ys H0 wI
      have I6' : Inv (X.blk s3 H3 scope ce fp) [] (wipe σ (own.map (·.2))) H6 s6 := Inv.behindB (X := X.blk s3 H3 scope ce fp) I0 Ig sm hacc List.mem_cons_self (fun p hp => absurd (show p ∈ ([] : List (Addr × Obj)) ++ [] from hp) (by simp)) cells (fun b h1 h2 h4 h5 => by
        rcases Nat.lt_or_ge b s3.heap.objs.size with z | z
        · exact .inl (young b h1 h4 z)
        · exact .inr z)
      have I6 : Inv (X.blk s3 H3 scope ce fp) [] (wipe σ (own.map (·.2))) H6 { s6.setGen gn .finished with heap := h' } := (I6'.kept (t' := s6.toks) hk).regen rfl rfl (ru Ig.bare rfl)
      -- back in the def's context
      have I7 : Inv X pins σ H6 { s6.setGen gn .finished with heap := h' } := I3.call' (ch := fp) I6.os I6.base I6.hok I6.bare fun b hb => ⟨(f3 b hb).1.2.2.2.1, (f3 b hb).1.2.1, (f3 b hb).1.2.2.2.2.1, (f3 b hb).1.2.2.2.2.2⟩
      have nC : H6 s3.heap.objs.size = none := by
        have z : H6 ce.locals = none := I6.free
        rw [cL] at z
        exact z
      obtain ⟨m, hnm, _⟩ := I6.loc
      have hnm : h'.Ns ce.locals m := hnm
      rw [cL] at hnm
      exact hRR D s3.heap.objs.size _ m H6 I7 (hend ys H0 H6 wI sm hQ) hnm (I3.fpOk (Nat.le_refl _) nC)
  exact codeAny_compStart_list loop (wpAny_pyIter_gen (hgen _ (k4 _ _ hea)) loop)
theorem pe_lcG {elt tg iter : Expr} {ifs : List Expr} {scope : Scope} {own : List (Str × Nat)} {pos : Pos} {tgen : TGen2} {g : TG} {tt : TT} {te : TE} (hc : X.calm = true) (hN : X.N.Nodup) (hr : Room (k + 1) X.A) (hi : PGen2 X k sp iter tgen) (ok : BlkOk X.N X.env.scope scope own)
    (hg : ∀ (s : Shared) (H : Hp) (C : Addr) (cl : List (Str × Addr)) (fp : List Addr), PG (X.blk s H scope (compEnvC scope cl C X.env) fp) tg g) (ht : ∀ (s : Shared) (H : Hp) (C : Addr) (cl : List (Str × Addr)) (fp : List Addr), PTs (X.blk s H scope (compEnvC scope cl C X.env) fp) ifs tt)
    (he : ∀ (s : Shared) (H : Hp) (C : Addr) (cl : List (Str × Addr)) (fp : List Addr), PE (X.blk s H scope (compEnvC scope cl C X.env) fp) elt te) (hs : ∀ x, foldedSetIterable iter X.env x = pure x := by intro _; rfl) (hnc : ∀ y ∈ scope.names, y.2 ≠ .cell := by decide) :
    PE X (.ListComp elt [⟨tg, iter, ifs, 0⟩] scope pos) (tLcG tgen sp g tt te (own.map (·.2))) := by
  refine ⟨fun pins s σ H Q I h => ?_⟩
  rw [eval_ListComp]
  refine lcG_core hc hN hr I hi ok hnc hg ht he hs h fun D C s' m H' I' q hn f => ⟨m, hn, fun h'' sb => ?_⟩
  obtain ⟨f0, f1, f2, f3, f4, f5⟩ := f
  exact ⟨.ref D, H', I'.turned (t' := s'.toks) (fun b o hb e => (sb.2 b hb).trans e) f0 f1 f3 f4 f5, rfl, q⟩
/-- name = [..] on one line, the name a local -/
theorem ps_setLcG {i : Nat} {y : Str} {py : Pos} {elt tg iter : Expr} {ifs : List Expr} {scope : Scope} {own : List (Str × Nat)} {pos spos : Pos} {tgen : TGen2} {g : TG} {tt : TT} {te : TE} (hc : X.calm = true) (hN : X.N.Nodup) (hy : X.N[i]? = some y) (hyl : X.env.scope.names.lookup y = some .local)
    (hsw : swapsWith (.ListComp elt [⟨tg, iter, ifs, 0⟩] scope pos) (some (.Name y py)) spos.line X.env = pure true) (hr : Room (k + 1) X.A) (hi : PGen2 X k sp iter tgen) (ok : BlkOk X.N X.env.scope scope own)
    (hg : ∀ (s : Shared) (H : Hp) (C : Addr) (cl : List (Str × Addr)) (fp : List Addr), PG (X.blk s H scope (compEnvC scope cl C X.env) fp) tg g) (ht : ∀ (s : Shared) (H : Hp) (C : Addr) (cl : List (Str × Addr)) (fp : List Addr), PTs (X.blk s H scope (compEnvC scope cl C X.env) fp) ifs tt)
    (he : ∀ (s : Shared) (H : Hp) (C : Addr) (cl : List (Str × Addr)) (fp : List Addr), PE (X.blk s H scope (compEnvC scope cl C X.env) fp) elt te) (hs : ∀ x, foldedSetIterable iter X.env x = pure x := by intro _; rfl) (hnc : ∀ y ∈ scope.names, y.2 ≠ .cell := by decide) :
    PS X (.Assign [.Name y py] (.ListComp elt [⟨tg, iter, ifs, 0⟩] scope pos) spos) (tAsg (tLcG tgen sp g tt te (own.map (·.2))) (gName i)) := by
  refine ⟨fun pins s σ H D I h => ?_⟩
  rw [exec_Assign_Name_used _ _ _ _ hsw]
  refine wpAny_bind (wpAny_standAt (wpAny_bind ?_))
  show wpAny _ X.A (do let _ ← comprehension (.ListComp elt [⟨tg, iter, ifs, 0⟩] scope pos) scope X.env (firstIterPos [⟨tg, iter, ifs, 0⟩] pos) (newList []) false (eval iter X.env) (some (assign (.Name y py) X.env))) _ _ s
  have h : tLcG tgen sp g tt te (own.map (·.2)) σ H (fun x H1 => gName i x σ H1 D.nx) := h
  refine wpAny_bind (thn (lcG_core (Qf := fun _ s' => SP X pins D .next s') hc hN hr I hi ok hnc hg ht he hs h fun L C s' m H' I' q hn f => ?_) fun _ s' hq => wpAny_pure (wpAny_pure hq))
  show wpAny _ _ (assign (.Name y py) X.env (.ref L)) _ _ _
  refine wpAny_assign_Name (store_ok2 (v := V.ref L) I' hN hy (.inl hyl) rfl (fun s2 I2 ⟨a, sb, ha⟩ => ?_) (.inr hyl))
  obtain ⟨f0, f1, f2, f3, f4, f5⟩ := f
  have haC : C ≠ a := by
    rcases ha with z | z
    · rw [z]; exact f1
    · exact fun e => f4 y a z e.symm
  refine ⟨m, hn.sameBut sb haC, fun h3 sb3 => ?_⟩
  exact ⟨_, H', I2.turned (t' := s2.toks) (fun b o hb e => (sb3.2 b hb).trans e) f0 f1 f3 f4 f5, q⟩
theorem xer_nox : XeR X.nox := fun _ _ _ _ _ z => z.elim
end
end L2

end

section
set_option maxRecDepth 100000
/-! the tiles of a trace, tick by tick -/
namespace Sw
open PySem PySem.Spec PyProof.Rows L2 SwA
def rowF (l : List Trc) (u : Nat) : List Nat := (l.filter fun x => x.1 == u).map (·.2.2.1)
theorem rowF_nil (u : Nat) : rowF [] u = [] := rfl
theorem rowF_app (l m : List Trc) (u : Nat) : rowF (l ++ m) u = rowF l u ++ rowF m u := by
  unfold rowF
  rw [List.filter_append, List.map_append]
theorem rowF_snoc (l : List Trc) (x : Trc) (u : Nat) : rowF (l ++ [x]) u = if u = x.1 then rowF l u ++ [x.2.2.1] else rowF l u := by
  rw [rowF_app]
  unfold rowF
  by_cases h : u = x.1
  · rw [if_pos h]
    subst h
    simp
  · rw [if_neg h]
    have : ¬ x.1 = u := fun z => h z.symm
    simp [this]
theorem trc1_tick {t : Nat} {tk : TickM} : ∀ x ∈ trc1 t tk, x.1 = t := by
  intro x hx
  unfold trc1 at hx
  obtain ⟨k, _, rfl⟩ := List.mem_map.mp hx
  rfl
theorem rowF_trc1 {t : Nat} {tk : TickM} (h : tk.words.length = tk.swept.length) (u : Nat) : rowF (trc1 t tk) u = if u = t then tk.swept else [] := by
  by_cases e : u = t
  · subst e
    rw [if_pos rfl]
    unfold rowF
    rw [List.filter_eq_self.mpr (fun x hx => by rw [trc1_tick x hx]; exact beq_self_eq_true u)]
    unfold trc1
    rw [List.map_map]
    apply List.ext_getElem
    · simp [h]
    · intro i h1 h2
      simp at h1
      simp [h1, h2]
  · rw [if_neg e]
    unfold rowF
    rw [List.filter_eq_nil_iff.mpr (fun x hx => by rw [trc1_tick x hx]; simp; exact fun z => e z.symm)]
    rfl
theorem rowF_trace {pl : Plan} (h : ∀ r ∈ pl.robots, r.1 < pl.floor.length) (first : Nat) (t : Nat) : ∀ m, rowF (traceM pl first m) (first + t) = if t < m then (tkN pl (first + t)).swept else []
  | 0 => by simp [traceM, rowF]
  | m + 1 => by
    rw [trace_succ, rowF_app, rowF_trace h first t m, rowF_trc1 (by rw [(tk_words pl h _).1, (tk_words pl h _).2])]
    by_cases e : t = m
    · subst e
      rw [if_neg (Nat.lt_irrefl _), if_pos rfl, if_pos (Nat.lt_succ_self _)]
      rfl
    · rw [if_neg (show ¬ first + t = first + m by omega)]
      by_cases z : t < m
      · rw [if_pos z, if_pos (show t < m + 1 by omega), List.append_nil]
      · rw [if_neg z, if_neg (show ¬ t < m + 1 by omega)]
        rfl
theorem trace_tick {pl : Plan} (first : Nat) : ∀ m, ∀ x ∈ traceM pl first m, first ≤ x.1 ∧ x.1 < first + m
  | 0, x, hx => by simp [traceM] at hx
  | m + 1, x, hx => by
    rw [trace_succ] at hx
    rcases List.mem_append.mp hx with z | z
    · have := trace_tick first m x z
      omega
    · have := trc1_tick x z
      omega
theorem take_at {α : Type} {l : List α} {n : Nat} {x : α} (h : l[n]? = some x) : l.take (n + 1) = l.take n ++ [x] := by
  rw [List.take_add_one, h]
  rfl
end Sw

end

section
set_option maxRecDepth 100000
set_option maxHeartbeats 1000000
/-! [elt for .. in trace(..)]: what the list holds -/
namespace Sw
open PySem PySem.Spec PyProof.Rows L2 SwA
/-- all but lists stands -/
def NotL (H H' : Hp) : Prop := ∀ b o, H b = some o → (∀ xs, o ≠ .lst xs) → H' b = some o
theorem NotL.same {H H' : Hp} (s : Same H H') : NotL H H' := fun b o e _ => s b o e
theorem NotL.put {H : Hp} {D : Addr} {xs : List V} {o : HO} (h : H D = some (.lst xs)) : NotL H (upd H D o) := fun b u e n => by
  rw [upd_ne (fun z => by rw [z, h] at e; cases e; exact n _ rfl)]
  exact e
theorem keepD {D : Addr} {H : Hp} {o : HO} : KeepB [D] H (upd H D o) := fun b u n e => by
  rw [upd_ne (fun z => n (List.mem_singleton.mpr z))]; exact e
theorem Paired.snocP {α β : Type} {F : α → β → Prop} : ∀ {a : List α} {b : List β} {x : α} {y : β}, Paired F a b → F x y → Paired F (a ++ [x]) (b ++ [y])
  | _, _, _, _, .nil, h => .cons h .nil
  | _, _, _, _, .cons p t, h => .cons p (Paired.snocP t h)
theorem lcG_tra {text : Cs} {pl : Plan} {first m : Nat} {g : TG} {tt : TT} {te : TE} {vs : List Nat} {σ : L2.St} {Hy : Hp} {D : Addr} {Qd : Hp → Prop} (E : Hp → V → Trc → Prop)
    (hE : ∀ {H H' : Hp} {y : V} {x : Trc}, NotL H H' → E H y x → E H' y x)
    (hR : Reads text pl) (wf : WfP pl) (hea : Early pl 20000) (h1 : first ≤ 1000000000000000000) (h2 : first + m ≤ 1000000000000000001) (h3 : m ≤ 500) (nD : Hy D = none)
    (hs : ∀ (a : Addr) (x : Trc) (H1 : Hp) (Qy : VK) (Qn : Hp → Prop), x ∈ traceM pl first m → Same Hy H1 → TrcAt H1 a x → (∀ y H4, Same H1 H4 → E H4 y x → Qy y H4) →
      g (.ref a) (wipe σ vs) H1 fun σ2 H2 => wipe σ2 vs = wipe σ vs ∧ tt σ2 H2 fun b H3 => if b = true then te σ2 H3 Qy else Qn H3)
    (hd : ∀ (rs : List V) (Hf : Hp), Same Hy Hf → Hf D = some (.lst rs) → Paired (E Hf) rs (traceM pl first m) → Qd Hf) :
    ∃ (W : List V → Hp → Prop) (Rel : Hp → Hp → Prop) (yl : List V → Hp → V → Hp → Prop) (Qe : List V → Hp → Hp → Prop),
      W [] (upd Hy D (.lst [])) ∧ (∀ ys H, W ys H → ∃ acc, H D = some (.lst acc)) ∧ spTrace2 [sV text, .int first, .int ((first : Int) + (m : Int) - 1)] (upd Hy D (.lst [])) Rel (fun ys H0 x H1 => Same H0 H1 ∧ yl ys H0 x H1) (fun ys H0 H1 => Same H0 H1 ∧ Qe ys H0 H1) ∧
      (∀ ys H0 x H1, W ys H0 → Same H0 H1 → yl ys H0 x H1 → g x (wipe σ vs) H1 fun σ2 H2 => wipe σ2 vs = wipe σ vs ∧ tt σ2 H2 fun b H3 =>
        if b = true then te σ2 H3 fun y H4 => ∃ acc, H4 D = some (.lst acc) ∧ acc.length < sizeLine ∧ W (ys ++ [x]) (upd H4 D (.lst (acc ++ [y]))) ∧ Rel H1 (upd H4 D (.lst (acc ++ [y]))) else W (ys ++ [x]) H3 ∧ Rel H1 H3) ∧
      (∀ ys H0 H1, W ys H0 → Same H0 H1 → Qe ys H0 H1 → Qd H1) := by
  have htl : (traceM pl first m).length ≤ 1500 := by
    rw [trace_len wf.rt]
    exact Nat.le_trans (Nat.mul_le_mul h3 wf.r3) (by decide)
  have sY : ∀ {H}, KeepB [D] (upd Hy D (.lst [])) H → Same Hy H := fun {H} k b o e => k b o (fun z => by rw [List.mem_singleton.mp z, nD] at e; cases e) (by rw [upd_ne (fun z => by rw [z, nD] at e; cases e)]; exact e)
  refine ⟨fun ys H => ∃ rs : List V, rs.length = ys.length ∧ ys.length ≤ (traceM pl first m).length ∧ H D = some (.lst rs) ∧ KeepB [D] (upd Hy D (.lst [])) H ∧ Paired (E H) rs ((traceM pl first m).take ys.length),
    fun H H' => KeepB [D] H H' ∧ AreL [D] H', fun ys _ x H1 => ∃ xt a, x = .ref a ∧ (traceM pl first m)[ys.length]? = some xt ∧ TrcAt H1 a xt, fun ys _ _ => ys.length = (traceM pl first m).length,
    ⟨[], rfl, Nat.zero_le _, upd_same, KeepB.same (Same.refl _), .nil⟩, fun ys H ⟨rs, _, _, h, _⟩ => ⟨rs, h⟩, ?_, ?_, ?_⟩
  · refine ⟨text, pl, first, m, [D], rfl, hR, wf, hea, h1, h2, h3, fun b z => by rw [List.mem_singleton.mp z]; exact upd_same, fun _ _ z => z, fun x ys H0 H1 a e s _ _ t => ⟨s, x, a, rfl, e, t⟩, fun ys H0 H1 e s => ⟨s, e⟩⟩
  · rintro ys H0 x H1 ⟨rs, hl, hle, hD, kb, hp⟩ sm ⟨xt, a, rfl, ex, ht⟩
    have hD1 := sm _ _ hD
    have kb1 := kb.trans (KeepB.same sm)
    have hlt := (List.getElem?_eq_some_iff.mp ex).1
    refine hs a xt H1 _ _ (List.mem_of_getElem? ex) (sY kb1) ht fun y H4 s4 he => ?_
    have hD4 := s4 _ _ hD1
    refine ⟨rs, hD4, by rw [sizeLine_eq]; omega, ⟨rs ++ [y], by simp [hl], by rw [List.length_append]; exact hlt, upd_same, (kb1.trans (KeepB.same s4)).trans keepD, ?_⟩, (KeepB.same s4).trans keepD, fun b z => ⟨rs ++ [y], by rw [List.mem_singleton.mp z]; exact upd_same⟩⟩
    rw [List.length_append, show ([V.ref a] : List V).length = 1 from rfl, take_at ex]
    have np := NotL.put (o := .lst (rs ++ [y])) hD4
    exact Paired.snocP (Paired.mapP hp fun _ _ q => hE np (hE (NotL.same (sm.trans s4)) q)) (hE np he)
  · rintro ys H0 H1 ⟨rs, hl, hle, hD, kb, hp⟩ sm he
    have he : ys.length = (traceM pl first m).length := he
    rw [he, List.take_length] at hp
    exact hd rs H1 (sY (kb.trans (KeepB.same sm))) (sm _ _ hD) (Paired.mapP hp fun _ _ q => hE (NotL.same sm) q)
end Sw

end

section
set_option maxRecDepth 100000
set_option maxHeartbeats 4000000
/-! parts of a list by slices -/
namespace Sw
open PySem PySem.Spec PyProof.Rows L2 SwA
theorem cut_takeB {xs : List V} (n : Nat) : cutV xs none (some (n : Int)) = xs.take n := by
  show (xs.drop 0).take (HT.sIx xs.length xs.length (some (n : Int)) - 0) = xs.take n
  rw [HT.sIx_nat, List.drop_zero, Nat.sub_zero, ← List.take_eq_take_min]
theorem cut_dropB {xs : List V} (n : Nat) : cutV xs (some (n : Int)) none = xs.drop n := by
  show (xs.drop (HT.sIx xs.length 0 (some (n : Int)))).take (HT.sIx xs.length xs.length none - HT.sIx xs.length 0 (some (n : Int))) = xs.drop n
  rw [HT.sIx_none, HT.sIx_nat]
  rcases Nat.le_total n xs.length with h | h
  · rw [Nat.min_eq_left h]
    exact List.take_of_length_le (by rw [List.length_drop]; omega)
  · rw [Nat.min_eq_right h, List.drop_length, List.take_nil, List.drop_of_length_le h]
end Sw

end

section
set_option maxRecDepth 100000
set_option maxHeartbeats 1000000
/-! t[lo:hi] of a tuple without a dict of its own: such a tuple again -/
namespace SwA
open PySem PySem.Spec PyProof.Rows L2
def rSlN : V → Option Int → Option Int → Hp → VK → Prop := fun x lo hi H Q => ∃ a xs, x = .ref a ∧ TupN H a xs ∧ ∀ (b : Addr) (H' : Hp), Same H H' → TupN H' b (cutV xs lo hi) → Q (.ref b) H'
theorem cut_whole {xs : List V} {lo hi : Option Int} (h : HT.sIx xs.length 0 lo = 0 ∧ HT.sIx xs.length xs.length hi = xs.length) : cutV xs lo hi = xs := by
  unfold cutV
  rw [h.1, h.2]
  simp
theorem sl_tupN {X : Cx} : SlR X rSlN := by
  intro pins s σ H x v vl vu lo hi sl Q I rx hs pl pu h
  obtain ⟨a, xs, rfl, hx, q⟩ := h
  have hxs : SqT X.K H a xs := hx.sq
  cases rx
  obtain ⟨its, r, ht, hz⟩ := I.tuple hxs
  have hlen : its.toArray.size = xs.length := by rw [List.size_toArray]; exact r.length.symm
  refine ⟨"tuple", _, PyProof.Rows.slot_tuple_getitem.lookup, ht.typeIs, ?_⟩
  by_cases hw : HT.sIx xs.length 0 lo = 0 ∧ HT.sIx xs.length xs.length hi = xs.length
  · exact getItem_tuple_whole ht hs pl pu (by rw [hlen]; exact hw) ⟨.ref a, H, I, rfl, q a H (Same.refl H) (by rw [cut_whole hw]; exact hx)⟩
  · refine HT.getItem_tuple_cut ht hs pl pu (by rw [hlen]; exact hw) ?_ (by rw [hlen]; exact hz)
    rw [hlen]
    have hn := I.hok.fresh (Nat.le_refl s.heap.objs.size)
    have rr := (r.drop (HT.sIx xs.length 0 lo)).take (HT.sIx xs.length xs.length hi - HT.sIx xs.length 0 lo)
    have lz : (cutV xs lo hi).length ≤ sizeLine := Nat.le_trans (cutV_length xs lo hi) hz
    exact ⟨.ref s.heap.objs.size, _, I.laid (t' := s.toks) (o := .frz _ (.tup (cutV xs lo hi))) (fun b o e => Heap.get?_push_of_some _ e) (Nat.le_refl _) ⟨Heap.get?_push_size _ rfl, lz, _, rr, IsTup.new _ _⟩, rfl, q _ _ (Sw.sameUpd (Same.refl H) hn) ⟨_, rfl, rfl, upd_same⟩⟩
end SwA

end

section
set_option maxRecDepth 100000
set_option maxHeartbeats 4000000
/-! parts and sums of tuples -/
namespace Sw
open PySem PySem.Spec PyProof.Rows L2 SwA
/-- slices and sums of tuples: some tuple that says it -/
theorem slA_any {K : PySem.W.Frag} {H : Hp} {a : Addr} {xs : List V} {lo hi : Option Int} {Q : VK} (ha : H a = some (.tup xs)) (k : ∀ (p : Addr) (H' : Hp), Same H H' → H' p = some (.tup (cutV xs lo hi)) → Q (.ref p) H') : rSlA K (.ref a) lo hi H Q :=
  ⟨a, xs, rfl, SqT.of ha, fun h => k a H (Same.refl _) (by rw [cut_whole h]; exact ha), fun _ p np => k p _ (sameUpd (Same.refl _) np) upd_same⟩
theorem catA_any {K : PySem.W.Frag} {H : Hp} {a b : Addr} {xs ys : List V} {Q : VK} (ha : H a = some (.tup xs)) (hb : H b = some (.tup ys)) (hl : xs.length + ys.length ≤ sizeLine) (k : ∀ (p : Addr) (H' : Hp), Same H H' → H' p = some (.tup (xs ++ ys)) → Q (.ref p) H') : rCatA K (.ref a) (.ref b) H Q :=
  ⟨a, b, xs, ys, rfl, rfl, SqT.of ha, SqT.of hb, hl, fun h => k b H (Same.refl _) (by rw [h]; exact hb), fun _ h => k a H (Same.refl _) (by rw [h, List.append_nil]; exact ha), fun _ _ p np => k p _ (sameUpd (Same.refl _) np) upd_same⟩
end Sw

end

section
set_option maxRecDepth 100000
set_option maxHeartbeats 4000000
/-! small plans come again early: there are few states -/
namespace Sw
open PySem
theorem pigeon : ∀ (B : Nat) (e : Nat → Nat), (∀ i, i ≤ B → e i < B) → ∃ i j, i < j ∧ j ≤ B ∧ e i = e j
  | 0, e, h => absurd (h 0 (Nat.le_refl 0)) (Nat.not_lt_zero _)
  | B + 1, e, h => by
    by_cases hx : ∃ i, i ≤ B ∧ e i = e (B + 1)
    · obtain ⟨i, hi, he⟩ := hx
      exact ⟨i, B + 1, by omega, Nat.le_refl _, he⟩
    · have hn : ∀ i, i ≤ B → e i ≠ e (B + 1) := fun i hi he => hx ⟨i, hi, he⟩
      obtain ⟨i, j, h1, h2, h3⟩ := pigeon B (fun i => if e (B + 1) < e i then e i - 1 else e i) fun i hi => by
        have a1 := h i (by omega)
        have a2 := h (B + 1) (Nat.le_refl _)
        have a3 := hn i hi
        show (if e (B + 1) < e i then e i - 1 else e i) < B
        split <;> omega
      refine ⟨i, j, h1, by omega, ?_⟩
      have a1 := hn i (by omega)
      have a2 := hn j h2
      have h3 : (if e (B + 1) < e i then e i - 1 else e i) = (if e (B + 1) < e j then e j - 1 else e j) := h3
      split at h3 <;> split at h3 <;> omega
def encL (b : Nat) : List Nat → Nat
  | [] => 0
  | d :: l => d + b * encL b l
theorem encL_lt {b : Nat} : ∀ {l : List Nat}, (∀ d ∈ l, d < b) → encL b l < b ^ l.length
  | [], _ => by simp [encL]
  | d :: l, h => by
    have h1 := h d List.mem_cons_self
    have h2 := encL_lt fun x hx => h x (List.mem_cons_of_mem _ hx)
    show d + b * encL b l < b ^ (l.length + 1)
    have : b * (encL b l + 1) ≤ b * b ^ l.length := Nat.mul_le_mul_left b h2
    rw [Nat.mul_add, Nat.mul_one] at this
    rw [Nat.pow_succ, Nat.mul_comm (b ^ l.length) b]
    omega
theorem digit_inj {b d e x y : Nat} (hd : d < b) (he : e < b) (h : d + b * x = e + b * y) : d = e ∧ x = y := by
  have h1 : (d + b * x) % b = (e + b * y) % b := by rw [h]
  rw [Nat.add_mul_mod_self_left, Nat.add_mul_mod_self_left, Nat.mod_eq_of_lt hd, Nat.mod_eq_of_lt he] at h1
  subst h1
  refine ⟨rfl, ?_⟩
  have h2 : b * x = b * y := by omega
  exact Nat.eq_of_mul_eq_mul_left (by omega) h2
theorem encL_inj {b : Nat} : ∀ {l m : List Nat}, (∀ d ∈ l, d < b) → (∀ d ∈ m, d < b) → l.length = m.length → encL b l = encL b m → l = m
  | [], [], _, _, _, _ => rfl
  | [], _ :: _, _, _, h, _ => by cases h
  | _ :: _, [], _, _, h, _ => by cases h
  | d :: l, e :: m, h1, h2, h3, h4 => by
    obtain ⟨e1, e2⟩ := digit_inj (h1 d List.mem_cons_self) (h2 e List.mem_cons_self) h4
    rw [e1, encL_inj (fun x hx => h1 x (List.mem_cons_of_mem _ hx)) (fun x hx => h2 x (List.mem_cons_of_mem _ hx)) (Nat.succ.inj h3) e2]
def rd (r : Rob) : Nat := r.1 + 4 * ((if r.2.1 = true then 1 else 0) + 2 * r.2.2)
theorem rd_lt {m : Nat} {r : Rob} (h1 : r.1 < 4) (h2 : r.2.2 < m) : rd r < 8 * m := by
  unfold rd
  split <;> omega
theorem rd_inj {r q : Rob} (h1 : r.1 < 4) (h2 : q.1 < 4) (h : rd r = rd q) : r = q := by
  obtain ⟨a, b, c⟩ := r
  obtain ⟨a', b', c'⟩ := q
  unfold rd at h
  obtain ⟨e1, e2⟩ := digit_inj h1 h2 h
  have h3 : (if b = true then 1 else 0) < 2 := by split <;> omega
  have h4 : (if b' = true then 1 else 0) < 2 := by split <;> omega
  obtain ⟨e3, e4⟩ := digit_inj h3 h4 e2
  have e5 : b = b' := by
    cases b <;> cases b' <;> first | rfl | simp at e3
  simp only at e1 e4
  rw [e1, e5, e4]
def encS (g m : Nat) (st : MSt) : Nat := encL g st.floor + g ^ st.floor.length * encL (8 * m) (st.robots.map rd)
structure In (g m n r : Nat) (st : MSt) : Prop where
  w : WfM n r st
  s : ∀ x ∈ st.floor, x < g
  o : MoS m st
theorem In.rds {g m n r : Nat} {st : MSt} (h : In g m n r st) (hn : n ≤ 4) : ∀ d ∈ st.robots.map rd, d < 8 * m := fun d hd => by
  obtain ⟨q, hq, rfl⟩ := List.mem_map.mp hd
  exact rd_lt (Nat.lt_of_lt_of_le (h.w.ti q hq) hn) (h.o q hq)
theorem encS_lt {g m n r : Nat} {st : MSt} (h : In g m n r st) (hn : n ≤ 4) : encS g m st < g ^ n * (8 * m) ^ r := by
  have h1 := encL_lt h.s
  have h2 := encL_lt (h.rds hn)
  rw [List.length_map, h.w.ro] at h2
  rw [h.w.fl] at h1
  unfold encS
  rw [h.w.fl]
  have : g ^ n * (encL (8 * m) (st.robots.map rd) + 1) ≤ g ^ n * (8 * m) ^ r := Nat.mul_le_mul_left _ h2
  rw [Nat.mul_add, Nat.mul_one] at this
  omega
theorem encS_inj {g m n r : Nat} {a b : MSt} (ha : In g m n r a) (hb : In g m n r b) (hn : n ≤ 4) (h : encS g m a = encS g m b) : a = b := by
  unfold encS at h
  rw [ha.w.fl, hb.w.fl] at h
  have h1 := encL_lt ha.s
  have h2 := encL_lt hb.s
  rw [ha.w.fl] at h1
  rw [hb.w.fl] at h2
  obtain ⟨e1, e2⟩ := digit_inj h1 h2 h
  have f1 : a.floor = b.floor := encL_inj ha.s hb.s (by rw [ha.w.fl, hb.w.fl]) e1
  have f2 : a.robots.map rd = b.robots.map rd := encL_inj (ha.rds hn) (hb.rds hn) (by rw [List.length_map, List.length_map, ha.w.ro, hb.w.ro]) e2
  have f3 : a.robots = b.robots := by
    refine List.ext_getElem (by rw [ha.w.ro, hb.w.ro]) fun i h1 h2 => ?_
    have := congrArg (fun l => l[i]?) f2
    simp only [List.getElem?_map, List.getElem?_eq_getElem h1, List.getElem?_eq_getElem h2, Option.map_some, Option.some.injEq] at this
    exact rd_inj (Nat.lt_of_lt_of_le (ha.w.ti _ (List.getElem_mem h1)) hn) (Nat.lt_of_lt_of_le (hb.w.ti _ (List.getElem_mem h2)) hn) this
  cases a
  cases b
  simp only at f1 f3
  rw [f1, f3]
/-- few tiles, signs, moods and robots -/
def Small (pl : Plan) : Prop := pl.floor.length ≤ 4 ∧ ((pl.robots.length = 1 ∧ pl.signs.length ≤ 4 ∧ pl.moods.length ≤ 3) ∨ (pl.robots.length ≤ 2 ∧ pl.signs.length ≤ 2 ∧ pl.moods.length ≤ 2))
theorem early_of {pl : Plan} (wf : WfP pl) (hn : pl.floor.length ≤ 4) : Early pl (pl.signs.length ^ pl.floor.length * (8 * pl.moods.length) ^ pl.robots.length) := by
  have hin : ∀ k, In pl.signs.length pl.moods.length pl.floor.length pl.robots.length (stN pl k) := fun k => ⟨st_wf wf.rt k, st_si wf k, st_mo wf k⟩
  obtain ⟨i, j, h1, h2, h3⟩ := pigeon _ (fun k => encS pl.signs.length pl.moods.length (stN pl k)) fun i _ => encS_lt (hin i) hn
  exact ⟨i, j, h1, h2, encS_inj (hin i) (hin j) hn h3⟩
theorem small_early {pl : Plan} (wf : WfP pl) (h : Small pl) : Early pl 20000 := by
  refine (early_of wf h.1).mono ?_
  rcases h.2 with ⟨h1, h2, h3⟩ | ⟨h1, h2, h3⟩
  · rw [h1]
    have a1 : pl.signs.length ^ pl.floor.length ≤ 4 ^ 4 := Nat.le_trans (Nat.pow_le_pow_left h2 _) (Nat.pow_le_pow_right (by decide) h.1)
    have a2 : (8 * pl.moods.length) ^ 1 ≤ 24 := by rw [Nat.pow_one]; omega
    exact Nat.le_trans (Nat.mul_le_mul a1 a2) (by decide)
  · have a1 : pl.signs.length ^ pl.floor.length ≤ 2 ^ 4 := Nat.le_trans (Nat.pow_le_pow_left h2 _) (Nat.pow_le_pow_right (by decide) h.1)
    have a2 : (8 * pl.moods.length) ^ pl.robots.length ≤ 16 ^ 2 := Nat.le_trans (Nat.pow_le_pow_left (show 8 * pl.moods.length ≤ 16 by omega) _) (Nat.pow_le_pow_right (by decide) h1)
    exact Nat.le_trans (Nat.mul_le_mul a1 a2) (by decide)
end Sw

end

section
set_option maxRecDepth 100000
set_option maxHeartbeats 4000000
/-! the law's own: short plans -/
namespace Sw
open PySem PySem.Spec PyProof.Rows L2 SwA
def keptOf (g m : Nat) (rules : List ((Nat × Nat) × Rule)) (mo si : Nat) : List ((Nat × Nat) × Rule) := match getA rules (mo, si) with
  | none => []
  | some r => [((mo, si), ⟨r.left % g, r.move, r.later % m⟩)]
def keptRow (g m : Nat) (rules : List ((Nat × Nat) × Rule)) (mo n : Nat) : List ((Nat × Nat) × Rule) := ((List.range n).map (keptOf g m rules mo)).flatten
def keptR (g m : Nat) (rules : List ((Nat × Nat) × Rule)) (n : Nat) : List ((Nat × Nat) × Rule) := ((List.range n).map fun mo => keptRow g m rules mo g).flatten
theorem keptRow_succ (g m : Nat) (rules : List ((Nat × Nat) × Rule)) (mo n : Nat) : keptRow g m rules mo (n + 1) = keptRow g m rules mo n ++ keptOf g m rules mo n := by
  unfold keptRow
  rw [List.range_succ]
  simp
theorem keptR_succ (g m : Nat) (rules : List ((Nat × Nat) × Rule)) (n : Nat) : keptR g m rules (n + 1) = keptR g m rules n ++ keptRow g m rules n g := by
  unfold keptR
  rw [List.range_succ]
  simp
def shortP (pl : Plan) : Plan := if pl.robots.length = 1 then pl else
  ⟨pl.signs.take 2, pl.moods.take 2, pl.floor.map (· % (pl.signs.take 2).length), pl.robots.take 2, keptR (pl.signs.take 2).length (pl.moods.take 2).length pl.rules (pl.moods.take 2).length⟩
theorem keptOf_mem {g m : Nat} {rules : List ((Nat × Nat) × Rule)} {mo si : Nat} {kv : (Nat × Nat) × Rule} (h : kv ∈ keptOf g m rules mo si) : kv.1 = (mo, si) ∧ ∃ r, getA rules (mo, si) = some r ∧ kv.2 = ⟨r.left % g, r.move, r.later % m⟩ := by
  unfold keptOf at h
  cases hg : getA rules (mo, si) with
  | none => rw [hg] at h; cases h
  | some r =>
    rw [hg] at h
    rw [List.mem_singleton.mp h]
    exact ⟨rfl, r, rfl, rfl⟩
theorem keptRow_mem {g m : Nat} {rules : List ((Nat × Nat) × Rule)} {mo n : Nat} {kv : (Nat × Nat) × Rule} (h : kv ∈ keptRow g m rules mo n) : ∃ si, si < n ∧ kv ∈ keptOf g m rules mo si := by
  unfold keptRow at h
  obtain ⟨l, hl, hk⟩ := List.mem_flatten.mp h
  obtain ⟨si, hs, rfl⟩ := List.mem_map.mp hl
  exact ⟨si, List.mem_range.mp hs, hk⟩
theorem keptR_mem {g m : Nat} {rules : List ((Nat × Nat) × Rule)} {n : Nat} {kv : (Nat × Nat) × Rule} (h : kv ∈ keptR g m rules n) : kv.1.1 < n ∧ kv.1.2 < g ∧ ∃ r, getA rules kv.1 = some r ∧ kv.2 = ⟨r.left % g, r.move, r.later % m⟩ := by
  unfold keptR at h
  obtain ⟨l, hl, hk⟩ := List.mem_flatten.mp h
  obtain ⟨mo, hm, rfl⟩ := List.mem_map.mp hl
  obtain ⟨si, hs, hk⟩ := keptRow_mem hk
  obtain ⟨e, r, h1, h2⟩ := keptOf_mem hk
  rw [e]
  exact ⟨List.mem_range.mp hm, hs, r, h1, h2⟩
abbrev LtP (a b : Nat × Nat) : Prop := a.1 < b.1 ∨ (a.1 = b.1 ∧ a.2 < b.2)
theorem keptRow_sorted (g m : Nat) (rules : List ((Nat × Nat) × Rule)) (mo : Nat) : ∀ n, ((keptRow g m rules mo n).map (·.1)).Pairwise LtP
  | 0 => by simp [keptRow]
  | n + 1 => by
    rw [keptRow_succ, List.map_append, List.pairwise_append]
    refine ⟨keptRow_sorted g m rules mo n, ?_, fun a ha b hb => ?_⟩
    · unfold keptOf
      split <;> simp
    · obtain ⟨x, hx, rfl⟩ := List.mem_map.mp ha
      obtain ⟨y, hy, rfl⟩ := List.mem_map.mp hb
      obtain ⟨si, hs, hx⟩ := keptRow_mem hx
      obtain ⟨e1, _⟩ := keptOf_mem hx
      obtain ⟨e2, _⟩ := keptOf_mem hy
      rw [e1, e2]
      exact .inr ⟨rfl, hs⟩
theorem keptR_sorted (g m : Nat) (rules : List ((Nat × Nat) × Rule)) : ∀ n, ((keptR g m rules n).map (·.1)).Pairwise LtP
  | 0 => by simp [keptR]
  | n + 1 => by
    rw [keptR_succ, List.map_append, List.pairwise_append]
    refine ⟨keptR_sorted g m rules n, keptRow_sorted g m rules n g, fun a ha b hb => ?_⟩
    obtain ⟨x, hx, rfl⟩ := List.mem_map.mp ha
    obtain ⟨y, hy, rfl⟩ := List.mem_map.mp hb
    obtain ⟨si, hs, hy⟩ := keptRow_mem hy
    obtain ⟨e2, _⟩ := keptOf_mem hy
    obtain ⟨e1, _⟩ := keptR_mem hx
    rw [e2]
    exact .inl e1
theorem SortedR.nodup {rules : List ((Nat × Nat) × Rule)} (h : SortedR rules) : (rules.map (·.1)).Nodup := List.Pairwise.imp (fun {a b} q z => by rw [z] at q; omega) h
theorem NamesOk.take {ws : List Cs} (h : NamesOk ws) (n : Nat) : NamesOk (ws.take n) := ⟨h.nd.sublist (List.take_sublist _ _), fun w hw => h.ok w (List.mem_of_mem_take hw)⟩
theorem short_wf {pl : Plan} (wf : WfP pl) (so : SortedR pl.rules) (hn : pl.floor.length ≤ 4) (hm : pl.moods.length ≤ 3) : WfP (shortP pl) ∧ SortedR (shortP pl).rules ∧ Small (shortP pl) ∧ (shortP pl).floor.length = pl.floor.length := by
  unfold shortP
  split
  · rename_i h1
    exact ⟨wf, so, ⟨hn, .inl ⟨h1, wf.s4, hm⟩⟩, rfl⟩
  · rename_i h1
    have s1 := List.length_pos_iff.mpr wf.s1
    have m1 := List.length_pos_iff.mpr wf.m1
    have r1 := List.length_pos_iff.mpr wf.r1
    have ls : (pl.signs.take 2).length = min 2 pl.signs.length := List.length_take
    have lm : (pl.moods.take 2).length = min 2 pl.moods.length := List.length_take
    have lr : (pl.robots.take 2).length = min 2 pl.robots.length := List.length_take
    have gs : 0 < (pl.signs.take 2).length := by omega
    have gm : 0 < (pl.moods.take 2).length := by omega
    have hso := keptR_sorted (pl.signs.take 2).length (pl.moods.take 2).length pl.rules (pl.moods.take 2).length
    refine ⟨⟨wf.sN.take 2, wf.mN.take 2, List.length_pos_iff.mp gs, by show (pl.signs.take 2).length ≤ 4; omega, List.length_pos_iff.mp gm, by show (pl.moods.take 2).length ≤ 6; omega, by show 1 ≤ (pl.floor.map _).length; rw [List.length_map]; exact wf.n1, by show (pl.floor.map _).length ≤ 16; rw [List.length_map]; exact wf.n16, ?_, ?_, by show (pl.robots.take 2).length ≤ 3; omega, ?_, SortedR.nodup hso, ?_⟩, hso, ⟨by show (pl.floor.map _).length ≤ 4; rw [List.length_map]; exact hn, .inr ⟨by show (pl.robots.take 2).length ≤ 2; omega, by show (pl.signs.take 2).length ≤ 2; omega, by show (pl.moods.take 2).length ≤ 2; omega⟩⟩, List.length_map _⟩
    · intro x hx
      obtain ⟨y, _, rfl⟩ := List.mem_map.mp hx
      exact Nat.mod_lt _ gs
    · exact List.length_pos_iff.mp (by show 0 < (pl.robots.take 2).length; omega)
    · intro r hr
      show r.1 < (pl.floor.map _).length
      rw [List.length_map]
      exact wf.rt r (List.mem_of_mem_take hr)
    · intro kv hkv
      obtain ⟨k1, k2, r, k3, k4⟩ := keptR_mem hkv
      have ro := get_ok wf k3
      refine ⟨k1, k2, ?_, ?_, ?_⟩
      · rw [k4]; exact Nat.mod_lt _ gs
      · rw [k4]; exact Nat.mod_lt _ gm
      · rw [k4]; exact ro.mv
theorem Paired_take {α β : Type} {F : α → β → Prop} : ∀ {a : List α} {b : List β}, Paired F a b → ∀ n, Paired F (a.take n) (b.take n)
  | _, _, .nil, n => by cases n <;> exact .nil
  | _, _, .cons x t, 0 => .nil
  | _, _, .cons x t, n + 1 => .cons x (Paired_take t n)
theorem FnE.impJ {P : Program} {w : World} {K : PySem.W.Frag} {mg : Str → Option Value} {base : Heap} {CX : CXT} {k : Nat} {p : Str × Option Str} {ps : List Str} {sp sp' : Sp} (h : FnE P w K mg base CX k p ps sp) (i : ∀ vs H Q E, sp' vs H Q E → sp vs H Q E) : FnE P w K mg base CX k p ps sp' := by
  obtain ⟨fd, G, b, q⟩ := h
  exact ⟨fd, G.imp i, b, q⟩
structure ShoT (K : PySem.W.Frag) (mg : Str → Option Value) : Prop where
  p : PlaT K mg
  min : mg "min" = none
  short : DeT K mg "_law_short" s__law_short
section
variable {P : Program} {w : World} {K : PySem.W.Frag} {mg : Str → Option Value} {base : Heap}
/-- .. with the names told -/
def spShortB : Sp := fun vs H Q _ => ∃ (d : Addr) (most : Nat), vs = [.ref d, .int most] ∧ DrawAt H d ∧ 1 ≤ most ∧ most ≤ 100 ∧
  ∀ (a : Addr) (H' : Hp) (pl : Plan), Drawn d H H' → WfP pl → Small pl → pl.floor.length ≤ most → SortedR pl.rules → (∀ x ∈ pl.signs, x ∈ sBase) → H a = none → PlanV H' a pl → Q (.ref a) H'
def spShort : Sp := fun vs H Q _ => ∃ (d : Addr) (most : Nat), vs = [.ref d, .int most] ∧ DrawAt H d ∧ 1 ≤ most ∧ most ≤ 100 ∧
  ∀ (a : Addr) (H' : Hp) (pl : Plan), Drawn d H H' → WfP pl → Small pl → pl.floor.length ≤ most → SortedR pl.rules → H a = none → PlanV H' a pl → Q (.ref a) H'
abbrev shoN : List Str := ["_law_d", "_law_most", "_law_signs", "_law_moods", "_law_floor", "_law_robots", "_law_rules", "_law_kept", "_law_mood", "_law_sign", "_law_left", "_law_move", "_law_later"]
theorem sc_sho : FnScope shoN ["_law_d", "_law_most"] (defScope s__law_short) := ⟨rfl, rfl, rfl, by decide +kernel, rfl, by decide +kernel, by decide +kernel⟩
abbrev rLenA (K : PySem.W.Frag) : List V → Hp → VK → Prop := fun xs H Q => ∃ p ys, xs = [V.ref p] ∧ (SqL K H p ys ∨ SqT K H p ys) ∧ Q (.int ys.length) H
theorem ok_shoB (T : ShoT K mg) : FnE P w K mg base CX0 4 ("_law_short", none) ["_law_d", "_law_most"] spShortB := by
  obtain ⟨fd, F⟩ := T.short.d
  obtain ⟨fdPL, GPL, bPL, kPL⟩ := ok_lplan (P := P) (w := w) (base := base) T.p
  refine ⟨fd, F.ok sc_sho (fun vs H Q E h => ?_) (fun cdv A outer s H vs Q E hr h => ?_), F.bindsN fun _ _ _ _ _ _ us hl => match us, hl with | [_, _], _ => rfl, F.kp⟩
  · obtain ⟨d, most, rfl, _⟩ := h
    rfl
  · obtain ⟨d, most, rfl, hd, hm1, hm2, k⟩ := h
    have hr3 : Room 3 _ := hr.mono (by decide)
    have hu := hu_of hr
    refine ⟨_, PSs.nox (pss_cons (ps_asg (pe_call GPL hr3 rfl T.p.plan.g kPL bPL .nil pass0 (pa_cons (pv 0) (pa_cons (pe_callB (cr_min rfl) (by rfl) T.min (by decide +kernel) (pa_cons (pe_lst (pa_cons (pv 1) (pa_cons pe_int pa_nil))) pa_nil)) pa_nil)))
        (pg_tup rfl (pgs_cons (pg_name (i := 2) sc_sho.nd rfl (.inr rfl)) (pgs_cons (pg_name (i := 3) sc_sho.nd rfl (.inl rfl)) (pgs_cons (pg_name (i := 4) sc_sho.nd rfl (.inl rfl)) (pgs_cons (pg_name (i := 5) sc_sho.nd rfl (.inl rfl)) (pgs_cons (pg_name (i := 6) sc_sho.nd rfl (.inl rfl)) pgs_nil)))))))
      (pss_cons (ps_if (pt_cmpR op_eq (pe_callB call_len_seq (by rfl) T.p.s.l.len boot_len (pa_cons (pv 5) pa_nil)) pe_int (nomark _))
        (pss_one (ps_ret (pe_tup (pa_cons (pv 2) (pa_cons (pv 3) (pa_cons (pv 4) (pa_cons (pv 5) (pa_cons (pv 6) pa_nil)))))))) pss_nil)
      (pss_cons (ps_asg (pe_tup (pa_cons (pe_slice sl_tupN (pv 2) po_none (po_some pe_int)) (pa_cons (pe_slice sl_tupN (pv 3) po_none (po_some pe_int)) (pa_cons pe_dnewT pa_nil))))
        (pg_tup rfl (pgs_cons (pg_name (i := 2) sc_sho.nd rfl (.inr rfl)) (pgs_cons (pg_name (i := 3) sc_sho.nd rfl (.inl rfl)) (pgs_cons (pg_name (i := 7) sc_sho.nd rfl (.inl rfl)) pgs_nil)))))
      (pss_cons (ps_for PassesOwn.never rfl (pi_range1 (by rfl) T.p.s.l.range (pa_cons (pe_callB call_len_seq (by rfl) T.p.s.l.len boot_len (pa_cons (pv 3) pa_nil)) pa_nil)) (pg_name (i := 8) sc_sho.nd rfl (.inl rfl))
        (pss_one (ps_for PassesOwn.never rfl (pi_range1 (by rfl) T.p.s.l.range (pa_cons (pe_callB call_len_seq (by rfl) T.p.s.l.len boot_len (pa_cons (pv 2) pa_nil)) pa_nil)) (pg_name (i := 9) sc_sho.nd rfl (.inl rfl))
          (pss_one (ps_if (pt_cmp (pc_din hu (pe_tup (pa_cons (pv 8) (pa_cons (pv 9) pa_nil))) (pv 6)))
            (pss_cons (ps_asg (pe_dget hu (pv 6) (pe_tup (pa_cons (pv 8) (pa_cons (pv 9) pa_nil))) (fun _ _ => rfl))
              (pg_tup rfl (pgs_cons (pg_name (i := 10) sc_sho.nd rfl (.inl rfl)) (pgs_cons (pg_name (i := 11) sc_sho.nd rfl (.inl rfl)) (pgs_cons (pg_name (i := 12) sc_sho.nd rfl (.inl rfl)) pgs_nil)))))
            (pss_one (ps_dput hu (pv 7) (pe_tup (pa_cons (pv 8) (pa_cons (pv 9) pa_nil))) (pe_tup (pa_cons (pe_op op_mod (pv 10) (pe_callB call_len_seq (by rfl) T.p.s.l.len boot_len (pa_cons (pv 2) pa_nil))) (pa_cons (pv 11) (pa_cons (pe_op op_mod (pv 12) (pe_callB call_len_seq (by rfl) T.p.s.l.len boot_len (pa_cons (pv 3) pa_nil))) pa_nil)))) rfl))) pss_nil)))))
      (pss_one (ps_ret (pe_tup (pa_cons (pv 2) (pa_cons (pv 3) (pa_cons (pe_callTy call_tuple_of (by rfl) T.p.s.l.tuple (by decide +kernel) (pa_cons (pe_lc (own := [("_law_sign", 9)]) (g := (gName 9)) (tt := tYes) (te := tOp (rI (fun _ j => 0 < j) fun i j => .int (i % j)) (tVar 9) (tCB (rLenA K) (tCons (tVar 2) tNil))) rfl sc_sho.nd (pi_tup (pv 4)) (blkOk_by (own := [("_law_sign", 9)]) (N := shoN) (sc := defScope s__law_short) (by decide +kernel)) (fun _ _ _ _ _ => (pg_name (i := 9) sc_sho.nd rfl (.inl rfl))) (fun _ _ _ _ _ => pts_nil) (fun _ _ _ _ _ => (pe_op op_mod (pv 9) (pe_callB call_len_seq (by rfl) T.p.s.l.len boot_len (pa_cons (pv 2) pa_nil))))) pa_nil)) (pa_cons (pe_slice sl_tupA (pv 5) po_none (po_some pe_int)) (pa_cons (pv 7) pa_nil)))))))))))), ?_⟩
    refine ⟨_, rfl, _, rfl, (by show 2 ≤ sizeLine; decide), fun q0 nq0 => ?_⟩
    have dr0 := (Drawn.refl hd).new (o := .lst [V.int most, V.int 4]) nq0
    have hq0 := @upd_same H q0 (.lst [V.int most, V.int 4])
    generalize upd H q0 (.lst [V.int most, V.int 4]) = H1 at *
    refine ⟨q0, [(most : Int), 4], rfl, SqL.of hq0, by simp, fun mi hmem hle => ?_⟩
    have hmi : mi = ((min most 4 : Nat) : Int) := by
      have a1 := hle (most : Int) (by simp)
      have a2 := hle 4 (by simp)
      simp only [List.mem_cons, List.not_mem_nil, or_false] at hmem
      omega
    subst hmi
    refine ⟨d, min most 4, rfl, dr0.at_, by omega, by omega, fun pa H2 pl dr wf hfl ⟨hmo, hsb, _⟩ so npa hP => ?_⟩
    have hd0 : ∃ o, H d = some o := let ⟨_, _, _, _, e⟩ := hd; ⟨_, e⟩
    have dr2 : Drawn d H H2 := dr0.trans dr
    obtain ⟨wf2, so2, sm2, fl2⟩ := short_wf wf so (by omega) hmo
    have hsb2 : ∀ x ∈ (shortP pl).signs, x ∈ sBase := fun x hx => by
      unfold shortP at hx
      split at hx
      · exact hsb x hx
      · exact hsb x (List.mem_of_mem_take hx)
    have fin : ∀ (a : Addr) (H' : Hp), Same H2 H' → H2 a = none → PlanV H' a (shortP pl) → Q (.ref a) H' := fun a H' s na hp => k a H' _ (dr2.trans (Drawn.of dr2.at_ s)) wf2 sm2 (by omega) so2 hsb2 (dr2.free hd0 na) hp
    obtain ⟨sa, ma, fa, ra, rdA, ras, e0, e1, e2, e3, e4, e5, kvs, e6, e7⟩ := hP
    refine ⟨pa, _, rfl, SqT.of e0, rfl, _, _, rfl, _, _, rfl, _, _, rfl, _, _, rfl, _, _, rfl, rfl, ?_⟩
    have hras : ras.length = pl.robots.length := e5.length
    have h16 := wf.n16
    have h3 := wf.r3
    have r1 := List.length_pos_iff.mpr wf.r1
    refine ⟨_, rfl, ra, _, rfl, .inr (SqT.of e4), rfl, _, rfl, ?_⟩
    rw [List.length_map, hras]
    by_cases h1 : pl.robots.length = 1
    · rw [decide_eq_true (show V.int (pl.robots.length : Nat) = V.int 1 by rw [h1]; rfl)]
      refine iteT ⟨_, rfl, _, rfl, _, rfl, _, rfl, _, rfl, (by show 5 ≤ sizeLine; decide), fun t nt => ?_⟩
      have eS : shortP pl = pl := by unfold shortP; rw [if_pos h1]
      rw [eS] at fin
      have s3 := sameUpd (o := .tup [.ref sa, .ref ma, .ref fa, .ref ra, .ref rdA]) (Same.refl H2) nt
      exact fin t _ s3 nt ⟨sa, ma, fa, ra, rdA, ras, upd_same, e1.mono fun _ z => s3 _ _ z, e2.mono fun _ z => s3 _ _ z, s3 _ _ e3, s3 _ _ e4, Paired.mapP e5 fun _ _ q => s3 _ _ q, kvs, s3 _ _ e6, Paired.mapP e7 fun _ _ q => q.mono fun _ _ z => s3 _ _ z⟩
    rw [decide_eq_false (fun z => h1 (by have := V.int.inj z; omega))]
    refine iteF ?_
    have eS : shortP pl = ⟨pl.signs.take 2, pl.moods.take 2, pl.floor.map (· % (pl.signs.take 2).length), pl.robots.take 2, keptR (pl.signs.take 2).length (pl.moods.take 2).length pl.rules (pl.moods.take 2).length⟩ := by unfold shortP; rw [if_neg h1]
    rw [eS] at fin
    have s1 := List.length_pos_iff.mpr wf.s1
    have m1 := List.length_pos_iff.mpr wf.m1
    have ls : (pl.signs.take 2).length = min 2 pl.signs.length := List.length_take
    have lm : (pl.moods.take 2).length = min 2 pl.moods.length := List.length_take
    have cs : cutV (pl.signs.map sV) none (some 2) = (pl.signs.take 2).map sV := (cut_takeB 2).trans List.map_take.symm
    have cm : cutV (pl.moods.map sV) none (some 2) = (pl.moods.take 2).map sV := (cut_takeB 2).trans List.map_take.symm
    refine ⟨_, rfl, _, rfl, sa, _, rfl, e1, fun sa2 H3 s3 hsa2 => ?_⟩
    rw [cs] at hsa2
    refine ⟨_, rfl, _, rfl, ma, _, rfl, e2.mono fun _ z => s3 _ _ z, fun ma2 H4 s4 hma2 => ?_⟩
    rw [cm] at hma2
    replace hsa2 := hsa2.mono fun _ z => s4 _ _ z
    have s24 := s3.trans s4
    intro kd nkd
    have n2kd := s24.free nkd
    have s5 := sameUpd (o := .dT []) (Same.refl H4) nkd
    have hkd := @upd_same H4 kd (.dT [])
    replace hsa2 := hsa2.mono fun _ z => s5 _ _ z
    replace hma2 := hma2.mono fun _ z => s5 _ _ z
    have s25 := s24.trans s5
    generalize upd H4 kd (.dT []) = H5 at *
    refine ⟨(by show 3 ≤ sizeLine; decide), fun tt ntt => ?_⟩
    have ktt : kd ≠ tt := fun z => by rw [← z, hkd] at ntt; cases ntt
    have s6 := sameUpd (o := .tup [.ref sa2, .ref ma2, .ref kd]) (Same.refl H5) ntt
    have htt := @upd_same H5 tt (.tup [.ref sa2, .ref ma2, .ref kd])
    replace hsa2 := hsa2.mono fun _ z => s6 _ _ z
    replace hma2 := hma2.mono fun _ z => s6 _ _ z
    replace hkd := s6 _ _ hkd
    have s26 := s25.trans s6
    generalize upd H5 tt (.tup [.ref sa2, .ref ma2, .ref kd]) = H6 at *
    refine ⟨tt, _, rfl, SqT.of htt, rfl, _, _, rfl, _, _, rfl, _, _, rfl, rfl, ?_⟩
    obtain ⟨G, hG⟩ : ∃ G, G = (pl.signs.take 2).length := ⟨_, rfl⟩
    obtain ⟨M, hM⟩ : ∃ M, M = (pl.moods.take 2).length := ⟨_, rfl⟩
    rw [← hG, ← hM] at fin
    -- the frame: all but kd
    have fr : ∀ x o, x ≠ kd → H6 x = some o → cutH H6 [kd] x = some o := fun x o n e => by
      unfold cutH
      rw [if_neg (fun z => n (List.mem_singleton.mp z))]
      exact e
    have frS : Same H2 (cutH H6 [kd]) := fun x o e => fr x o (fun z => by rw [z, n2kd] at e; cases e) (s26 _ _ e)
    have fsa : TupN (cutH H6 [kd]) sa2 ((pl.signs.take 2).map sV) := hsa2.mono fun o z => fr _ _ (fun y => by rw [y, hkd] at z; cases z) z
    have fma : TupN (cutH H6 [kd]) ma2 ((pl.moods.take 2).map sV) := hma2.mono fun o z => fr _ _ (fun y => by rw [y, hkd] at z; cases z) z
    have fkd : cutH H6 [kd] kd = none := cutH_in (by simp)
    refine ⟨_, rfl, ma2, _, rfl, .inr hma2.sq, _, rfl, by omega, by rw [List.length_map]; omega, ?_⟩
    rw [List.length_map, ← hM]
    have h0 : cutH H6 [kd] = cutH H6 [kd] := rfl
    generalize hF : cutH H6 [kd] = F at *
    refine for_range (lo := 0) (n := ((M : Nat) : Int).toNat) (fun i σ H7 => ∃ (o8 o9 o10 o11 o12 : Option V) (kks : List (List Key × V)), σ = [some (.ref d), some (.int most), some (.ref sa2), some (.ref ma2), some (.ref fa), some (.ref ra), some (.ref rdA), some (.ref kd), o8, o9, o10, o11, o12] ∧
      Same F H7 ∧ H7 kd = some (.dT kks) ∧ Paired (RuleAt H7) (keptR G M pl.rules i) kks) ⟨_, _, _, _, _, [], rfl, by rw [← hF]; exact cutH_same, hkd, .nil⟩ ?_ ?_
    · rintro i σ H7 hi ⟨o8, o9, o10, o11, o12, kks, rfl, sm7, hk7, hp7⟩
      rw [Int.toNat_natCast] at hi
      rw [Int.zero_add]
      have hsaL : (pl.signs.take 2).length ≤ 2 := by omega
      have lenR : (keptR G M pl.rules i).length ≤ 4 := by
        have := inc_len (n := 4) (lo := 0) (l := (keptR G M pl.rules i).map fun kv => kv.1.1 * 2 + kv.1.2) ?_ ?_
        · rw [List.length_map] at this
          exact this
        · rw [List.pairwise_map]
          have hs := keptR_sorted G M pl.rules i
          rw [List.pairwise_map] at hs
          refine List.Pairwise.imp_of_mem (fun {a b} ha hb q => ?_) hs
          have := (keptR_mem ha).2.1
          have := (keptR_mem hb).2.1
          have q : a.1.1 < b.1.1 ∨ (a.1.1 = b.1.1 ∧ a.1.2 < b.1.2) := q
          omega
        · intro x hx
          obtain ⟨kv, hk, rfl⟩ := List.mem_map.mp hx
          have := (keptR_mem hk).2.1
          have := (keptR_mem hk).1
          omega
      refine ⟨_, rfl, sa2, _, rfl, .inr (fsa.mono fun _ z => sm7 _ _ z).sq, _, rfl, by omega, by rw [List.length_map]; omega, ?_⟩
      rw [List.length_map, ← hG]
      refine for_range (lo := 0) (n := ((G : Nat) : Int).toNat) (fun j σ H8 => ∃ (o9 o10 o11 o12 : Option V) (kks : List (List Key × V)), σ = [some (.ref d), some (.int most), some (.ref sa2), some (.ref ma2), some (.ref fa), some (.ref ra), some (.ref rdA), some (.ref kd), some (.int i), o9, o10, o11, o12] ∧
        Same F H8 ∧ H8 kd = some (.dT kks) ∧ Paired (RuleAt H8) (keptR G M pl.rules i ++ keptRow G M pl.rules i j) kks) ⟨_, _, _, _, kks, rfl, sm7, hk7, by simpa [keptRow] using hp7⟩ ?_ ?_
      · rintro j σ H8 hj ⟨o9, o10, o11, o12, kks, rfl, sm8, hk8, hp8⟩
        rw [Int.toNat_natCast] at hj
        rw [Int.zero_add]
        have e6' := sm8 _ _ (frS _ _ e6)
        have e7' : Paired (RuleAt H8) pl.rules kvs := Paired.mapP e7 fun _ _ q => q.mono fun b xs z => sm8 _ _ (frS _ _ z)
        refine ⟨_, rfl, _, rfl, (by show 2 ≤ sizeLine; decide), fun tk ntk => ?_⟩
        have s9 := sameUpd (o := .tup [.int (i : Nat), .int (j : Nat)]) (Same.refl H8) ntk
        have htk := @upd_same H8 tk (.tup [.int (i : Nat), .int (j : Nat)])
        replace sm8 := sm8.trans s9
        replace hk8 := s9 _ _ hk8
        replace hp8 := Paired.mapP hp8 fun _ _ q => RuleAt.mono (fun b xs z => s9 _ _ z) q
        replace e7' := Paired.mapP e7' fun _ _ q => RuleAt.mono (fun b xs z => s9 _ _ z) q
        replace e6' := s9 _ _ e6'
        generalize upd H8 tk (.tup [.int (i : Nat), .int (j : Nat)]) = H9 at *
        obtain ⟨g1, g2⟩ := rules_get (k := (i, j)) e7'
        refine ⟨_, rfl, rdA, _, rfl, DGet.t (k := keyT (i, j)) e6' htk, _, rfl, ?_⟩
        have lenW : (keptRow G M pl.rules i j).length ≤ 2 := by
          have hle : ∀ n, (keptRow G M pl.rules i n).length ≤ n := fun n => by
            induction n with
            | zero => simp [keptRow]
            | succ n ih =>
              rw [keptRow_succ, List.length_append]
              have : (keptOf G M pl.rules i n).length ≤ 1 := by unfold keptOf; split <;> simp
              omega
          have := hle j
          omega
        cases hget : getA pl.rules (i, j) with
        | none =>
          rw [g1 hget]
          refine iteF ?_
          have eK : keptOf G M pl.rules i j = [] := by unfold keptOf; rw [hget]
          exact ⟨_, _, _, _, kks, rfl, sm8, hk8, by rw [keptRow_succ, eK, List.append_nil]; exact hp8⟩
        | some r =>
          obtain ⟨t, g3, g4⟩ := g2 r hget
          rw [g3]
          refine iteT ?_
          have eK : keptOf G M pl.rules i j = [((i, j), ⟨r.left % G, r.move, r.later % M⟩)] := by unfold keptOf; rw [hget]
          refine ⟨_, rfl, _, rfl, _, rfl, (by show 2 ≤ sizeLine; decide), fun tk2 ntk2 => ?_⟩
          have s10 := sameUpd (o := .tup [.int (i : Nat), .int (j : Nat)]) (Same.refl H9) ntk2
          have htk2 := @upd_same H9 tk2 (.tup [.int (i : Nat), .int (j : Nat)])
          replace sm8 := sm8.trans s10
          replace hk8 := s10 _ _ hk8
          replace hp8 := Paired.mapP hp8 fun _ _ q => RuleAt.mono (fun b xs z => s10 _ _ z) q
          replace e6' := s10 _ _ e6'
          replace g4 := s10 _ _ g4
          generalize upd H9 tk2 (.tup [.int (i : Nat), .int (j : Nat)]) = H10 at *
          refine ⟨rdA, .ref t, rfl, by rw [← g3]; exact DGet.t (k := keyT (i, j)) e6' htk2, t, _, rfl, SqT.of g4, rfl, _, _, rfl, _, _, rfl, _, _, rfl, rfl, ?_⟩
          have fsa10 := fsa.mono fun _ z => sm8 _ _ z
          have fma10 := fma.mono fun _ z => sm8 _ _ z
          refine ⟨_, rfl, _, rfl, sa2, _, rfl, .inr fsa10.sq, _, _, rfl, rfl, by rw [List.length_map]; omega, ?_⟩
          rw [List.length_map, ← hG]
          refine ⟨_, rfl, _, rfl, _, rfl, ma2, _, rfl, .inr fma10.sq, _, _, rfl, rfl, by rw [List.length_map]; omega, ?_⟩
          rw [List.length_map, ← hM]
          have em1 : ((r.left : Nat) : Int) % ((G : Nat) : Int) = ((r.left % G : Nat) : Int) := (Int.natCast_emod _ _).symm
          have em2 : ((r.later : Nat) : Int) % ((M : Nat) : Int) = ((r.later % M : Nat) : Int) := (Int.natCast_emod _ _).symm
          refine ⟨(by show 3 ≤ sizeLine; decide), fun tv ntv => ?_⟩
          have s11 := sameUpd (o := .tup [.int (((r.left : Nat) : Int) % ((G : Nat) : Int)), sV r.move, .int (((r.later : Nat) : Int) % ((M : Nat) : Int))]) (Same.refl H10) ntv
          have htv := @upd_same H10 tv (.tup [.int (((r.left : Nat) : Int) % ((G : Nat) : Int)), sV r.move, .int (((r.later : Nat) : Int) % ((M : Nat) : Int))])
          replace sm8 := sm8.trans s11
          replace hk8 := s11 _ _ hk8
          replace hp8 := Paired.mapP hp8 fun _ _ q => RuleAt.mono (fun b xs z => s11 _ _ z) q
          generalize upd H10 tv (.tup [.int (((r.left : Nat) : Int) % ((G : Nat) : Int)), sV r.move, .int (((r.later : Nat) : Int) % ((M : Nat) : Int))]) = H11 at *
          replace htv : H11 tv = some (.tup [.int (r.left % G : Nat), sV r.move, .int (r.later % M : Nat)]) := by rw [htv, em1, em2]
          refine ⟨_, rfl, _, rfl, _, rfl, (by show 2 ≤ sizeLine; decide), fun tk3 ntk3 => ?_⟩
          have s12 := sameUpd (o := .tup [.int (i : Nat), .int (j : Nat)]) (Same.refl H11) ntk3
          have htk3 := @upd_same H11 tk3 (.tup [.int (i : Nat), .int (j : Nat)])
          replace sm8 := sm8.trans s12
          replace hk8 := s12 _ _ hk8
          replace htv := s12 _ _ htv
          replace hp8 := Paired.mapP hp8 fun _ _ q => RuleAt.mono (fun b xs z => s12 _ _ z) q
          generalize upd H11 tk3 (.tup [.int (i : Nat), .int (j : Nat)]) = H12 at *
          have hno : valV kks (keyT (i, j)) = none := by
            refine (rules_get (k := (i, j)) hp8).1 (getA_none fun q hq z => ?_)
            rcases List.mem_append.mp hq with y | y
            · have := (keptR_mem y).1
              rw [z] at this
              exact Nat.lt_irrefl _ this
            · obtain ⟨si, hs, y⟩ := keptRow_mem y
              have := (keptOf_mem y).1
              rw [z] at this
              injection this with _ e2
              omega
          have hkl := hp8.length
          rw [List.length_append] at hkl
          refine ⟨kd, _, rfl, DPut.t (k := keyT (i, j)) hk8 htk3 (by rw [sizeLine_eq]; omega), ?_⟩
          rw [putK_new _ hno]
          have kt := keepT (o' := .dT (kks ++ [(keyT (i, j), V.ref tv)])) hk8 (fun xs q => by cases q)
          refine ⟨_, _, _, _, _, rfl, sameUpd sm8 fkd, upd_same, ?_⟩
          rw [keptRow_succ, eK, ← List.append_assoc]
          exact paired_append (Paired.mapP hp8 fun _ _ q => RuleAt.mono (fun b xs z => kt _ _ z) q) (.cons ⟨rfl, tv, rfl, kt _ _ htv⟩ .nil)
      · rintro σ H8 ⟨o9, o10, o11, o12, kks, rfl, sm8, hk8, hp8⟩
        rw [Int.toNat_natCast, ← keptR_succ] at hp8
        exact ⟨_, _, _, _, _, kks, rfl, sm8, hk8, hp8⟩
    rintro σ H7 ⟨o8, o9, o10, o11, o12, kks, rfl, sm7, hk7, hp7⟩
    rw [Int.toNat_natCast] at hp7
    have hfa := sm7 _ _ (frS _ _ e3)
    have gs : 0 < G := by omega
    refine ⟨_, rfl, _, rfl, _, rfl, fa, rfl, ⟨_, SqT.of hfa⟩, fun D nD => ?_⟩
    have kD : kd ≠ D := fun z => by rw [← z, hk7] at nD; cases nD
    refine lc_tup (K := K) (a := fa) (xs := pl.floor.map fun n : Nat => V.int n) (fun i H8 => Same H7 H8 ∧ H8 D = some (.lst ((pl.floor.take i).map fun n : Nat => V.int (n % G : Nat)))) ⟨sameUpd (Same.refl H7) nD, upd_same⟩ (fun i H8 _ ⟨sm, _⟩ => SqT.of (sm _ _ hfa)) ?_ ?_
    · rintro i x H8 hx ⟨sm, hD⟩
      rw [List.getElem?_map] at hx
      cases hai : pl.floor[i]? with
      | none => rw [hai] at hx; cases hx
      | some ai =>
        rw [hai] at hx
        cases hx
        have fsa8 := fsa.mono fun _ z => sm _ _ (sm7 _ _ z)
        refine ⟨rfl, _, rfl, _, rfl, sa2, _, rfl, .inr fsa8.sq, _, _, rfl, rfl, by rw [List.length_map]; omega, ?_⟩
        refine ⟨_, hD, by rw [List.length_map, List.length_take, sizeLine_eq]; omega, sameUpd sm nD, ?_⟩
        rw [upd_same, List.length_map, ← hG, List.take_succ (l := pl.floor), hai, List.map_append]
        rfl
    rintro H8 ⟨s8, hD⟩
    rw [List.length_map, List.take_length] at hD
    refine ⟨D, _, rfl, .inl ⟨SqL.of hD, fun fa2 nfa2 => ?_⟩⟩
    have eF : ((pl.floor.map fun n : Nat => V.int (n % G : Nat))) = (pl.floor.map (· % G)).map fun n : Nat => V.int n := by rw [List.map_map]; rfl
    rw [eF]
    have s9 := sameUpd (o := .tup ((pl.floor.map (· % G)).map fun n : Nat => V.int n)) (Same.refl H8) nfa2
    have hfa2 := @upd_same H8 fa2 (.tup ((pl.floor.map (· % G)).map fun n : Nat => V.int n))
    have s79 := s8.trans s9
    generalize upd H8 fa2 (.tup ((pl.floor.map (· % G)).map fun n : Nat => V.int n)) = H9 at *
    have sF9 := sm7.trans s79
    have s29 := frS.trans sF9
    have hk9 := s79 _ _ hk7
    have hp9 : Paired (RuleAt H9) (keptR G M pl.rules M) kks := Paired.mapP hp7 fun _ _ q => RuleAt.mono (fun b xs z => s79 _ _ z) q
    have last : ∀ (ra2 : Addr) (H10 : Hp), Same H9 H10 → H10 ra2 = some (.tup ((ras.take 2).map V.ref)) → ∀ t, H10 t = none → Q (.ref t) (upd H10 t (.tup [.ref sa2, .ref ma2, .ref fa2, .ref ra2, .ref kd])) := fun ra2 H10 s10 hra2 t nt => by
      have s11 := sameUpd (o := .tup [.ref sa2, .ref ma2, .ref fa2, .ref ra2, .ref kd]) (Same.refl H10) nt
      have sX := s10.trans s11
      have s2X := s29.trans sX
      refine fin t _ s2X ((s29.trans s10).free nt) ⟨sa2, ma2, fa2, ra2, kd, ras.take 2, upd_same, fsa.mono fun _ z => sX _ _ (sF9 _ _ z), fma.mono fun _ z => sX _ _ (sF9 _ _ z), sX _ _ hfa2, s11 _ _ hra2, ?_, kks, sX _ _ hk9, Paired.mapP hp9 fun _ _ q => RuleAt.mono (fun b xs z => sX _ _ z) q⟩
      exact Paired_take (Paired.mapP e5 fun _ _ q => s2X _ _ q) 2
    refine ⟨_, rfl, _, rfl, ra, _, rfl, SqT.of (s29 _ _ e4), fun hwh => ?_, fun hwh ra2 nra2 => ?_⟩
    · have e2 : ras.take 2 = ras := by
        have h2 := hwh.2
        rw [show (some (2 : Int)) = some ((2 : Nat) : Int) from rfl, HT.sIx_nat, List.length_map] at h2
        exact List.take_of_length_le (by omega)
      refine ⟨_, rfl, (by show 5 ≤ sizeLine; decide), fun t nt => ?_⟩
      exact last ra H9 (Same.refl _) (by rw [e2]; exact s29 _ _ e4) t nt
    · have cr : cutV (ras.map V.ref) none (some 2) = (ras.take 2).map V.ref := (cut_takeB 2).trans List.map_take.symm
      rw [cr]
      refine ⟨_, rfl, (by show 5 ≤ sizeLine; decide), fun t nt => ?_⟩
      exact last ra2 _ (sameUpd (Same.refl H9) nra2) upd_same t nt
theorem ok_sho (T : ShoT K mg) : FnE P w K mg base CX0 4 ("_law_short", none) ["_law_d", "_law_most"] spShort :=
  (ok_shoB T).impJ fun vs H Q E ⟨d, most, e, h1, h2, h3, k⟩ => ⟨d, most, e, h1, h2, h3, fun a H' pl a1 a2 a3 a4 a5 _ a7 a8 => k a H' pl a1 a2 a3 a4 a5 a7 a8⟩
end
end Sw

end

section
set_option maxRecDepth 100000
set_option maxHeartbeats 4000000
/-! dict(pairs) where the keys are tuples of numbers and texts -/
namespace SwA
open PySem PySem.Spec PyProof.Rows L2
theorem hu10r {A : Around} {k : Nat} (hr : Room k A) : A.units + 10 < cLine := Nat.lt_of_le_of_lt (Nat.add_le_add_left (by decide : 10 ≤ 64) _) hr.units
abbrev KvT := List Key × V
def mergeT (xs ps : List KvT) : List KvT := ps.foldl (fun acc p => putK acc p.1 p.2) xs
def PairT (H : Hp) (p : Addr) (kv : KvT) : Prop := ∃ t : Addr, H p = some (.tup [.ref t, kv.2]) ∧ H t = some (.tup (kv.1.map kV))
theorem mergeT_new : ∀ (ps xs : List KvT), ((xs ++ ps).map (·.1)).Nodup → mergeT xs ps = xs ++ ps
  | [], xs, _ => by simp [mergeT]
  | p :: ps, xs, h => by
    have h1 : ∀ x ∈ xs, x.1 ≠ p.1 := fun x hx e => by
      rw [List.map_append, List.nodup_append] at h
      exact h.2.2 x.1 (List.mem_map.mpr ⟨x, hx, rfl⟩) p.1 (by simp) e
    have e : putK xs p.1 p.2 = xs ++ [p] := by
      unfold putK
      have : (xs.any fun kv => decide (kv.1 = p.1)) = false := by
        rw [List.any_eq_false]
        intro x hx
        simpa using h1 x hx
      rw [this]
      rfl
    have ih := mergeT_new ps (xs ++ [p]) (by simpa using h)
    show mergeT (putK xs p.1 p.2) ps = _
    rw [e, ih]
    simp
theorem KT.store {H : Hp} : ∀ {ps : List KvT} {qs : List (List Key × Addr × Value)} {kvs : List KvT} {xs : List (List Key × Addr × Value)}, KT H kvs xs → KT H ps qs → KT H (mergeT kvs ps) (storedAllH xs qs)
  | _, _, _, _, r, .nil => r
  | _, _, _, xs, r, .cons (a := p) (b := q) h t => by
    have r2 := r.put p.1 (b := q.2.1) h.2.1 h.2.2
    have e : storedH xs p.1 q.2.1 q.2.2 = storedH xs q.1 q.2.1 q.2.2 := by rw [h.1]
    rw [e] at r2
    exact KT.store (ps := _) (kvs := putK _ p.1 p.2) (xs := storedH xs q.1 q.2.1 q.2.2) r2 t
theorem mergeT_len : ∀ (ps xs : List KvT), (mergeT xs ps).length ≤ xs.length + ps.length
  | [], xs => Nat.le_refl _
  | p :: ps, xs => by
    have h1 := mergeT_len ps (putK xs p.1 p.2)
    have h2 : (putK xs p.1 p.2).length ≤ xs.length + 1 := by
      unfold putK
      split <;> simp
    show (mergeT (putK xs p.1 p.2) ps).length ≤ _
    rw [List.length_cons]
    omega
def rDictT (K : PySem.W.Frag) : List V → Hp → VK → Prop := fun xs H Q => ∃ (a : Addr) (ps : List Addr) (kvs : List KvT), xs = [.ref a] ∧ SqL K H a (ps.map V.ref) ∧ Paired (PairT H) ps kvs ∧
    ∀ d, H d = none → Q (.ref d) (upd H d (.dT (mergeT [] kvs)))
section
variable {X : Cx} {pins : List (Addr × Obj)} {s : Shared} {σ : L2.St} {H : Hp}
theorem pairsT_of (I : Inv X pins σ H s) : ∀ {ps : List Addr} {kvs : List KvT}, Paired (PairT H) ps kvs →
    ∃ prs : List (List Key × Addr × Value), KT H kvs prs ∧ prs.length = ps.length ∧ ∀ (j : Nat) (q : List Key × Addr × Value), prs[j]? = some q → ∃ b : Addr, ps[j]? = some b ∧ IsTup s.heap b #[.ref q.2.1, q.2.2]
  | _, _, .nil => ⟨[], .nil, rfl, fun j q e => by simp at e⟩
  | _, _, .cons (a := p) (b := kv) ⟨t0, h1, h2⟩ t => by
    obtain ⟨prs, r, hl, hp⟩ := pairsT_of I t
    obtain ⟨its, rv, ht, _⟩ := I.tuple (SqT.of h1)
    obtain ⟨u, y, ei, ru, ry⟩ := vals2 rv
    subst ei
    obtain rfl : u = Value.ref t0 := ru
    refine ⟨(kv.1, t0, y) :: prs, .cons ⟨rfl, h2, ry⟩ r, by rw [List.length_cons, List.length_cons, hl], fun j q e => ?_⟩
    cases j with
    | zero =>
      have e' : (kv.1, t0, y) = q := Option.some.inj e
      subst e'
      exact ⟨p, rfl, ht⟩
    | succ j =>
      obtain ⟨b, e1, e2⟩ := hp j q (by simpa using e)
      exact ⟨b, by simpa using e1, e2⟩
theorem KT.keysOk {P : Program} {w : World} {h : Heap} (ok : HOk P w H h) : ∀ {kvs : List KvT} {prs : List (List Key × Addr × Value)}, KT H kvs prs → ∀ x ∈ prs, (tupleKind (mixKind P w)).is h x.1 x.2.1
  | _, _, .nil, _, hx => nomatch hx
  | _, _, .cons hq t, x, hx => by
    rcases List.mem_cons.mp hx with e | e
    · rw [e]
      exact key_of ok (by rw [← hq.1]; exact hq.2.1)
    · exact KT.keysOk ok t x e
theorem call_dictT (hcalm : X.calm = true) (hu : X.A.units + 10 < cLine) : CallR X (.type "dict") (rDictT X.K) := by
  intro pins s σ H xs us Q I r q
  obtain ⟨a, ps, kvs, ex, hq, hp, q⟩ := q
  subst ex
  obtain ⟨u, eu, rx⟩ := vals1 r
  subst eu
  cases rx
  obtain ⟨its, rv, pl, hz⟩ := I.list hq
  have ei := refs_at rv
  subst ei
  rw [List.length_map] at hz
  obtain ⟨prs, rel, hl, hpr⟩ := pairsT_of I hp
  obtain ⟨o, n, ho, hc, hd, hdat⟩ := pl
  have hki := KT.keysOk I.hok rel
  refine call_dict_pairsH (knd := tupleKind (mixKind X.prog X.w)) (ps := prs) (PairArg.list a (ps.map Value.ref).toArray (fun j => ps.getD j 0) (prs.map fun q => (Value.ref q.2.1, q.2.2))) (I.ok.hd hcalm) ?hu ⟨⟨o, n, ho, hc, hd, hdat⟩, ?hi⟩ ?hc ?hst ?hsz fun h' tk hd' k => ?_
  case hu =>
    show (X.A.in1.in1).units < cLine
    rw [Around.in1_units, Around.in1_units]
    omega
  case hi =>
    refine ⟨by simp [hl], fun j k v hj => ?_⟩
    rw [List.getElem?_map] at hj
    obtain ⟨q', e1, e2⟩ := Option.map_eq_some_iff.mp hj
    obtain ⟨b, e3, e4⟩ := hpr j q' e1
    cases e2
    have e5 : ps.getD j 0 = b := by rw [List.getD_eq_getElem?_getD, e3]; rfl
    show _ = some (Value.ref (ps.getD j 0)) ∧ PairAt s.heap (ps.getD j 0) _ _
    rw [e5]
    exact ⟨by simp [e3], .inl e4⟩
  case hc =>
    refine ⟨by rw [List.length_map], fun i key v hr => ?_⟩
    have hr : (prs.map fun q => (Value.ref q.2.1, q.2.2))[i]? = some (key, v) := hr
    rw [List.getElem?_map] at hr
    obtain ⟨q', e1, e2⟩ := Option.map_eq_some_iff.mp hr
    cases e2
    exact ⟨_, _, e1, rfl⟩
  case hst =>
    intro h' hk x hx
    obtain ⟨o1, vs1, n1, h1, h2, h3, h4⟩ := hki x hx
    exact ⟨o1, vs1, n1, hk _ _ (Nat.ne_of_lt (Heap.lt_size h1)) (by simp) h1, h2, h3, h4⟩
  case hsz => rw [List.length_map, hl]; exact hz
  · obtain ⟨o', es, ep, g1, g2, g3, g4, g5, g6⟩ := hd'
    have hm : (s.heap.objs.size == sysModules) = false := beq_eq_false_iff_ne.mpr (Nat.ne_of_gt I.big)
    have hlen : (mergeT [] kvs).length ≤ sizeLine := by
      refine Nat.le_trans (mergeT_len kvs []) ?_
      rw [List.length_nil, Nat.zero_add, Paired.length rel, hl]
      exact hz
    have nF := I.hok.fresh (Nat.le_refl s.heap.objs.size)
    have rel2 : KT (upd H s.heap.objs.size (.dT (mergeT [] kvs))) (mergeT [] kvs) (storedAllH [] prs) := (KT.store .nil rel).keeps fun b ys e => (upd_ne (ne_of_none e nF)).trans e
    exact ⟨.ref s.heap.objs.size, upd H s.heap.objs.size (.dT (mergeT [] kvs)), I.laid (t' := tk) (fun b ob e => k b ob (by simp) e) (Nat.le_refl _) (show ObjOk X.prog X.w _ _ _ (.dT (mergeT [] kvs)) from ⟨hlen, hm, storedAllH [] prs, rel2, o', es, ep, g1, g2, g3, g4, g6⟩), rfl, q _ nF⟩
end
end SwA

end

section
set_option maxRecDepth 100000
set_option maxHeartbeats 4000000
/-! the law's own: another plan -/
namespace Sw
open PySem PySem.Spec PyProof.Rows L2 SwA
theorem valV_at {κ : Type} [DecidableEq κ] : ∀ {kvs : List (κ × V)} {i : Nat} {k : κ} {v : V}, (kvs.map (·.1)).Nodup → kvs[i]? = some (k, v) → valV kvs k = some v
  | [], i, k, v, _, e => by simp at e
  | kv :: r, 0, k, v, _, e => by
    have e : kv = (k, v) := by simpa using e
    subst e
    exact valV_pos rfl
  | kv :: r, i + 1, k, v, h, e => by
    rw [List.map_cons, List.nodup_cons] at h
    have e : r[i]? = some (k, v) := by simpa using e
    have hne : ¬ kv.1 = k := fun z => h.1 (z ▸ List.mem_map.mpr ⟨_, List.mem_of_getElem? e, rfl⟩)
    rw [valV_neg hne]
    exact valV_at h.2 e
theorem rules_nodup {H : Hp} {rs : List ((Nat × Nat) × Rule)} {kvs : List (List Key × V)} (h : Paired (RuleAt H) rs kvs) (nd : (rs.map (·.1)).Nodup) : (kvs.map (·.1)).Nodup := by
  rw [rules_keys h]
  exact List.Pairwise.map _ (fun a b n e => n (keyT_inj.mp e)) nd
/-- a comprehension over the keys of a locked dict -/
theorem lc_keysT {d : Addr} {o : Obj} {kvs : List (List Key × V)} {g : TG} {tt : TT} {te : TE} {vs : List Nat} {σ : L2.St} {H1 : Hp} {D : Addr} {Qd : Hp → Prop} (Pv : Nat → Hp → Prop) (h0 : Pv 0 (upd H1 D (.lst []))) (hl : ∀ i H, Pv i H → H d = some (.frz o (.dT kvs)))
    (hs : ∀ (i : Nat) (k : List Key) (v : V) (q : Addr) (H : Hp), kvs[i]? = some (k, v) → H q = some (.tup (k.map kV)) → Pv i H → g (.ref q) (wipe σ vs) H fun σ2 H2 => wipe σ2 vs = wipe σ vs ∧ tt σ2 H2 fun b H3 =>
      if b = true then te σ2 H3 fun y H4 => ∃ acc, H4 D = some (.lst acc) ∧ acc.length < sizeLine ∧ Pv (i + 1) (upd H4 D (.lst (acc ++ [y]))) else Pv (i + 1) H3) (hd : ∀ H, Pv kvs.length H → Qd H) :
    ∃ W : Nat → Nat → Hp → Prop, (∃ m, W 0 m (upd H1 D (.lst []))) ∧ ∀ i m H, W i m H →
      ((Itkt d o kvs).stop i H ∧ Qd H) ∨ ((Itkt d o kvs).go i H ∧ ∃ Nx : Hp → Prop, (∀ H', Nx H' → ∃ m', m' < m ∧ W (i + 1) m' H') ∧ ∀ x H', (Itkt d o kvs).yld i H x H' → g x (wipe σ vs) H' fun σ2 H2 => wipe σ2 vs = wipe σ vs ∧ tt σ2 H2 fun b H3 =>
        if b = true then te σ2 H3 fun y H4 => ∃ acc, H4 D = some (.lst acc) ∧ acc.length < sizeLine ∧ Nx (upd H4 D (.lst (acc ++ [y]))) else Nx H3) := by
  refine ⟨fun i m H => m = kvs.length - i ∧ i ≤ kvs.length ∧ Pv i H, ⟨kvs.length, by simp, Nat.zero_le _, h0⟩, ?_⟩
  rintro i m H ⟨rfl, hi, p⟩
  have q := hl i H p
  by_cases hlt : i < kvs.length
  · refine .inr ⟨⟨q, hlt⟩, Pv (i + 1), fun H' p' => ⟨kvs.length - (i + 1), by omega, rfl, hlt, p'⟩, fun x H' y => ?_⟩
    obtain ⟨e, k, v, b, e1, e2, e3⟩ := y
    subst e e2
    exact hs i k v b _ e1 e3 p
  · have e : i = kvs.length := by omega
    subst e
    exact .inl ⟨⟨q, Nat.le_refl _⟩, hd H p⟩
theorem same_unlock {H H' : Hp} {d : Addr} {o : Obj} {u : HO} (hd : H d = some u) (s : Same (upd H d (.frz o u)) H') : Same H (upd H' d u) := fun b x e => by
  by_cases h : b = d
  · subst h
    rw [hd] at e
    rw [upd_same]
    exact e
  · rw [upd_ne h]
    exact s _ _ ((upd_ne h).trans e)
/-! the plain part -/
theorem ltP_tri (a b : Nat × Nat) (h : b ≠ a) (h2 : ¬ LtP a b) : LtP b a := by
  unfold LtP at *
  have : ¬ (b.1 = a.1 ∧ b.2 = a.2) := fun z => h (Prod.ext z.1 z.2)
  omega
theorem ins_sorted (x : (Nat × Nat) × Rule) : ∀ so : List ((Nat × Nat) × Rule), SortedR so → (∀ y ∈ so, y.1 ≠ x.1) → ∃ so', (x :: so).Perm so' ∧ SortedR so'
  | [], _, _ => ⟨[x], .refl _, by simp [SortedR]⟩
  | y :: so, h, hn => by
    have h' := h
    unfold SortedR at h'
    rw [List.map_cons, List.pairwise_cons] at h'
    by_cases c : LtP x.1 y.1
    · refine ⟨x :: y :: so, .refl _, ?_⟩
      unfold SortedR
      rw [List.map_cons, List.pairwise_cons]
      refine ⟨fun z hz => ?_, h⟩
      rw [List.map_cons] at hz
      rcases List.mem_cons.mp hz with e | e
      · rw [e]; exact c
      · have := h'.1 z e
        unfold LtP at c
        omega
    · have c2 := ltP_tri x.1 y.1 (hn y List.mem_cons_self) c
      obtain ⟨so', p, s⟩ := ins_sorted x so h'.2 fun z hz => hn z (List.mem_cons_of_mem _ hz)
      refine ⟨y :: so', (List.Perm.swap y x so).trans (p.cons y), ?_⟩
      unfold SortedR
      rw [List.map_cons, List.pairwise_cons]
      refine ⟨fun z hz => ?_, s⟩
      obtain ⟨q, hq, rfl⟩ := List.mem_map.mp hz
      rcases List.mem_cons.mp (p.mem_iff.mpr hq) with e | e
      · rw [e]; exact c2
      · exact h'.1 _ (List.mem_map.mpr ⟨q, e, rfl⟩)
theorem sort_rules : ∀ rs : List ((Nat × Nat) × Rule), (rs.map (·.1)).Nodup → ∃ so, rs.Perm so ∧ SortedR so
  | [], _ => ⟨[], .refl _, by simp [SortedR]⟩
  | x :: rs, h => by
    rw [List.map_cons, List.nodup_cons] at h
    obtain ⟨so, p, s⟩ := sort_rules rs h.2
    obtain ⟨so', p2, s2⟩ := ins_sorted x so s fun y hy e => h.1 (e ▸ List.mem_map.mpr ⟨y, p.mem_iff.mpr hy, rfl⟩)
    exact ⟨so', (p.cons x).trans p2, s2⟩
theorem putA_keys {κ α : Type} [DecidableEq κ] {l : List (κ × α)} {k : κ} {v : α} (h : (l.map (·.1)).Nodup) : ((putA l k v).map (·.1)).Nodup := by
  unfold putA
  split
  · have e : (l.map fun kv => if kv.1 = k then (kv.1, v) else kv).map (·.1) = l.map (·.1) := by
      rw [List.map_map]
      refine List.map_congr_left fun x _ => ?_
      show (if x.1 = k then (x.1, v) else x).1 = x.1
      split <;> rfl
    first
      | (rw [e]; exact h)
      | (simp only [List.map_map] at *; exact e ▸ h)
  · rename_i hn
    rw [List.map_append, List.nodup_append]
    refine ⟨h, by simp, fun x hx y hy e => ?_⟩
    have hy : y = k := by simpa using hy
    subst hy e
    obtain ⟨q, hq, e⟩ := List.mem_map.mp hx
    exact hn (List.any_eq_true.mpr ⟨q, hq, decide_eq_true e⟩)
theorem mem_putA {κ α : Type} [DecidableEq κ] {l : List (κ × α)} {k : κ} {v : α} {x : κ × α} (h : x ∈ putA l k v) : x ∈ l ∨ x = (k, v) := by
  unfold putA at h
  split at h
  · obtain ⟨y, hy, rfl⟩ := List.mem_map.mp h
    by_cases e : y.1 = k
    · exact .inr (by simp [e])
    · exact .inl (by simpa [e] using hy)
  · rcases List.mem_append.mp h with h | h
    · exact .inl h
    · exact .inr (List.mem_singleton.mp h)
/-- a plan like pl, its rules in any order -/
structure Oth (pl q : Plan) : Prop where
  s : q.signs = pl.signs
  m : q.moods = pl.moods
  n : q.floor.length = pl.floor.length
  fl : ∀ x ∈ q.floor, x < pl.signs.length
  r1 : q.robots ≠ []
  rt : ∀ r ∈ q.robots, r.1 < pl.floor.length
  r2 : q.robots.length = pl.robots.length ∨ (q.robots.length ≤ 2 ∧ pl.signs.length ≤ 2 ∧ pl.moods.length ≤ 2)
  rn : (q.rules.map (·.1)).Nodup
  ru : ∀ kv ∈ q.rules, RuleOk pl.signs.length pl.moods.length kv
theorem Oth.self {pl : Plan} (wf : WfP pl) : Oth pl pl := ⟨rfl, rfl, rfl, wf.fl, wf.r1, wf.rt, .inl rfl, wf.rn, wf.ru⟩
theorem Oth.fin {pl q : Plan} (h : Oth pl q) (wf : WfP pl) (sm : Small pl) : ∃ so, WfP { q with rules := so } ∧ Small { q with rules := so } ∧ SortedR so ∧ q.rules.Perm so := by
  obtain ⟨so, p, s⟩ := sort_rules q.rules h.rn
  have w1 := wf.s4
  have w2 := wf.m6
  have w3 := wf.n1
  have w4 := wf.n16
  have w5 := wf.r3
  have hr3 : q.robots.length ≤ 3 := by rcases h.r2 with z | z <;> omega
  refine ⟨so, ⟨by rw [h.s]; exact wf.sN, by rw [h.m]; exact wf.mN, by rw [h.s]; exact wf.s1, by rw [h.s]; exact w1, by rw [h.m]; exact wf.m1, by rw [h.m]; exact w2, by show 1 ≤ q.floor.length; rw [h.n]; exact w3, by show q.floor.length ≤ 16; rw [h.n]; exact w4, fun x hx => by rw [h.s]; exact h.fl x hx, h.r1, hr3, fun r hr => by show r.1 < q.floor.length; rw [h.n]; exact h.rt r hr, ?_, fun kv hk => ?_⟩, ?_, s, p⟩
  · exact SortedR.nodup s
  · have := h.ru kv (p.mem_iff.mpr hk)
    rw [← h.s, ← h.m] at this
    exact this
  · obtain ⟨a, b⟩ := sm
    refine ⟨by show q.floor.length ≤ 4; rw [h.n]; exact a, ?_⟩
    show (q.robots.length = 1 ∧ q.signs.length ≤ 4 ∧ q.moods.length ≤ 3) ∨ (q.robots.length ≤ 2 ∧ q.signs.length ≤ 2 ∧ q.moods.length ≤ 2)
    rw [h.s, h.m]
    rcases h.r2 with z | z
    · rw [z]; exact b
    · exact .inr z
def OthAt (H : Hp) (sa ma fa ra ch : Addr) (q : Plan) : Prop := TupN H sa (q.signs.map sV) ∧ TupN H ma (q.moods.map sV) ∧ H fa = some (.tup (iVn q.floor)) ∧ (∃ ras : List Addr, H ra = some (.tup (ras.map V.ref)) ∧ Paired (RobAt H) ras q.robots) ∧ RulesAt H ch q.rules
theorem OthAt.same {H H' : Hp} {sa ma fa ra ch : Addr} {q : Plan} (h : OthAt H sa ma fa ra ch q) (s : Same H H') : OthAt H' sa ma fa ra ch q :=
  let ⟨h1, h2, h3, ⟨ras, h4, h5⟩, kvs, h6, h7⟩ := h
  ⟨h1.mono fun _ z => s _ _ z, h2.mono fun _ z => s _ _ z, s _ _ h3, ⟨ras, s _ _ h4, Paired.mapP h5 fun _ _ q => s _ _ q⟩, kvs, s _ _ h6, Paired.mapP h7 fun _ _ q => RuleAt.mono (fun _ _ z => s _ _ z) q⟩
theorem OthAt.drawn {H H' : Hp} {d sa ma fa ra ch : Addr} {q : Plan} (hd : DrawAt H d) (dr : Drawn d H H') (h : OthAt H sa ma fa ra ch q) : OthAt H' sa ma fa ra ch q := by
  have k : ∀ {x : Addr} {o : HO}, H x = some o → (∀ xs, o ≠ .lst xs) → H' x = some o := fun h n => dr.same _ _ (hd.not h n) h
  obtain ⟨⟨o1, c1, d1, h1⟩, ⟨o2, c2, d2, h2⟩, h3, ⟨ras, h4, h5⟩, kvs, h6, h7⟩ := h
  exact ⟨⟨o1, c1, d1, k h1 (by simp)⟩, ⟨o2, c2, d2, k h2 (by simp)⟩, k h3 (by simp), ⟨ras, k h4 (by simp), Paired.mapP h5 fun _ _ q => k q (by simp)⟩, kvs, k h6 (by simp), Paired.mapP h7 fun _ _ q => RuleAt.mono (fun _ _ z => k z (by simp)) q⟩
theorem OthAt.put {H : Hp} {sa ma fa ra ch t : Addr} {q : Plan} {kvs : List (List Key × V)} {k : Nat × Nat} {r : Rule} (h : OthAt H sa ma fa ra ch q) (hk : H ch = some (.dT kvs)) (hp : Paired (RuleAt H) q.rules kvs) (ht : H t = some (.tup [.int r.left, sV r.move, .int r.later])) :
    OthAt (upd H ch (.dT (putK kvs (keyT k) (.ref t)))) sa ma fa ra ch { q with rules := putA q.rules k r } := by
  obtain ⟨⟨o1, c1, d1, h1⟩, ⟨o2, c2, d2, h2⟩, h3, ⟨ras, h4, h5⟩, _⟩ := h
  have kt := keepT (o' := .dT (putK kvs (keyT k) (.ref t))) hk (fun xs q => by cases q)
  have kf : ∀ {b : Addr} {o : Obj} {xs : List V}, H b = some (.frz o (.tup xs)) → upd H ch (.dT (putK kvs (keyT k) (.ref t))) b = some (.frz o (.tup xs)) := fun e => (upd_ne (ne_of e hk (by intro z; cases z))).trans e
  exact ⟨⟨o1, c1, d1, kf h1⟩, ⟨o2, c2, d2, kf h2⟩, kt _ _ h3, ⟨ras, kt _ _ h4, Paired.mapP h5 fun _ _ q => kt _ _ q⟩, _, upd_same, Paired.mapP (rules_put (k := k) (r := r) ht hp) fun _ _ q => RuleAt.mono (fun _ _ z => kt _ _ z) q⟩
end Sw

end

section
set_option maxRecDepth 100000
set_option maxHeartbeats 4000000
/-! names of signs as data -/
namespace Sw
open PySem PySem.Spec PyProof.Rows L2 SwA
theorem shd_gd {ns : List Cs} (h : ∀ z ∈ ns, ∀ c ∈ z, isL c = true) (i : Nat) : ShD 1 (.str (sx (ns.getD i []))) := by
  rw [List.getD_eq_getElem?_getD]
  cases e : ns[i]? with
  | none => exact shd_nm (cs := []) fun c hc => nomatch hc
  | some z => exact shd_nm (h z (List.mem_of_getElem? e))
theorem shd_names {ns : List Cs} (h : ∀ z ∈ ns, ∀ c ∈ z, isL c = true) (fl : List Nat) : ShD 2 (.list (strsD (fl.map fun s => ns.getD s []))) := shd_list fun d hd => by
  obtain ⟨z, hz, rfl⟩ := List.mem_map.mp hd
  obtain ⟨i, _, rfl⟩ := List.mem_map.mp hz
  exact shd_gd h i
theorem names_map {signs : List Cs} (fl : List Nat) : namesV signs fl = (fl.map fun s => signs.getD s []).map sV := by rw [List.map_map]; rfl
theorem dp_names {K : PySem.W.Frag} {H : Hp} {l : Addr} {signs : List Cs} {fl : List Nat} (h : H l = some (.lst (namesV signs fl))) : Dp K H (.ref l) (.list (strsD (fl.map fun s => signs.getD s []))) := .lst (SqL.of h) (by rw [names_map]; exact dpa_strs _)
theorem map_inj_on {α β : Type} {f : α → β} : ∀ {xs ys : List α}, (∀ x ∈ xs, ∀ y ∈ ys, f x = f y → x = y) → xs.map f = ys.map f → xs = ys
  | [], [], _, _ => rfl
  | [], _ :: _, _, h => by cases h
  | _ :: _, [], _, h => by cases h
  | x :: xs, y :: ys, hf, h => by
    injection h with h1 h2
    rw [hf x List.mem_cons_self y List.mem_cons_self h1, map_inj_on (fun a ha b hb => hf a (List.mem_cons_of_mem _ ha) b (List.mem_cons_of_mem _ hb)) h2]
theorem names_inj {signs : List Cs} (nd : signs.Nodup) {f g : List Nat} (hf : ∀ x ∈ f, x < signs.length) (hg : ∀ x ∈ g, x < signs.length) : (f.map fun s => signs.getD s []) = (g.map fun s => signs.getD s []) ↔ f = g := by
  refine ⟨fun h => map_inj_on (fun x hx y hy e => ?_) h, fun h => by rw [h]⟩
  have h1 := hf x hx
  have h2 := hg y hy
  rw [List.getD_eq_getElem?_getD, List.getD_eq_getElem?_getD, List.getElem?_eq_getElem h1, List.getElem?_eq_getElem h2] at e
  exact (List.getElem_inj nd).mp e
theorem eqvA_strs : ∀ xs ys : List Cs, PyData.eqvAll (strsD xs) (strsD ys) = decide (xs = ys)
  | [], [] => by simp [PyData.eqvAll]
  | [], _ :: _ => by simp [PyData.eqvAll]
  | _ :: _, [] => by simp [PyData.eqvAll]
  | x :: xs, y :: ys => by
    have ih := eqvA_strs xs ys
    simp only [List.map_cons, PyData.eqvAll, PyData.eqv] at ih ⊢
    rw [ih]
    by_cases h : x = y
    · subst h
      by_cases h2 : xs = ys
      · simp [h2]
      · simp [h2]
    · have : (sx x == sx y) = false := by
        rw [beq_eq_false_iff_ne]
        exact fun z => h (sx_inj z)
      simp [this, h]
theorem eqv_strsL (xs ys : List Cs) : PyData.eqv (.list (strsD xs)) (.list (strsD ys)) = decide (xs = ys) := by
  rw [PyData.eqv]
  exact eqvA_strs xs ys
/-- two lists of names of signs -/
theorem eqv_names {p q : Plan} (wf : WfP p) (wfq : WfP q) (hs : q.signs = p.signs) (i j : Nat) :
    PyData.eqv (.list (strsD ((stN p i).floor.map fun s => p.signs.getD s []))) (.list (strsD ((stN q j).floor.map fun s => q.signs.getD s []))) = decide ((stN p i).floor = (stN q j).floor) := by
  rw [eqv_strsL, hs]
  have hq := st_si wfq j
  rw [hs] at hq
  exact decide_eq_decide.mpr (names_inj wf.sN.nd (st_si wf i) hq)
end Sw

end

section
set_option maxRecDepth 100000
set_option maxHeartbeats 4000000
/-! the letters of a plan's text -/
namespace Sw
open PySem PySem.Spec PyProof.Rows L2 SwA
theorem lines_ok {pl : Plan} (h : WfP pl) : ∀ ws ∈ linesW pl, ∀ w ∈ ws, Wd w ∨ Nm w := by
  have kw : ∀ w, w ∈ kws → Wd w ∨ Nm w := fun w hw => .inl (kw_wd w hw)
  have n16 := h.n16
  intro ws hws
  rcases List.mem_append.mp hws with z | z
  · have z : ws = [wCorridor, dec pl.floor.length] ∨ ws = wSigns :: pl.signs ∨ ws = wMoods :: pl.moods := by simpa [headW] using z
    intro w hw
    rcases z with rfl | rfl | rfl
    · rcases (show w = wCorridor ∨ w = dec pl.floor.length by simpa using hw) with rfl | rfl
      · exact kw _ (by decide +kernel)
      · exact .inr (dec_nm (by omega)).1
    · rcases List.mem_cons.mp hw with rfl | hw
      · exact kw _ (by decide +kernel)
      · exact .inl (h.sN.ok w hw).1
    · rcases List.mem_cons.mp hw with rfl | hw
      · exact kw _ (by decide +kernel)
      · exact .inl (h.mN.ok w hw).1
  · obtain ⟨s, hs, rfl⟩ := List.mem_map.mp z
    exact (stm_words h s hs).2
theorem word_small {w : Cs} (h : Wd w ∨ Nm w) : ∀ c ∈ w, c < 128 := fun c hc => by
  rcases h with ⟨h, _⟩ | ⟨h, _⟩
  · have := h c hc
    unfold isL at this
    rw [Bool.and_eq_true, Nat.ble_eq, Nat.ble_eq] at this
    omega
  · have := h c hc
    unfold isD at this
    rw [Bool.and_eq_true, Nat.ble_eq, Nat.ble_eq] at this
    omega
theorem words_small : ∀ {ws : List Cs}, (∀ w ∈ ws, Wd w ∨ Nm w) → ∀ c ∈ wordsOf ws, c < 128
  | [], _, c, hc => nomatch hc
  | [w], h, c, hc => word_small (h w List.mem_cons_self) c hc
  | w :: w2 :: r, h, c, hc => by
    have hc : c ∈ w ++ 32 :: wordsOf (w2 :: r) := hc
    rcases List.mem_append.mp hc with z | z
    · exact word_small (h w List.mem_cons_self) c z
    · rcases List.mem_cons.mp z with z | z
      · omega
      · exact words_small (fun v hv => h v (List.mem_cons_of_mem _ hv)) c z
theorem join_small : ∀ {ls : List Cs}, (∀ l ∈ ls, ∀ c ∈ l, c < 128) → ∀ c ∈ TL.joinL [10] ls, c < 128
  | [], _, c, hc => nomatch hc
  | [l], h, c, hc => h l List.mem_cons_self c hc
  | l :: l2 :: r, h, c, hc => by
    have hc : c ∈ l ++ ([10] ++ TL.joinL [10] (l2 :: r)) := hc
    rcases List.mem_append.mp hc with z | z
    · exact h l List.mem_cons_self c z
    · rcases List.mem_append.mp z with z | z
      · have := List.mem_singleton.mp z
        omega
      · exact join_small (fun v hv => h v (List.mem_cons_of_mem _ hv)) c z
theorem text_small {pl : Plan} (h : WfP pl) : ∀ c ∈ textOf pl, c < 128 := join_small fun l hl c hc => by
  obtain ⟨ws, hws, rfl⟩ := List.mem_map.mp hl
  rcases List.mem_append.mp hc with z | z
  · exact words_small (lines_ok h ws hws) c z
  · have := List.mem_singleton.mp z
    omega
theorem text_sh {pl : Plan} (h : WfP pl) : ShD 1 (.str (sx (textOf pl))) := shd_sx fun c hc => Nat.lt_trans (text_small h c hc) (by decide)
end Sw

end

section
set_option maxRecDepth 100000
set_option maxHeartbeats 4000000
/-! robots, signs, traces and waits as data (names as in SwDd and SwZ09: not beside them) -/
namespace Sw
open PySem PySem.Spec PyProof.Rows L2 SwA
def robD (moods : List Cs) (r : Rob) : PyData := .tuple [.int r.1, .str (wayS r.2.1), .str (sx (moods.getD r.2.2 []))]
theorem dpa_robs {K : PySem.W.Frag} {moods : List Cs} {H : Hp} : ∀ {ts : List Addr} {rs : List Rob}, Paired (RobT moods H) ts rs → DpAll K H (ts.map V.ref) (rs.map (robD moods))
  | _, _, .nil => .nil
  | _, _, .cons h t => .cons (.tup (SqT.of h) (.cons (.int _) (.cons (.str _) (.cons (.str _) .nil)))) (dpa_robs t)
theorem shd_way (b : Bool) : ShD 1 (.str (wayS b)) := by
  cases b
  · exact shd_str (x := "left") (by decide +kernel)
  · exact shd_str (x := "right") (by decide +kernel)
theorem shd_robs {moods : List Cs} (h : ∀ z ∈ moods, ∀ c ∈ z, isL c = true) (rs : List Rob) : ShD 3 (.list (rs.map (robD moods))) := shd_list fun d hd => by
  obtain ⟨r, _, rfl⟩ := List.mem_map.mp hd
  refine shd_tuple fun d hd => ?_
  simp only [List.mem_cons, List.not_mem_nil, or_false] at hd
  rcases hd with rfl | rfl | rfl
  · exact shd_int _
  · exact shd_way _
  · exact shd_gd h _
def trD (x : Trc) : PyData := .tuple [.int x.1, .int x.2.1, .int x.2.2.1, .str (sx x.2.2.2)]
theorem dpa_trs {K : PySem.W.Frag} {H : Hp} : ∀ {ts : List Addr} {rs : List Trc}, Paired (TrcAt H) ts rs → DpAll K H (ts.map V.ref) (rs.map trD)
  | _, _, .nil => .nil
  | _, _, .cons h t => .cons (.tup (SqT.of h) (.cons (.int _) (.cons (.int _) (.cons (.int _) (.cons (.str _) .nil))))) (dpa_trs t)
theorem word_mem (pl : Plan) (wf : WfP pl) (t : Nat) : ∀ z ∈ (tkN pl t).words, z = wRest ∨ z ∈ moves := by
  have key : ∀ k, ∀ z ∈ (actsM pl.rules (stN pl t) k).1, z = wRest ∨ z ∈ moves := fun k => by
    induction k with
    | zero => intro z hz; exact nomatch hz
    | succ k ih =>
      intro z hz
      have e1 : (actsM pl.rules (stN pl t) (k + 1)).1 = (actsM pl.rules (stN pl t) k).1 ++ [(actM pl.rules (actsM pl.rules (stN pl t) k).2 k).1] := rfl
      rw [e1] at hz
      rcases List.mem_append.mp hz with hz | hz
      · exact ih z hz
      · rw [List.mem_singleton.mp hz]
        unfold actM
        split
        · exact .inl rfl
        · split
          · exact .inl rfl
          · rename_i q hq
            exact .inr ((mvOk wf) _ _ hq)
  exact key _
theorem word_sh {z : Cs} (h : z = wRest ∨ z ∈ moves) : ShD 1 (.str (sx z)) := shd_nm fun c hc => by
  have h2 : z ∈ wRest :: moves := h.elim (fun e => e ▸ List.mem_cons_self) (List.mem_cons_of_mem _)
  have key : ∀ z ∈ wRest :: moves, ∀ c ∈ z, isL c = true := by decide +kernel
  exact key z h2 c hc
theorem trc_word {pl : Plan} (wf : WfP pl) {a m : Nat} {x : Trc} (h : x ∈ traceM pl a m) : x.2.2.2 = wRest ∨ x.2.2.2 ∈ moves := by
  unfold traceM at h
  obtain ⟨l, hl, hx⟩ := List.mem_flatten.mp h
  obtain ⟨i, hi, rfl⟩ := List.mem_map.mp hl
  unfold trc1 at hx
  obtain ⟨j, hj, rfl⟩ := List.mem_map.mp hx
  refine word_mem pl wf (a + i) _ ?_
  show (tkN pl (a + i)).words.getD j [] ∈ _
  rw [List.getD_eq_getElem?_getD, List.getElem?_eq_getElem (List.mem_range.mp hj)]
  exact List.getElem_mem _
theorem shd_trs {pl : Plan} (wf : WfP pl) (a m : Nat) : ShD 3 (.list ((traceM pl a m).map trD)) := shd_list fun d hd => by
  obtain ⟨x, h, rfl⟩ := List.mem_map.mp hd
  refine shd_tuple fun d hd => ?_
  simp only [List.mem_cons, List.not_mem_nil, or_false] at hd
  rcases hd with rfl | rfl | rfl | rfl
  · exact shd_int _
  · exact shd_int _
  · exact shd_int _
  · exact word_sh (trc_word wf h)
def wtD : Option Wt → PyData
  | none => .none
  | some x => .tuple [.int x.1, .int x.2.1, .int x.2.2]
theorem dp_wt {K : PySem.W.Frag} {H : Hp} {v : V} : ∀ {o : Option Wt}, WtV H v o → Dp K H v (wtD o)
  | none, h => by
    obtain rfl : v = .non := h
    exact .non
  | some _, ⟨p, e, h⟩ => by
    subst e
    exact .tup (SqT.of h) (.cons (.int _) (.cons (.int _) (.cons (.int _) .nil)))
theorem shd_wt : ∀ o : Option Wt, ShD 2 (wtD o)
  | none => shd_none.mono (by decide)
  | some x => shd_tuple fun d hd => by
    simp only [List.mem_cons, List.not_mem_nil, or_false] at hd
    rcases hd with rfl | rfl | rfl <;> exact shd_int _
def pnD (ns : List Cs) (p : Nat × Nat) : PyData := .tuple [.int (p.1 : Int), .str (sx (ns.getD p.2 []))]
theorem shd_pns {ns : List Cs} (h : ∀ z ∈ ns, ∀ c ∈ z, isL c = true) (ps : List (Nat × Nat)) : ShD 3 (.list (ps.map (pnD ns))) := shd_list fun d hd => by
  obtain ⟨r, _, rfl⟩ := List.mem_map.mp hd
  refine shd_tuple fun d hd => ?_
  simp only [List.mem_cons, List.not_mem_nil, or_false] at hd
  rcases hd with rfl | rfl
  · exact shd_int _
  · exact shd_gd h _
theorem names_isL {ns : List Cs} (h : NamesOk ns) : ∀ z ∈ ns, ∀ c ∈ z, isL c = true := fun z hz => (h.ok z hz).1.1
end Sw

end

section
set_option maxRecDepth 100000
set_option maxHeartbeats 4000000
set_option pp.deepTerms false
set_option pp.deepTerms.threshold 7
/-! k42: the law -/
namespace Sw
open PySem PySem.Spec PyProof.Rows L2 SwA
theorem at_slots {t : L2.St → Hp → Prop} {σ : L2.St} {H : Hp} (σ' : L2.St) (e : σ = σ') (h : t σ' H) : t σ H := e ▸ h
theorem shareN {A : Nat → Prop} {G : Prop} (R : Nat → Prop) (h1 : (∀ m, A m → R m) → G) (h2 : ∀ m, A m → R m) : G := h1 h2
theorem mergeK_new : ∀ (ps xs : List (Key × V)), ((xs ++ ps).map (·.1)).Nodup → mergeK xs ps = xs ++ ps
  | [], xs, _ => by simp [mergeK]
  | p :: ps, xs, h => by
    have h1 : ∀ x ∈ xs, x.1 ≠ p.1 := fun x hx e => by
      rw [List.map_append, List.nodup_append] at h
      exact h.2.2 x.1 (List.mem_map.mpr ⟨x, hx, rfl⟩) p.1 (by simp) e
    have e : putK xs p.1 p.2 = xs ++ [p] := by
      unfold putK
      have : (xs.any fun kv => decide (kv.1 = p.1)) = false := by
        rw [List.any_eq_false]
        intro x hx
        simpa using h1 x hx
      rw [this]
      rfl
    have ih := mergeK_new ps (xs ++ [p]) (by simpa using h)
    show mergeK (putK xs p.1 p.2) ps = _
    rw [e, ih]
    simp
/-- the tiles of ticks 0 .. m - 1 -/
def tilesK (pl : Plan) (m : Nat) : List (Key × V) := (List.range m).map fun t : Nat => (.inl (t : Int), .int (tileO pl t : Nat))
theorem tilesK_nodup (pl : Plan) (m : Nat) : ((tilesK pl m).map (·.1)).Nodup := by
  unfold tilesK
  rw [List.map_map]
  refine List.Pairwise.map _ (fun a b (n : a ≠ b) e => n ?_) List.nodup_range
  have e : (Sum.inl (a : Int) : Key) = .inl (b : Int) := e
  injection e with e
  omega
theorem tilesK_get {pl : Plan} {m t : Nat} (h : t < m) : valV (tilesK pl m) (.inl (t : Int)) = some (.int (tileO pl t : Nat)) := by
  refine valV_at (i := t) (tilesK_nodup pl m) ?_
  unfold tilesK
  rw [List.getElem?_map, List.getElem?_range h]
  rfl
theorem putK_keys {κ : Type} [DecidableEq κ] (kvs : List (κ × V)) (k : κ) (v : V) (x : κ) : x ∈ (putK kvs k v).map (·.1) ↔ x ∈ kvs.map (·.1) ∨ x = k := by
  unfold putK
  split
  · rename_i h
    have e : (kvs.map fun kv => if kv.1 = k then (kv.1, v) else kv).map (·.1) = kvs.map (·.1) := by
      rw [List.map_map]
      refine List.map_congr_left fun y _ => ?_
      show (if y.1 = k then (y.1, v) else y).1 = y.1
      split <;> rfl
    rw [e]
    obtain ⟨y, hy, hk⟩ := List.any_eq_true.mp h
    exact ⟨.inl, fun z => z.elim id fun z => by rw [z, ← of_decide_eq_true hk]; exact List.mem_map.mpr ⟨y, hy, rfl⟩⟩
  · rw [List.map_append, List.mem_append]
    simp
theorem putK_len {κ : Type} [DecidableEq κ] (kvs : List (κ × V)) (k : κ) (v : V) : (putK kvs k v).length ≤ kvs.length + 1 := by
  unfold putK
  split <;> simp
/-- the keys that held in the first i ticks -/
def UsedK (q : Plan) (kvs : List (List Key × V)) (i : Nat) : Prop := kvs.length ≤ i ∧ ∀ k, k ∈ kvs.map (·.1) ↔ ∃ t, t < i ∧ k = keyT (keyM (stN q t))
theorem UsedK.more {q : Plan} {kvs : List (List Key × V)} {i : Nat} {v : V} (h : UsedK q kvs i) : UsedK q (putK kvs (keyT (keyM (stN q i))) v) (i + 1) := by
  refine ⟨Nat.le_trans (putK_len _ _ _) (Nat.succ_le_succ h.1), fun k => ?_⟩
  rw [putK_keys, h.2]
  constructor
  · rintro (⟨t, h1, h2⟩ | h2)
    · exact ⟨t, by omega, h2⟩
    · exact ⟨i, by omega, h2⟩
  · rintro ⟨t, h1, h2⟩
    by_cases z : t = i
    · subst z; exact .inr h2
    · exact .inl ⟨t, by omega, h2⟩
theorem tup_at {K : PySem.W.Frag} {H : Hp} {p : Addr} {ns : List Cs} (nd : ns.Nodup) (h : TupN H p (ns.map sV)) {c : Nat} (hc : c < ns.length) :
    SqT K H p ((ns.map sx).map V.str) ∧ (ns.map sx)[c]? = some (sx (ns.getD c [])) ∧ (∀ m, m < c → (ns.map sx)[m]? ≠ some (sx (ns.getD c []))) := by
  have hz : ns[c]? = some ns[c] := List.getElem?_eq_getElem hc
  have eg : ns.getD c [] = ns[c] := by rw [List.getD_eq_getElem?_getD, hz]; rfl
  refine ⟨by rw [List.map_map]; exact h.sq, by rw [List.getElem?_map, hz, eg]; rfl, fun m hm e => ?_⟩
  rw [List.getElem?_map] at e
  obtain ⟨y, hy, ey⟩ := Option.map_eq_some_iff.mp e
  have := sx_inj ey
  rw [eg] at this
  subst this
  have hm2 : m < ns.length := by omega
  rw [List.getElem?_eq_getElem hm2] at hy
  have := (List.getElem_inj nd).mp (Option.some.inj hy)
  omega
/-- the dict of used keys is stored anew: the plan stands -/
theorem OthAt.but {H : Hp} {sa ma fa ra rd ud : Addr} {q : Plan} {kvs : List (List Key × V)} {o : HO} (h : OthAt H sa ma fa ra rd q) (hud : H ud = some (.dT kvs)) (ne : rd ≠ ud) : OthAt (upd H ud o) sa ma fa ra rd q := by
  obtain ⟨h1, h2, h3, ⟨ras, h4, h5⟩, kvs', h6, h7⟩ := h
  have k : ∀ {x : Addr} {o' : HO}, H x = some o' → (∀ l, o' ≠ .dT l) → upd H ud o x = some o' := fun {x o'} e n => (upd_ne (fun z => by rw [z, hud] at e; cases e; exact n _ rfl)).trans e
  exact ⟨h1.mono fun _ z => k z (by simp), h2.mono fun _ z => k z (by simp), k h3 (by simp), ⟨ras, k h4 (by simp), Paired.mapP h5 fun _ _ q => k q (by simp)⟩, kvs', (upd_ne ne).trans h6, Paired.mapP h7 fun _ _ q => RuleAt.mono (fun _ _ z => k z (by simp)) q⟩
theorem OthAt.plan {H : Hp} {a sa ma fa ra rd : Addr} {q : Plan} (h : OthAt H sa ma fa ra rd q) (e : H a = some (.tup [.ref sa, .ref ma, .ref fa, .ref ra, .ref rd])) : PlanV H a q :=
  let ⟨h1, h2, h3, ⟨ras, h4, h5⟩, h6⟩ := h
  ⟨sa, ma, fa, ra, rd, ras, e, h1, h2, h3, h4, h5, h6⟩
theorem valV_isSome {κ : Type} [DecidableEq κ] : ∀ (kvs : List (κ × V)) (k : κ), (valV kvs k).isSome = true ↔ k ∈ kvs.map (·.1)
  | [], k => by rw [valV_nil]; simp
  | kv :: r, k => by
    by_cases e : kv.1 = k
    · rw [valV_pos e]; simp [e]
    · rw [valV_neg e, valV_isSome r k]
      have : ¬ k = kv.1 := fun z => e z.symm
      simp [this]
theorem paired_filter {α β : Type} {F : α → β → Prop} {p : α → Bool} {p' : β → Bool} : ∀ {l : List α} {m : List β}, (∀ x y, F x y → p' y = p x) → Paired F l m → Paired F (l.filter p) (m.filter p')
  | _, _, _, .nil => .nil
  | _, _, h, .cons (a := x) (b := y) q t => by
    have ih := paired_filter h t
    have e := h x y q
    by_cases z : p x = true
    · rw [List.filter_cons_of_pos z, List.filter_cons_of_pos (e.trans z)]
      exact .cons q ih
    · rw [List.filter_cons_of_neg z, List.filter_cons_of_neg (by rw [e]; exact z)]
      exact ih
theorem shd_ii (a b : Int) : ShD 2 (.tuple [.int a, .int b]) := shd_tuple fun d hd => by
  simp only [List.mem_cons, List.not_mem_nil, or_false] at hd
  rcases hd with rfl | rfl <;> exact shd_int _
theorem paired_words {tr : List Trc} : ∀ {rs : List V}, Paired (fun y x => y = sV x.2.2.2) rs tr → rs = tr.map fun x => sV x.2.2.2 := by
  induction tr with
  | nil => intro rs h; cases h; rfl
  | cons x tr ih =>
    intro rs h
    cases h with
    | cons e t => rw [e, ih t]; rfl
theorem words_all {pl : Plan} (h1 : pl.robots.length = 1) (hr : ∀ r ∈ pl.robots, r.1 < pl.floor.length) (m : Nat) : ((traceM pl 0 m).map fun x => sV x.2.2.2) = (List.range m).map fun i => sV (wordO pl i) := by
  rw [trace_one h1 hr, List.map_map]
  refine List.map_congr_left fun i _ => ?_
  show sV (wordO pl (0 + i)) = _
  rw [Nat.zero_add]
theorem rep_one (x : V) : ∀ k : Nat, (List.replicate k [x]).flatten = List.replicate k x
  | 0 => rfl
  | k + 1 => by rw [List.replicate_succ, List.flatten_cons, rep_one x k, List.replicate_succ]; rfl
theorem shd_rests (k : Nat) : ShD 2 (.list (strsD (List.replicate k wRest))) := shd_list fun d hd => by
  obtain ⟨z, hz, rfl⟩ := List.mem_map.mp hd
  rw [List.eq_of_mem_replicate hz]
  exact word_sh (.inl rfl)
structure L42T (K : PySem.W.Frag) (mg : Str → Option Value) : Prop where
  sh : ShoT K mg
  li : LinT K mg
  fc : FcT K mg
  tr : TraT K mg
  son : SonT K mg
  rin : RinT K mg
  fd : FdT K mg
  lw : LwT K mg
  rk : RkT K mg
  dict : mg "dict" = none
section
variable {P : Program} {w : World} {K : PySem.W.Frag} {mg : Str → Option Value} {base : Heap}
abbrev laN : List Str := ["_law_script", "_law_d", "_law_plan_here", "_law_text_here", "_law_used", "_law_start", "_law_length", "_law_mood", "_law_floor", "_law_sign", "_law_swept", "_law_one", "_law_many", "_law_tick", "_law_kept", "_law_key", "_law_other", "_law_words"]
theorem sc_law : FnScope laN ["_law_script"] (defScope s_law) := ⟨rfl, rfl, rfl, by decide +kernel, rfl, by decide +kernel, by decide +kernel⟩
def spLaw (K : PySem.W.Frag) : Sp := fun vs H Q _ => ∃ (a : Addr) (ns : List Int), vs = [.ref a] ∧ SqL K H a (ns.map V.int) ∧ ns.length ≤ 63 ∧ ∀ H', Q (.bl true) H'
theorem ok_law (T : L42T K mg) {fd : FuncData} (F : FunD K "law" "law" (defArgs s_law) (defBody s_law) (defScope s_law) [] [] (He.fAd K ("law", none)) fd) : FnOk P w K mg base CX0 16 (He.fAd K ("law", none)) fd ["_law_script"] (spLaw K) := by
  obtain ⟨fdR, GR, bR, kR⟩ := ok_random (P := P) (w := w) (base := base) T.li.p.s.l
  obtain ⟨fdSH, GSH, bSH, kSH⟩ := ok_sho (P := P) (w := w) (base := base) T.sh
  obtain ⟨fdT, GT, bT, kT⟩ := ok_text (P := P) (w := w) (base := base) T.li
  obtain ⟨fdFC, GFC, bFC, kFC⟩ := ok_fc (P := P) (w := w) (base := base) T.fc
  obtain ⟨fdLW, GLW, bLW, kLW⟩ := ok_lw (P := P) (w := w) (base := base) T.lw
  obtain ⟨fdRK, GRK, bRK, kRK⟩ := ok_rk (P := P) (w := w) (base := base) T.rk
  obtain ⟨fdSN, GSN, bSN, kSN⟩ := ok_son (P := P) (w := w) (base := base) T.son
  obtain ⟨fdRI, GRI, bRI, kRI⟩ := ok_rin (P := P) (w := w) (base := base) T.rin
  obtain ⟨fdFD, GFD, bFD, kFD⟩ := ok_fd (P := P) (w := w) (base := base) T.fd
  obtain ⟨fdTR, GTR, bTR, kTR⟩ := ok_tra2 (P := P) (w := w) (base := base) T.tr
  obtain ⟨fdTS, GTS, bTS, kTS⟩ := ok_tra (P := P) (w := w) (base := base) T.tr
  refine F.ok sc_law (fun vs H Q E h => ?_) (fun cdv A outer s H vs Q E hr h => ?_)
  · obtain ⟨a, ns, rfl, _⟩ := h
    rfl
  · obtain ⟨a, ns, rfl, ha, hn, k⟩ := h
    have hr1 : Room 1 _ := hr.mono (by decide)
    have hr2 : Room 2 _ := hr.mono (by decide)
    have hr4 : Room 4 _ := hr.mono (by decide)
    have hr9 : Room 9 _ := hr.mono (by decide)
    have hr10 : Room 10 _ := hr.mono (by decide)
    have hr11 : Room 11 _ := hr.mono (by decide)
    have hr13 : Room 13 _ := hr.mono (by decide)
    have hu := hu_of hr
    refine ⟨_, PSs.nox (pss_cons (ps_set (i := 1) sc_law.nd rfl (.inl rfl) (pe_call GR hr1 rfl T.li.p.s.l.random.g kR bR .nil pass0 (pa_cons (pv 0) (pa_cons pe_int pa_nil))))
      (pss_cons (ps_set (i := 2) sc_law.nd rfl (.inr rfl) (pe_call GSH hr4 rfl T.sh.short.g kSH bSH .nil pass0 (pa_cons (pv 1) (pa_cons pe_int pa_nil))))
      (pss_cons (ps_set (i := 2) sc_law.nd rfl (.inr rfl) (pe_op op_catA (pe_op op_catA (pe_slice sl_tupA (pv 2) po_none (po_some pe_int)) (pe_tup (pa_cons (pe_slice sl_tupA (pe_ix ix_tup (pv 2) pe_int (fun _ _ => rfl)) po_none (po_some pe_int)) pa_nil))) (pe_slice sl_tupA (pv 2) (po_some pe_int) po_none)))
      (pss_cons (ps_asg (pe_tup (pa_cons (pe_call GT hr2 rfl T.li.text.g kT bT .nil pass0 (pa_cons (pv 2) pa_nil)) (pa_cons pe_dnewT pa_nil)))
        (pg_tup rfl (pgs_cons (pg_name (i := 3) sc_law.nd rfl (.inl rfl)) (pgs_cons (pg_name (i := 4) sc_law.nd rfl (.inr rfl)) pgs_nil))))
      (pss_cons (ps_asg (pe_call GFC hr9 rfl T.fc.fc.g kFC bFC .nil pass0 (pa_cons (pv 3) pa_nil))
        (pg_tup rfl (pgs_cons (pg_name (i := 5) sc_law.nd rfl (.inl rfl)) (pgs_cons (pg_name (i := 6) sc_law.nd rfl (.inl rfl)) pgs_nil))))
      (pss_cons (ps_par (i := 7) (j := 8) (by rfl) sc_law.nd rfl rfl (by decide) rfl rfl (pa_cons (pe_ix ix_tup (pe_ix ix_tup (pv 2) pe_int (fun _ _ => rfl)) pe_int (fun _ _ => rfl)) (pa_cons (pe_lc (own := [("_law_sign", 9)]) (g := (gName 9)) (tt := tYes) (te := tOp (rIxT K) (tOp (rIxT K) (tVar 2) (tC (.int 0))) (tVar 9)) rfl sc_law.nd (pi_tup (pe_ix ix_tup (pv 2) pe_int (fun _ _ => rfl))) (blkOk_by (own := [("_law_sign", 9)]) (N := laN) (sc := defScope s_law) (by decide +kernel)) (fun _ _ _ _ _ => (pg_name (i := 9) sc_law.nd rfl (.inl rfl))) (fun _ _ _ _ _ => pts_nil) (fun _ _ _ _ _ => (pe_ix ix_tup (pe_ix ix_tup (pv 2) pe_int (fun _ _ => rfl)) (pv 9) (fun _ _ => rfl)))) pa_nil)) (by rfl))
      (pss_cons (ps_set (i := 10) sc_law.nd rfl (.inl rfl) (pe_callTy (call_dictP rfl) (by rfl) T.dict (by decide +kernel) (pa_cons (pe_lcG (own := [("_law_one", 11)]) (g := (gName 11)) (tt := tYes) (te := tTup (tCons (tOp (rIxT K) (tVar 11) (tC (.int 0))) (tCons (tOp (rIxT K) (tVar 11) (tC (.int 2))) tNil))) rfl sc_law.nd hr11 (pgen2_call GTR hr10 rfl T.tr.tr.g kTR bTR .nil (pa_cons (pv 3) (pa_cons pe_int (pa_cons (pe_callB (call_min2 rfl) (by rfl) T.tr.min (by decide +kernel) (pa_cons pe_int (pa_cons (pe_op op_add (pv 5) (pv 6)) pa_nil))) pa_nil)))) (blkOk_by (own := [("_law_one", 11)]) (N := laN) (sc := defScope s_law) (by decide +kernel)) (fun _ _ _ _ _ => (pg_name (i := 11) sc_law.nd rfl (.inl rfl))) (fun _ _ _ _ _ => pts_nil) (fun _ _ _ _ _ => (pe_tup (pa_cons (pe_ix ix_tup (pv 11) pe_int (fun _ _ => rfl)) (pa_cons (pe_ix ix_tup (pv 11) pe_int (fun _ _ => rfl)) pa_nil))))) pa_nil)))
      (pss_cons (ps_set (i := 12) sc_law.nd rfl (.inr rfl) (pe_ifExp (pt_cmpR op_lt (pe_op op_add (pv 5) (pv 6)) pe_int (nomark _)) (pe_op op_add (pv 5) (pv 6)) pe_int))
      (pss_cons (ps_for PassesOwn.never rfl (pi_range1 (by rfl) T.li.p.s.l.range (pa_cons (pv 12) pa_nil)) (pg_name (i := 13) sc_law.nd rfl (.inl rfl))
        (pss_cons (ps_dput hu (pv 4) (pe_tup (pa_cons (pe_bmN PySem.F.slot_tuple_index PySem.F.type_tuple_index mt_tup_index (pe_ix ix_tup (pv 2) pe_int (fun _ _ => rfl)) (pa_cons (pv 7) pa_nil)) (pa_cons (pe_bmN PySem.F.slot_tuple_index PySem.F.type_tuple_index mt_tup_index (pe_ix ix_tup (pv 2) pe_int (fun _ _ => rfl)) (pa_cons (pe_ix ix_list (pv 8) (pe_dget hu (pv 10) (pv 13) (fun _ _ => rfl)) (fun _ _ => rfl)) pa_nil)) pa_nil))) pe_bl rfl)
        (pss_one (ps_par (i := 7) (j := 8) (by rfl) sc_law.nd rfl rfl (by decide) rfl rfl (pa_cons (pe_ix ix_tup (pe_ix ix_list (pe_call GRI hr9 rfl T.rin.ri.g kRI bRI .nil pass0 (pa_cons (pv 3) (pa_cons (pv 13) pa_nil))) pe_int (fun _ _ => rfl)) pe_int (fun _ _ => rfl)) (pa_cons (pe_call GSN hr9 rfl T.son.so.g kSN bSN .nil pass0 (pa_cons (pv 3) (pa_cons (pv 13) pa_nil))) pa_nil)) (by rfl)))))
      (pss_cons (ps_set (i := 14) sc_law.nd rfl (.inl rfl) (pe_callTy (call_dictT rfl (hu10r hr)) (by rfl) T.dict (by decide +kernel) (pa_cons (pe_lock (pe_lc (own := [("_law_key", 15)]) (g := (gName 15)) (te := tTup (tCons (tVar 15) (tCons (tDGet (tOp (rIxT K) (tVar 2) (tC (.int 4))) (tVar 15)) tNil))) rfl sc_law.nd (pi_keys (pe_ix ix_tup (pv 2) pe_int (fun _ _ => rfl))) (blkOk_by (own := [("_law_key", 15)]) (N := laN) (sc := defScope s_law) (by decide +kernel)) (fun _ _ _ _ _ => (pg_name (i := 15) sc_law.nd rfl (.inl rfl))) (fun _ _ _ _ _ => (pts_one (PW.pt (pw_or (pt_cmp (pc_din hu (pv 15) (pv 4))) (pw_or1 (pt_cmpR op_eq (pv 12) pe_int (nomark _))))))) (fun _ _ _ _ _ => (pe_tup (pa_cons (pv 15) (pa_cons (pe_dget hu (pe_ix ix_tup (pv 2) pe_int (fun _ _ => rfl)) (pv 15) (fun _ _ => rfl)) pa_nil)))))) pa_nil)))
      (pss_cons (ps_set (i := 16) sc_law.nd rfl (.inl rfl) (pe_call GT hr2 rfl T.li.text.g kT bT .nil pass0 (pa_cons (pe_op op_catA (pe_slice sl_tupA (pv 2) po_none (po_some pe_int)) (pe_tup (pa_cons (pv 14) pa_nil))) pa_nil)))
      (pss_cons (ps_if (PW.pt (pw_or (pt_cmpR op_notN (pe_call GFD hr9 rfl T.fd.fd.g kFD bFD .nil pass0 (pa_cons (pv 3) (pa_cons (pv 16) pa_nil))) pe_non (nomark _)) (pw_or1 (pt_cmpR (op_neD hr.units) (pe_call GFC hr9 rfl T.fc.fc.g kFC bFC .nil pass0 (pa_cons (pv 16) pa_nil)) (pe_tup (pa_cons (pv 5) (pa_cons (pv 6) pa_nil))) (nomark _)))))
        (pss_one (ps_ret pe_bl)) pss_nil)
      (pss_cons (ps_if (PW.pt (pw_or (pt_cmpR (op_neD hr.units) (pe_listG (pgen_call GTS hr10 rfl T.tr.tr.g kTS bTS .nil (pa_cons (pv 3) (pa_cons pe_int (pa_cons pe_int pa_nil)))) passF (fun _ _ _ f => f.elim) hr13 (by rfl) T.li.p.s.l.list (by decide +kernel)) (pe_listG (pgen_call GTS hr10 rfl T.tr.tr.g kTS bTS .nil (pa_cons (pv 16) (pa_cons pe_int (pa_cons pe_int pa_nil)))) passF (fun _ _ _ f => f.elim) hr13 (by rfl) T.li.p.s.l.list (by decide +kernel)) (nomark _)) (pw_or1 (pt_cmpR (op_neD hr.units) (pe_call GLW hr9 rfl T.lw.lw.g kLW bLW .nil pass0 (pa_cons (pv 3) pa_nil)) (pe_call GLW hr9 rfl T.lw.lw.g kLW bLW .nil pass0 (pa_cons (pv 16) pa_nil)) (nomark _)))))
        (pss_one (ps_ret pe_bl)) pss_nil)
      (pss_cons (ps_setLcG (i := 17) (own := [("_law_one", 11)]) (g := (gName 11)) (tt := tYes) (te := tOp (rIxT K) (tVar 11) (tC (.int 3))) rfl sc_law.nd rfl rfl (sw_true rfl rfl rfl (by decide +kernel)) hr11 (pgen2_call GTR hr10 rfl T.tr.tr.g kTR bTR .nil (pa_cons (pv 3) (pa_cons pe_int (pa_cons pe_int pa_nil)))) (blkOk_by (own := [("_law_one", 11)]) (N := laN) (sc := defScope s_law) (by decide +kernel)) (fun _ _ _ _ _ => (pg_name (i := 11) sc_law.nd rfl (.inl rfl))) (fun _ _ _ _ _ => pts_nil) (fun _ _ _ _ _ => (pe_ix ix_tup (pv 11) pe_int (fun _ _ => rfl))))
      (pss_cons (ps_for PassesOwn.never rfl (pi_range1 (by rfl) T.li.p.s.l.range (pa_cons (pe_callB (call_min2 rfl) (by rfl) T.tr.min (by decide +kernel) (pa_cons (pv 12) (pa_cons pe_int pa_nil))) pa_nil)) (pg_name (i := 13) sc_law.nd rfl (.inl rfl))
        (pss_one (ps_if (pt_cmpR op_eq (pe_ix ix_list (pv 17) (pv 13) (fun _ _ => rfl)) pe_str (nomark _))
          (pss_one (ps_ret (pe_and (pe_cmpR op_notN (pe_call GRK hr9 rfl T.rk.rk.g kRK bRK .nil pass0 (pa_cons (pv 3) pa_nil)) pe_non (nomark _)) (pe_and (pe_cmpR op_le (pe_call GRK hr9 rfl T.rk.rk.g kRK bRK .nil pass0 (pa_cons (pv 3) pa_nil)) (pv 13) (nomark _)) (pe_one (pe_cmpR (op_eqD hr.units) (pe_slice sl_list (pv 17) (po_some (pv 13)) po_none) (pe_op op_rep (pe_lst (pa_cons pe_str pa_nil)) (pe_op op_sub pe_int (pv 13))) (nomark _))))))) pss_nil)))
      (pss_one (ps_ret (pe_or (pe_cmpR op_eq (pv 12) pe_int (nomark _)) (pe_or (pe_cmpR op_isN (pe_call GRK hr9 rfl T.rk.rk.g kRK bRK .nil pass0 (pa_cons (pv 3) pa_nil)) pe_non (nomark _)) (pe_one (pe_cmpR op_ge (pe_call GRK hr9 rfl T.rk.rk.g kRK bRK .nil pass0 (pa_cons (pv 3) pa_nil)) (pe_op op_sub (pe_callB (call_min2 rfl) (by rfl) T.tr.min (by decide +kernel) (pa_cons (pv 12) (pa_cons pe_int pa_nil))) pe_int) (nomark _)))))))))))))))))))))), ?_⟩
    refine ⟨_, rfl, a, _, ns, rfl, ha, hn, fun d H1 nd s1 hd => ?_⟩
    refine ⟨_, rfl, d, 4, rfl, hd, by decide, by decide, fun pa H2 p dr wf sml hfl so npa hP => ?_⟩
    obtain ⟨sa, ma, fa, ra, rd, ras, e0, e1, e2, e3, e4, e5, e6⟩ := id hP
    refine ⟨_, rfl, _, rfl, slA_any e0 fun p1 H3 s3 hp1 => ?_⟩
    refine ⟨_, rfl, pa, _, _, _, rfl, rfl, SqT.of (s3 _ _ e0), atI_nat (j := 3) rfl, _, rfl, slA_any (s3 _ _ e4) fun p2 H4 s4 hp2 => ?_⟩
    refine ⟨(by show 1 ≤ sizeLine; decide), fun p3 np3 => ?_⟩
    have s5 := sameUpd (o := .tup [.ref p2]) (Same.refl H4) np3
    have hp3 := @upd_same H4 p3 (.tup [.ref p2])
    replace hp2 := s5 _ _ hp2
    generalize upd H4 p3 (.tup [.ref p2]) = H5 at *
    have s25 := (s3.trans s4).trans s5
    refine catA_any (s5 _ _ (s4 _ _ hp1)) hp3 (by show 3 + 1 ≤ sizeLine; decide) fun p4 H6 s6 hp4 => ?_
    refine ⟨_, rfl, _, rfl, ?_⟩
    dsimp only [tNoPart]
    refine slA_any (s6 _ _ (s25 _ _ e0)) fun p5 H7 s7 hp5 => ?_
    refine catA_any (s7 _ _ hp4) hp5 (by show 4 + 1 ≤ sizeLine; decide) fun p6 H8 s8 hp6 => ?_
    change H8 p6 = some (.tup [.ref sa, .ref ma, .ref fa, .ref p2, .ref rd]) at hp6
    have s28 := ((s25.trans s6).trans s7).trans s8
    rw [show (some (1 : Int)) = some ((1 : Nat) : Int) from rfl, cut_takeB, ← List.map_take] at hp2
    obtain ⟨q, hq⟩ : ∃ q : Plan, q = { p with robots := p.robots.take 1 } := ⟨_, rfl⟩
    have hro := List.length_pos_iff.mpr wf.r1
    have q1 : q.robots.length = 1 := by rw [hq]; show (p.robots.take 1).length = 1; rw [List.length_take]; omega
    have wfq : WfP q := by
      rw [hq]
      exact ⟨wf.sN, wf.mN, wf.s1, wf.s4, wf.m1, wf.m6, wf.n1, wf.n16, wf.fl, fun z => by
        have : (p.robots.take 1).length = 0 := by rw [show p.robots.take 1 = [] from z]; rfl
        rw [List.length_take] at this
        omega, by show (p.robots.take 1).length ≤ 3; rw [List.length_take]; omega, fun r hr => wf.rt r (List.mem_of_mem_take hr), wf.rn, wf.ru⟩
    have smq : Small q := by
      obtain ⟨h1, h2⟩ := sml
      rw [hq] at q1 ⊢
      exact ⟨h1, .inl ⟨q1, by show p.signs.length ≤ 4; rcases h2 with z | z <;> omega, by show p.moods.length ≤ 3; rcases h2 with z | z <;> omega⟩⟩
    have soq : SortedR q.rules := by rw [hq]; exact so
    have hP8 : PlanV H8 p6 q := by
      rw [hq]
      obtain ⟨kvs, z1, z2⟩ := e6
      exact ⟨sa, ma, fa, p2, rd, ras.take 1, hp6, e1.mono fun _ z => s28 _ _ z, e2.mono fun _ z => s28 _ _ z, s28 _ _ e3, s8 _ _ (s7 _ _ (s6 _ _ hp2)), Paired_take (Paired.mapP e5 fun _ _ z => s28 _ _ z) 1, kvs, s28 _ _ z1, Paired.mapP z2 fun _ _ z => RuleAt.mono (fun _ _ z => s28 _ _ z) z⟩
    clear hP e0 e1 e2 e3 e4 e5 e6 s3 s4 s5 s25 s6 s7 s8 s28 hp1 hp2 hp3 hp4 hp5 hp6 np3 npa nd s1 hd dr sml so hfl hro wf hq ha
    have hea := small_early wfq smq
    have hrd := reads_text wfq soq
    show tSeq _ _ _ _ _
    refine at_slots [some (.ref a), some (.ref d), some (.ref p6), none, none, none, none, none, none, none, none, none, none, none, none, none, none, none] rfl ?_
    refine ⟨_, rfl, p6, q, rfl, hP8, wfq, soq, fun H9 s9 => ?_⟩
    replace hP8 := hP8.same s9
    clear s9
    obtain ⟨sa, ma, fa, ra, rd, ras, hp6, z1, z2, z3, z4, z5, z6⟩ := hP8
    have hO : OthAt H9 sa ma fa ra rd q := ⟨z1, z2, z3, ⟨ras, z4, z5⟩, z6⟩
    obtain ⟨kvr, z6, _⟩ := z6
    refine fun ud nud => ?_
    have hne : rd ≠ ud := ne_of_none z6 nud
    clear z1 z2 z3 z4 z5 z6
    have s10 := sameUpd (o := .dT []) (Same.refl H9) nud
    have hud := @upd_same H9 ud (.dT [])
    generalize upd H9 ud (.dT []) = Ha at *
    refine ⟨(by show 2 ≤ sizeLine; decide), fun tt ntt => ?_⟩
    have s11 := sameUpd (o := .tup [sV (textOf q), .ref ud]) (Same.refl Ha) ntt
    have htt := @upd_same Ha tt (.tup [sV (textOf q), .ref ud])
    replace hud := s11 _ _ hud
    generalize upd Ha tt (.tup [sV (textOf q), .ref ud]) = Hb at *
    refine ⟨tt, _, rfl, SqT.of htt, rfl, _, _, rfl, _, _, rfl, rfl, ?_⟩
    replace hO := (hO.same s10).same s11
    replace hp6 := s11 _ _ (s10 _ _ hp6)
    clear s10 s11 htt ntt nud
    show tSeq _ _ _ _ _
    refine ⟨_, rfl, textOf q, q, rfl, hrd, wfq, hea, fun tc n s Hc ntc s12 hrep hn2 htc => ?_⟩
    have hlt := hrep.lt
    refine ⟨tc, _, rfl, SqT.of htc, rfl, _, _, rfl, _, _, rfl, rfl, ?_⟩
    replace hud := s12 _ _ hud
    replace hO := hO.same s12
    replace hp6 := s12 _ _ hp6
    clear s12 ntc htc
    show tSeq _ _ _ _ _
    refine at_slots [some (.ref a), some (.ref d), some (.ref p6), some (sV (textOf q)), some (.ref ud), some (.int (s : Nat)), some (.int ((n : Int) - (s : Int))), none, none, none, none, none, none, none, none, none, none, none] rfl ?_
    obtain ⟨e1, e2, e3, _⟩ := id hO
    obtain ⟨m0, ms, em⟩ := List.exists_cons_of_ne_nil wfq.m1
    refine ⟨_, rfl, p6, _, 1, _, rfl, rfl, SqT.of hp6, atI_nat (j := 1) rfl, ma, _, 0, _, rfl, rfl, e2.sq, atI_nat (j := 0) (by rw [em]; rfl), ?_⟩
    refine ⟨_, rfl, p6, _, 2, _, rfl, rfl, SqT.of hp6, atI_nat (j := 2) rfl, fa, rfl, ⟨_, SqT.of e3⟩, fun FL nFL => ?_⟩
    refine lc_tup (K := K) (a := fa) (xs := q.floor.map fun n : Nat => V.int n) (fun i Hy => Hy FL = some (.lst (namesV q.signs (q.floor.take i))) ∧ Same Hc Hy) ⟨upd_same, sameUpd (Same.refl _) nFL⟩ (fun i Hy _ ⟨_, sm⟩ => SqT.of (sm _ _ e3)) ?_ ?_
    · rintro i x Hy hx ⟨hF, sm⟩
      rw [List.getElem?_map] at hx
      obtain ⟨c, hc, rfl⟩ := Option.map_eq_some_iff.mp hx
      have hcl := wfq.fl c (List.mem_of_getElem? hc)
      have hz : q.signs[c]? = some q.signs[c] := List.getElem?_eq_getElem hcl
      have hi16 := wfq.n16
      refine ⟨rfl, _, rfl, p6, _, 0, _, rfl, rfl, SqT.of (sm _ _ hp6), atI_nat (j := 0) rfl, _, rfl, sa, _, c, _, rfl, rfl, (e1.mono fun _ z => sm _ _ z).sq, atI_nat (by rw [List.getElem?_map, hz]; rfl), _, hF, ?_, ?_, sameUpd sm nFL⟩
      · unfold namesV
        rw [List.length_map, List.length_take, sizeLine_eq]; omega
      · rw [upd_same, take_at hc]
        unfold namesV
        rw [List.map_append]
        show _ = some (HO.lst (_ ++ [sV (q.signs.getD c [])]))
        rw [List.getD_eq_getElem?_getD, hz]
        rfl
    rintro Hd ⟨hF, sm⟩
    rw [List.length_map, List.take_length] at hF
    replace hud := sm _ _ hud
    replace hO := hO.same sm
    replace hp6 := sm _ _ hp6
    clear sm e1 e2 e3 nFL
    refine ⟨_, _, rfl, ?_⟩
    show tSeq _ _ _ _ _
    refine at_slots [some (.ref a), some (.ref d), some (.ref p6), some (sV (textOf q)), some (.ref ud), some (.int (s : Nat)), some (.int ((n : Int) - (s : Int))), some (sV m0), some (.ref FL), none, none, none, none, none, none, none, none, none] rfl ?_
    -- the tiles of the first ticks
    refine ⟨_, rfl, _, rfl, _, rfl, _, _, rfl, rfl, _, _, rfl, ?_⟩
    obtain ⟨m1, hm1, hmn⟩ : ∃ m1 : Nat, (if (s : Int) + ((n : Int) - (s : Int)) < 499 then (s : Int) + ((n : Int) - (s : Int)) else 499) = ((0 : Nat) : Int) + ((m1 + 1 : Nat) : Int) - 1 ∧ (m1 = n ∨ 499 ≤ n) ∧ m1 ≤ 499 := by
      by_cases z : (s : Int) + ((n : Int) - (s : Int)) < 499
      · exact ⟨n, by rw [if_pos z]; omega, .inl rfl, by omega⟩
      · exact ⟨499, by rw [if_neg z]; omega, .inr (by omega), by omega⟩
    rw [hm1]
    refine ⟨rfl, fun D nD => ?_⟩
    refine lcG_tra (first := 0) (m := m1 + 1) (fun H y x => ∃ pp : Addr, y = .ref pp ∧ H pp = some (.tup [.int x.1, .int x.2.2.1])) (fun {H H' y x} no ⟨pp, z1, z2⟩ => ⟨pp, z1, no _ _ z2 (fun _ z => nomatch z)⟩) hrd wfq hea (by omega) (by omega) (by omega) nD ?_ ?_
    · intro ta x H1 Qy Qn hx sm ht hy
      exact ⟨rfl, _, rfl, ta, _, 0, _, rfl, rfl, SqT.of ht, atI_nat (j := 0) rfl, _, rfl, ta, _, 2, _, rfl, rfl, SqT.of ht, atI_nat (j := 2) rfl, (by show 2 ≤ sizeLine; decide), fun pp npp => hy _ _ (sameUpd (Same.refl H1) npp) ⟨pp, rfl, upd_same⟩⟩
    intro rs Hf sm hD hp
    obtain ⟨ps, rfl, hps⟩ := paired_refs (H := Hf) hp
    rw [trace_one q1 wfq.rt] at hps
    refine ⟨D, ps, tilesK q (m1 + 1), rfl, SqL.of hD, ?_, fun wd nwd => ?_⟩
    · refine paired_of (by rw [hps.length]; simp [tilesK]) fun k x y z1 z2 => ?_
      obtain ⟨b, z3, z4⟩ := Paired_idx hps z1
      have hk : k < m1 + 1 := by
        have := (List.getElem?_eq_some_iff.mp z2).1
        simpa [tilesK] using this
      unfold tilesK at z2
      rw [List.getElem?_map, List.getElem?_range hk] at z2 z3
      cases z2
      cases z3
      dsimp only at z4
      rw [Nat.zero_add] at z4
      exact SqT.of z4
    rw [show mergeK [] (tilesK q (m1 + 1)) = tilesK q (m1 + 1) from mergeK_new _ [] (tilesK_nodup q (m1 + 1))]
    have s13 := sm.trans (sameUpd (o := .dK (tilesK q (m1 + 1))) (Same.refl Hf) nwd)
    have hwd := @upd_same Hf wd (.dK (tilesK q (m1 + 1)))
    generalize upd Hf wd (.dK (tilesK q (m1 + 1))) = Hg at *
    replace hud := s13 _ _ hud
    replace hO := hO.same s13
    replace hp6 := s13 _ _ hp6
    replace hF := s13 _ _ hF
    clear s13 hps hp hD sm nwd nD
    show tSeq _ _ _ _ _
    apply shareN (A := fun mn => (n < 400 ∧ mn = n) ∨ (400 ≤ n ∧ mn = 0))
    case h1 =>
      intro fin
      refine ⟨_, rfl, _, rfl, _, _, rfl, rfl, _, _, rfl, rfl, _, rfl, ?_⟩
      by_cases z : n < 400
      · obtain ⟨mn, hmn⟩ : ∃ mn, mn = n := ⟨_, rfl⟩
        rw [decide_eq_true (show (s : Int) + ((n : Int) - (s : Int)) < 400 by omega)]
        refine iteT ⟨_, rfl, _, rfl, _, _, rfl, rfl, ?_⟩
        show tSeq _ _ _ _ _
        refine at_slots [some (.ref a), some (.ref d), some (.ref p6), some (sV (textOf q)), some (.ref ud), some (.int (s : Nat)), some (.int ((n : Int) - (s : Int))), some (sV m0), some (.ref FL), none, some (.ref wd), none, some (.int (mn : Nat)), none, none, none, none, none] (by
          have ev : V.int ((s : Int) + ((n : Int) - (s : Int))) = V.int (mn : Nat) := by rw [hmn]; congr 1; omega
          rw [← ev]
          rfl) ?_
        exact fin mn (.inl ⟨z, hmn⟩)
      · obtain ⟨mn, hmn⟩ : ∃ mn, mn = 0 := ⟨_, rfl⟩
        rw [decide_eq_false (show ¬ (s : Int) + ((n : Int) - (s : Int)) < 400 by omega)]
        refine iteF ?_
        show tSeq _ _ _ _ _
        refine at_slots [some (.ref a), some (.ref d), some (.ref p6), some (sV (textOf q)), some (.ref ud), some (.int (s : Nat)), some (.int ((n : Int) - (s : Int))), some (sV m0), some (.ref FL), none, some (.ref wd), none, some (.int (mn : Nat)), none, none, none, none, none] (by rw [hmn]; rfl) ?_
        exact fin mn (.inr ⟨by omega, hmn⟩)
    case h2 =>
    intro mn hmn
    show tSeq _ _ _ _ _
    have hmn4 : mn < 400 ∧ (mn = 0 ∨ (mn = n ∧ m1 = n)) := by
      rcases hmn with ⟨z1, z2⟩ | ⟨z1, z2⟩
      · exact ⟨by omega, .inr ⟨z2, by omega⟩⟩
      · exact ⟨by omega, .inl z2⟩
    have k0 : sV m0 = sV (q.moods.getD (keyM (stN q 0)).1 []) := by
      have e1 : (keyM (stN q 0)).1 = 0 := by
        show (keyM (firstM q)).1 = 0
        unfold keyM firstM
        obtain ⟨r0, e0⟩ : ∃ r0, q.robots = [r0] := by
          match e : q.robots, q1 with
          | [r0], _ => exact ⟨r0, rfl⟩
        rw [e0]
        rfl
      rw [e1, em]
      rfl
    refine ⟨_, rfl, _, rfl, by omega, by omega, ?_⟩
    refine for_range (lo := 0) (n := ((mn : Nat) : Int).toNat) (fun i σ Hx => ∃ (fl : Addr) (o13 : Option V) (kvs : List (List Key × V)), σ = [some (.ref a), some (.ref d), some (.ref p6), some (sV (textOf q)), some (.ref ud), some (.int (s : Nat)), some (.int ((n : Int) - (s : Int))), some (sV (q.moods.getD (keyM (stN q i)).1 [])), some (.ref fl), none, some (.ref wd), none, some (.int (mn : Nat)), o13, none, none, none, none] ∧ Hx p6 = some (.tup [.ref sa, .ref ma, .ref fa, .ref ra, .ref rd]) ∧ OthAt Hx sa ma fa ra rd q ∧ Hx wd = some (.dK (tilesK q (m1 + 1))) ∧ Hx fl = some (.lst (namesV q.signs (stN q i).floor)) ∧ Hx ud = some (.dT kvs) ∧ UsedK q kvs i)
      ⟨FL, none, [], by rw [k0], hp6, hO, hwd, hF, hud, Nat.le_refl _, fun k => ⟨fun z => by simp at z, fun ⟨t, z, _⟩ => by omega⟩⟩ ?_ ?_
    · clear hp6 hO hwd hF hud k0
      rintro i σ Hx hi ⟨fl, o13, kvs, rfl, hp6, hO, hwd, hF, hud, hU⟩
      rw [Int.toNat_natCast] at hi
      have ez : (0 : Int) + (i : Nat) = (i : Nat) := by omega
      rw [ez]
      obtain ⟨r, er⟩ := st_one q1 wfq.rt i
      have ekm : keyM (stN q i) = (r.2.2, (stN q i).floor.getD r.1 0) := by unfold keyM; rw [er]
      have etile : tileO q i = r.1 := by
        obtain ⟨x, e1, e2⟩ := words_one q1 wfq.rt i
        unfold tileO
        rw [e1]
        exact e2 r er
      have hmo : r.2.2 < q.moods.length := st_mo wfq i r (by rw [er]; exact List.mem_singleton.mpr rfl)
      have hW := st_wf wfq.rt i
      have hti : r.1 < (stN q i).floor.length := by rw [hW.fl]; exact hW.ti r (by rw [er]; exact List.mem_singleton.mpr rfl)
      have hfe : (stN q i).floor[r.1]? = some ((stN q i).floor.getD r.1 0) := by rw [List.getD_eq_getElem?_getD, List.getElem?_eq_getElem hti]; rfl
      have hsi : (stN q i).floor.getD r.1 0 < q.signs.length := st_si wfq i _ (List.mem_of_getElem? hfe)
      obtain ⟨e1, e2, _⟩ := id hO
      refine ⟨_, rfl, ?_⟩
      refine ⟨_, rfl, p6, _, 1, _, rfl, rfl, SqT.of hp6, atI_nat (j := 1) rfl, ⟨ma, _, rfl, e2⟩, _, rfl, ?_⟩
      dsimp only [tNil]
      rw [ekm]
      obtain ⟨x1, x2, x3⟩ := tup_at (K := K) wfq.mN.nd e2 hmo
      obtain ⟨y1, y2, y3⟩ := tup_at (K := K) wfq.sN.nd e1 hsi
      refine ⟨ma, _, _, r.2.2, rfl, rfl, x1, x2, x3, ?_⟩
      refine ⟨_, rfl, p6, _, 0, _, rfl, rfl, SqT.of hp6, atI_nat (j := 0) rfl, ⟨sa, _, rfl, e1⟩, _, rfl, _, rfl, _, rfl, ?_⟩
      refine ⟨wd, .int (r.1 : Nat), rfl, by rw [← etile, ← tilesK_get (pl := q) (m := m1 + 1) (t := i) (by omega)]; exact DGet.k (k := .inl (i : Int)) hwd, ?_⟩
      refine ⟨fl, _, r.1, _, rfl, rfl, SqL.of hF, atI_nat (by unfold namesV; rw [List.getElem?_map, hfe]; rfl), ?_⟩
      refine ⟨sa, _, _, _, rfl, rfl, y1, y2, y3, ?_⟩
      refine ⟨(by show 2 ≤ sizeLine; decide), fun kp nkp => ?_⟩
      have s14 := sameUpd (o := .tup [.int (r.2.2 : Nat), .int ((stN q i).floor.getD r.1 0 : Nat)]) (Same.refl Hx) nkp
      have hkp := @upd_same Hx kp (.tup [.int (r.2.2 : Nat), .int ((stN q i).floor.getD r.1 0 : Nat)])
      replace hud := s14 _ _ hud
      replace hwd := s14 _ _ hwd
      replace hF := s14 _ _ hF
      generalize upd Hx kp (.tup [.int (r.2.2 : Nat), .int ((stN q i).floor.getD r.1 0 : Nat)]) = Hy at *
      replace hO := hO.same s14
      replace hp6 := s14 _ _ hp6
      have hk' : Hy kp = some (.tup ((keyT (keyM (stN q i))).map kV)) := by rw [ekm]; exact hkp
      refine ⟨ud, _, rfl, DPut.t hud hk' (by have := hU.1; rw [sizeLine_eq]; omega), ?_⟩
      have ksd : ∀ {x : Addr} {o : HO}, Hy x = some o → (∀ kvs, o ≠ .dT kvs) → upd Hy ud (.dT (putK kvs (keyT (keyM (stN q i))) (.bl true))) x = some o := fun {x o} e nn => (upd_ne (fun z => by rw [z, hud] at e; cases e; exact nn _ rfl)).trans e
      have hud2 := @upd_same Hy ud (.dT (putK kvs (keyT (keyM (stN q i))) (.bl true)))
      have hO2 := OthAt.but (o := .dT (putK kvs (keyT (keyM (stN q i))) (.bl true))) hO hud hne
      have hp62 := ksd hp6 (fun _ z => nomatch z)
      have hwd2 := ksd hwd (fun _ z => nomatch z)
      generalize upd Hy ud (.dT (putK kvs (keyT (keyM (stN q i))) (.bl true))) = Hz at *
      clear hO hp6 hwd hud hF ksd hkp hk' s14 nkp x1 x2 x3 y1 y2 y3 e1 e2
      refine ⟨_, rfl, _, rfl, textOf q, q, i, rfl, hrd, wfq, hea, by omega, fun l ts Ha' nl sa' hl hts => ?_⟩
      obtain ⟨r', er'⟩ := st_one q1 wfq.rt (i + 1)
      rw [er'] at hts
      match ts, hts with
      | [t0], .cons ht0 .nil =>
      refine ⟨l, _, 0, _, rfl, rfl, SqL.of hl, atI_nat (j := 0) rfl, t0, _, 2, _, rfl, rfl, SqT.of ht0, atI_nat (j := 2) rfl, ?_⟩
      refine ⟨_, rfl, _, rfl, textOf q, q, i, rfl, hrd, wfq, hea, by omega, fun fl2 Hb' nfl2 sb hfl2 => ?_⟩
      have sab := sa'.trans sb
      have ekm2 : keyM (stN q (i + 1)) = (r'.2.2, (stN q (i + 1)).floor.getD r'.1 0) := by unfold keyM; rw [er']
      refine ⟨_, _, rfl, ?_⟩
      refine ⟨fl2, _, _, by rw [ekm2]; rfl, sab _ _ hp62, hO2.same sab, sab _ _ hwd2, hfl2, sab _ _ hud2, hU.more⟩
    clear hp6 hO hwd hF hud k0
    rintro σ Hx ⟨fl, o13, kvs, rfl, hp6, hO, hwd, hF, hud, hU⟩
    rw [Int.toNat_natCast] at hU
    clear hF hwd
    show tSeq _ _ _ _ _
    -- the rules that are kept
    obtain ⟨_, _, _, _, kvs', z6, z7⟩ := id hO
    refine ⟨rd, .dT kvs', z6, trivial, fun od => ?_⟩
    have kL : ∀ {x : Addr} {o : HO}, Hx x = some o → x ≠ rd → (upd Hx rd (.frz od (.dT kvs'))) x = some o := fun {x o} e n => (upd_ne n).trans e
    have np6 : p6 ≠ rd := fun z => by rw [z, z6] at hp6; cases hp6
    refine ⟨_, rfl, p6, _, 4, _, rfl, rfl, SqT.of (kL hp6 np6), atI_nat (j := 4) rfl, rd, od, rfl, .inr ⟨kvs', upd_same, fun D nD => ?_⟩⟩
    have nd := rules_nodup z7 wfq.rn
    have hlen : kvs'.length ≤ 100 := by
      rw [← z7.length]
      exact Nat.le_trans (rules_few wfq soq) (by decide)
    have hud1 := kL hud hne.symm
    have hp61 := kL hp6 np6
    obtain ⟨pK, hpK⟩ : ∃ pK : List Key → Bool, pK = fun kk => (valV kvs kk).isSome || decide (mn = 0) := ⟨_, rfl⟩
    generalize hLk : upd Hx rd (.frz od (.dT kvs')) = HL at *
    have hrdL : HL rd = some (.frz od (.dT kvs')) := by rw [← hLk]; exact upd_same
    refine lc_keysT (d := rd) (o := od) (kvs := kvs') (fun i Hy => ∃ ps : List Addr, Same HL Hy ∧ Hy D = some (.lst (ps.map V.ref)) ∧ ps.length ≤ i ∧ Paired (PairT Hy) ps ((kvs'.take i).filter fun kv => pK kv.1)) ⟨[], sameUpd (Same.refl _) nD, upd_same, Nat.zero_le _, .nil⟩ (fun i Hy ⟨_, sm, _⟩ => sm _ _ hrdL) ?_ ?_
    · rintro i kk v q' Hy hi hq' ⟨ps, sm, hD, hpl, hps⟩
      have hi2 := (List.getElem?_eq_some_iff.mp hi).1
      have hx := valV_at nd hi
      have hrd2 := sm _ _ hrdL
      have htk : (kvs'.take (i + 1)).filter (fun kv => pK kv.1) = (kvs'.take i).filter (fun kv => pK kv.1) ++ if pK kk = true then [(kk, v)] else [] := by
        rw [take_at hi, List.filter_append]
        by_cases z : pK kk = true <;> simp [z]
      refine ⟨rfl, _, rfl, _, rfl, ud, _, rfl, DGet.t (k := kk) (sm _ _ hud1) hq', _, rfl, ?_⟩
      rcases Bool.eq_false_or_eq_true (valV kvs kk).isSome with z | z
      · have hin : pK kk = true := by rw [hpK]; simp [z]
        rw [z]
        refine iteT (iteT ?_)
        refine ⟨_, rfl, _, rfl, p6, _, 4, _, rfl, rfl, SqT.of (sm _ _ hp61), atI_nat (j := 4) rfl, _, rfl, rd, v, rfl, .inr ⟨kvs', kk, q', .inr ⟨od, hrd2⟩, rfl, hq', hx.symm⟩, (by show 2 ≤ sizeLine; decide), fun pp npp => ?_⟩
        have s2 := sameUpd (o := .tup [.ref q', v]) (Same.refl Hy) npp
        have hp := @upd_same Hy pp (.tup [.ref q', v])
        have hD2 := s2 _ _ hD
        have hq2 := s2 _ _ hq'
        have sm2 := sm.trans s2
        have hps2 : Paired (PairT (upd Hy pp (.tup [.ref q', v]))) ps ((kvs'.take i).filter fun kv => pK kv.1) := Paired.mapP hps fun _ _ ⟨t, a, b⟩ => ⟨t, s2 _ _ a, s2 _ _ b⟩
        generalize upd Hy pp (.tup [.ref q', v]) = Hz at *
        have kt := keepT (o' := .lst (ps.map V.ref ++ [.ref pp])) hD2 (fun xs q => by cases q)
        refine ⟨_, hD2, by rw [List.length_map, sizeLine_eq]; omega, ps ++ [pp], sameUpd sm2 nD, by rw [upd_same, List.map_append]; rfl, by rw [List.length_append]; exact Nat.succ_le_succ hpl, ?_⟩
        rw [htk, if_pos hin]
        exact Paired_snoc (Paired.mapP hps2 fun _ _ ⟨t, a, b⟩ => ⟨t, kt _ _ a, kt _ _ b⟩) ⟨q', kt _ _ hp, kt _ _ hq2⟩
      · rw [z]
        refine iteF ⟨_, rfl, rfl, _, rfl, ?_⟩
        by_cases z0 : mn = 0
        · have hin : pK kk = true := by rw [hpK]; simp [z0]
          rw [decide_eq_true (show V.int (mn : Nat) = V.int 0 by rw [z0]; rfl)]
          refine iteT ?_
          refine ⟨_, rfl, _, rfl, p6, _, 4, _, rfl, rfl, SqT.of (sm _ _ hp61), atI_nat (j := 4) rfl, _, rfl, rd, v, rfl, .inr ⟨kvs', kk, q', .inr ⟨od, hrd2⟩, rfl, hq', hx.symm⟩, (by show 2 ≤ sizeLine; decide), fun pp npp => ?_⟩
          have s2 := sameUpd (o := .tup [.ref q', v]) (Same.refl Hy) npp
          have hp := @upd_same Hy pp (.tup [.ref q', v])
          have hD2 := s2 _ _ hD
          have hq2 := s2 _ _ hq'
          have sm2 := sm.trans s2
          have hps2 : Paired (PairT (upd Hy pp (.tup [.ref q', v]))) ps ((kvs'.take i).filter fun kv => pK kv.1) := Paired.mapP hps fun _ _ ⟨t, a, b⟩ => ⟨t, s2 _ _ a, s2 _ _ b⟩
          generalize upd Hy pp (.tup [.ref q', v]) = Hz at *
          have kt := keepT (o' := .lst (ps.map V.ref ++ [.ref pp])) hD2 (fun xs q => by cases q)
          refine ⟨_, hD2, by rw [List.length_map, sizeLine_eq]; omega, ps ++ [pp], sameUpd sm2 nD, by rw [upd_same, List.map_append]; rfl, by rw [List.length_append]; exact Nat.succ_le_succ hpl, ?_⟩
          rw [htk, if_pos hin]
          exact Paired_snoc (Paired.mapP hps2 fun _ _ ⟨t, a, b⟩ => ⟨t, kt _ _ a, kt _ _ b⟩) ⟨q', kt _ _ hp, kt _ _ hq2⟩
        · have hin : ¬ pK kk = true := by rw [hpK]; simp [z, z0]
          rw [decide_eq_false (show ¬ V.int (mn : Nat) = V.int 0 from fun y => z0 (by injection y with y; omega))]
          refine iteF ⟨ps, sm, hD, by omega, ?_⟩
          rw [htk, if_neg hin, List.append_nil]
          exact hps
    rintro Hy ⟨ps, sm, hD, hpl, hps⟩
    rw [List.take_length] at hps
    refine ⟨sm _ _ hrdL, ?_⟩
    have sU : Same Hx (upd Hy rd (.dT kvs')) := same_unlock z6 (by rw [hLk]; exact sm)
    have kU := keepT (o' := .dT kvs') (sm _ _ hrdL) (fun xs q => by cases q)
    have nDrd : D ≠ rd := fun z => by
      rw [z, hrdL] at nD
      cases nD
    have hD2 : (upd Hy rd (.dT kvs')) D = some (.lst (ps.map V.ref)) := (upd_ne nDrd).trans hD
    have hps2 : Paired (PairT (upd Hy rd (.dT kvs'))) ps (kvs'.filter fun kv => pK kv.1) := Paired.mapP hps fun _ _ ⟨t, a, b⟩ => ⟨t, kU _ _ a, kU _ _ b⟩
    generalize upd Hy rd (.dT kvs') = Hz at *
    refine ⟨D, ps, _, rfl, SqL.of hD2, hps2, fun ch nch => ?_⟩
    have ndf : ((kvs'.filter fun kv => pK kv.1).map (·.1)).Nodup := List.Nodup.sublist (List.Sublist.map _ List.filter_sublist) nd
    rw [show mergeT [] (kvs'.filter fun kv => pK kv.1) = kvs'.filter (fun kv => pK kv.1) from mergeT_new _ [] ndf]
    have s3 := sU.trans (sameUpd (o := .dT (kvs'.filter fun kv => pK kv.1)) (Same.refl Hz) nch)
    have hch := @upd_same Hz ch (.dT (kvs'.filter fun kv => pK kv.1))
    generalize upd Hz ch (.dT (kvs'.filter fun kv => pK kv.1)) = Ha at *
    obtain ⟨q2, hq2⟩ : ∃ q2 : Plan, q2 = { q with rules := q.rules.filter fun kv => pK (keyT kv.1) } := ⟨_, rfl⟩
    have hru : RulesAt Ha ch q2.rules := by
      rw [hq2]
      exact ⟨_, hch, paired_filter (F := RuleAt Ha) (fun x y h => congrArg pK h.1) (Paired.mapP z7 fun _ _ z => RuleAt.mono (fun _ _ z => s3 _ _ z) z)⟩
    have hkey : ∀ t, getA q2.rules (keyM (stN q t)) = getA q.rules (keyM (stN q t)) := fun t => by
      rw [hq2]
      refine getA_filter (p := fun k => pK (keyT k)) ?_ q.rules
      show pK (keyT (keyM (stN q t))) = true
      rw [hpK]
      by_cases z0 : mn = 0
      · simp [z0]
      · have e1 : mn = n := by rcases hmn4.2 with z | z <;> omega
        have := (valV_isSome kvs (keyT (keyM (stN q t)))).mpr ((hU.2 _).mpr ⟨foldT n s t, by rw [e1]; exact foldT_lt hlt, by rw [st_fold hrep]⟩)
        simp [this]
    have wf2 : WfP q2 := by
      rw [hq2]
      exact ⟨wfq.sN, wfq.mN, wfq.s1, wfq.s4, wfq.m1, wfq.m6, wfq.n1, wfq.n16, wfq.fl, wfq.r1, wfq.r3, wfq.rt, List.Nodup.sublist (List.Sublist.map _ List.filter_sublist) wfq.rn, fun kv h => wfq.ru kv ((List.mem_filter.mp h).1)⟩
    have sm2 : Small q2 := by rw [hq2]; exact smq
    have so2 : SortedR q2.rules := by
      rw [hq2]
      exact List.Pairwise.sublist (List.Sublist.map _ List.filter_sublist) soq
    have hst : ∀ t, stN q2 t = stN q t := by
      intro t
      have := st_kept (rs := q2.rules) q1 wfq.rt hkey t
      rw [hq2] at this ⊢
      exact this
    have htk : ∀ t, tkN q2 t = tkN q t := by
      intro t
      have := tk_kept (rs := q2.rules) q1 wfq.rt hkey t
      rw [hq2] at this ⊢
      exact this
    have e2s : q2.signs = q.signs := by rw [hq2]
    have e2m : q2.moods = q.moods := by rw [hq2]
    have e2f : q2.floor = q.floor := by rw [hq2]
    have e2r : q2.robots = q.robots := by rw [hq2]
    replace hp6 := s3 _ _ hp6
    replace hO := hO.same s3
    clear hq2 hps2 hD2 nDrd kU sU hps sm hD nD nch s3 hch ndf
    obtain ⟨o7, ho7⟩ : ∃ o7 : Option V, o7 = some (sV (q.moods.getD (keyM (stN q ((mn : Nat) : Int).toNat)).1 [])) := ⟨_, rfl⟩
    show tSeq _ _ _ _ _
    refine ⟨_, rfl, _, rfl, slA_any hp6 fun p1 Hb s4 hp1 => ?_⟩
    refine ⟨_, rfl, (by show 1 ≤ sizeLine; decide), fun p3 np3 => ?_⟩
    have s5 := sameUpd (o := .tup [.ref ch]) (Same.refl Hb) np3
    have hp3 := @upd_same Hb p3 (.tup [.ref ch])
    generalize upd Hb p3 (.tup [.ref ch]) = Hc at *
    refine catA_any (s5 _ _ hp1) hp3 (by show 4 + 1 ≤ sizeLine; decide) fun p4 Hd s6 hp4 => ?_
    change Hd p4 = some (.tup [.ref sa, .ref ma, .ref fa, .ref ra, .ref ch]) at hp4
    have s46 := (s4.trans s5).trans s6
    have hP2 : PlanV Hd p4 q2 := by
      obtain ⟨h1, h2, h3, ⟨ras, h4, h5⟩, _⟩ := hO.same s46
      obtain ⟨kk, z1, z2⟩ := hru
      exact ⟨sa, ma, fa, ra, ch, ras, hp4, by rw [e2s]; exact h1, by rw [e2m]; exact h2, by rw [e2f]; exact h3, h4, by rw [e2r]; exact h5, kk, s46 _ _ z1, Paired.mapP z2 fun _ _ z => RuleAt.mono (fun _ _ z => s46 _ _ z) z⟩
    clear hO hp6 hru s4 s5 s6 s46 np3 hp1 hp3 hp4
    refine ⟨p4, q2, rfl, hP2, wf2, so2, fun He' s7 => ?_⟩
    clear s7 hP2
    have hea2 := small_early wf2 sm2
    have hrd2 := reads_text wf2 so2
    show tSeq _ _ _ _ _
    refine at_slots [some (.ref a), some (.ref d), some (.ref p6), some (sV (textOf q)), some (.ref ud), some (.int (s : Nat)), some (.int ((n : Int) - (s : Int))), o7, some (.ref fl), none, some (.ref wd), none, some (.int (mn : Nat)), o13, some (.ref ch), none, some (sV (textOf q2)), none] (by rw [ho7]; rfl) ?_
    refine ⟨_, rfl, _, rfl, textOf q, textOf q2, q, q2, rfl, ⟨hrd, wfq, hea⟩, ⟨hrd2, wf2, hea2⟩, by rw [e2f], e2s.symm, fun rr Hf sf hFD => ?_⟩
    obtain rfl : rr = none := by
      cases rr with
      | none => rfl
      | some u => exact absurd (by rw [hst]) hFD.1
    refine ⟨rfl, _, rfl, iteF ?_⟩
    refine ⟨_, rfl, textOf q2, q2, rfl, hrd2, wf2, hea2, fun tc n' s' Hg' ntc sg hrep' hn2' htc => ?_⟩
    obtain ⟨rfl, rfl⟩ := Rep.unique (show Rep (stN q2) n s from by
      have e : stN q2 = stN q := funext hst
      rw [e]; exact hrep) hrep'
    refine ⟨_, rfl, _, rfl, (by show 2 ≤ sizeLine; decide), fun t2 nt2 => ?_⟩
    have s15 := sameUpd (o := .tup [.int (s : Nat), .int ((n : Int) - (s : Int))]) (Same.refl Hg') nt2
    have ht2 := @upd_same Hg' t2 (.tup [.int (s : Nat), .int ((n : Int) - (s : Int))])
    replace htc := s15 _ _ htc
    generalize upd Hg' t2 (.tup [.int (s : Nat), .int ((n : Int) - (s : Int))]) = Hh at *
    refine ⟨_, _, .tup (SqT.of htc) (.cons (.int _) (.cons (.int _) .nil)), .tup (SqT.of ht2) (.cons (.int _) (.cons (.int _) .nil)), (shd_ii _ _).shaped (by decide), (shd_ii _ _).shaped (by decide), ?_⟩
    rw [(shd_ii _ _).eqv]
    refine ⟨_, rfl, iteF ?_⟩
    clear htc ht2 nt2 ntc s15
    refine ⟨_, rfl, textOf q, q, 0, 151, by rfl, hrd, wfq, hea, by omega, by omega, by omega, fun us Hi si hus l nl => ?_⟩
    have s16 := sameUpd (o := .lst (us.map V.ref)) (Same.refl Hi) nl
    have hl := @upd_same Hi l (.lst (us.map V.ref))
    replace hus : Paired (TrcAt (upd Hi l (.lst (us.map V.ref)))) us (traceM q 0 151) := Paired.mapP hus fun _ _ z => s16 _ _ z
    generalize upd Hi l (.lst (us.map V.ref)) = Hj at *
    refine ⟨_, rfl, textOf q2, q2, 0, 151, by rfl, hrd2, wf2, hea2, by omega, by omega, by omega, fun us2 Hk sk hus2 l2 nl2 => ?_⟩
    have s17 := sk.trans (sameUpd (o := .lst (us2.map V.ref)) (Same.refl Hk) nl2)
    have hl2 := @upd_same Hk l2 (.lst (us2.map V.ref))
    replace hus2 : Paired (TrcAt (upd Hk l2 (.lst (us2.map V.ref)))) us2 (traceM q2 0 151) := Paired.mapP hus2 fun _ _ z => (sameUpd (Same.refl Hk) nl2) _ _ z
    generalize upd Hk l2 (.lst (us2.map V.ref)) = Hl at *
    rw [trace_kept htk] at hus2
    refine ⟨_, _, .lst (SqL.of (s17 _ _ hl)) (dpa_trs (Paired.mapP hus fun _ _ z => s17 _ _ z)), .lst (SqL.of hl2) (dpa_trs hus2), (shd_trs wfq _ _).shaped (by decide), (shd_trs wfq _ _).shaped (by decide), ?_⟩
    rw [(shd_trs wfq _ _).eqv]
    refine ⟨_, rfl, iteF ?_⟩
    clear hl hl2 hus hus2 s16 s17 sk nl nl2 si
    refine ⟨_, rfl, textOf q, q, rfl, hrd, wfq, hea, fun n1 s1 v1 Hm hr1' sm1 hv1 => ?_⟩
    obtain ⟨rfl, rfl⟩ := hrep.unique hr1'
    refine ⟨_, rfl, textOf q2, q2, rfl, hrd2, wf2, hea2, fun n1 s1 v2 Hn hr2' sm2' hv2 => ?_⟩
    obtain ⟨rfl, rfl⟩ := hrep'.unique hr2'
    rw [longM_kept htk (by rw [e2f])] at hv2
    refine ⟨_, _, dp_wt (hv1.same sm2'), dp_wt hv2, (shd_wt _).shaped (by decide), (shd_wt _).shaped (by decide), ?_⟩
    rw [(shd_wt _).eqv]
    refine ⟨_, rfl, iteF ?_⟩
    clear hv1 hv2 sm1 sm2' hr1' hr2'
    show tSeq _ _ _ _ _
    -- the words
    refine ⟨_, rfl, rfl, fun WL nWL => ?_⟩
    refine lcG_tra (first := 0) (m := 151) (fun H y x => y = sV x.2.2.2) (fun {H H' y x} no e => e) hrd wfq hea (by omega) (by omega) (by omega) nWL (fun ta x H1 Qy Qn hx sm ht hy => ⟨rfl, _, rfl, ta, _, 3, _, rfl, rfl, SqT.of ht, atI_nat (j := 3) rfl, hy _ _ (Same.refl H1) rfl⟩) ?_
    intro rs Ho so' hW hpw
    obtain rfl := paired_words hpw
    rw [words_all q1 wfq.rt 151] at hW
    clear hpw so' nWL
    obtain ⟨Ws, hWs⟩ : ∃ Ws : List V, Ws = (List.range 151).map fun i => sV (wordO q i) := ⟨_, rfl⟩
    rw [← hWs] at hW
    have hWg : ∀ i, i < 151 → Ws[i]? = some (sV (wordO q i)) := fun i hi => by rw [hWs, List.getElem?_map, List.getElem?_range hi]; rfl
    have hWl : Ws.length = 151 := by rw [hWs, List.length_map, List.length_range]
    clear hWs
    show tSeq _ _ _ _ _
    refine at_slots [some (.ref a), some (.ref d), some (.ref p6), some (sV (textOf q)), some (.ref ud), some (.int (s : Nat)), some (.int ((n : Int) - (s : Int))), o7, some (.ref fl), none, some (.ref wd), none, some (.int (mn : Nat)), o13, some (.ref ch), none, some (sV (textOf q2)), some (.ref WL)] rfl ?_
    refine ⟨_, rfl, _, _, rfl, ?_⟩
    obtain ⟨mm, hmm, hm150⟩ : ∃ mm : Nat, (if (150 : Int) < (mn : Int) then (150 : Int) else (mn : Int)) = (mm : Int) ∧ mm = min mn 150 := by
      by_cases z : (150 : Int) < (mn : Int)
      · exact ⟨150, if_pos z, by omega⟩
      · exact ⟨mn, by rw [if_neg z], by omega⟩
    rw [hmm]
    refine ⟨_, rfl, by omega, by omega, ?_⟩
    have est : ("rest" : Str) = sx wRest := by kernel_rfl
    refine for_range (lo := 0) (n := ((mm : Nat) : Int).toNat) (fun i σ Hx => ∃ (o13 : Option V), σ = [some (.ref a), some (.ref d), some (.ref p6), some (sV (textOf q)), some (.ref ud), some (.int (s : Nat)), some (.int ((n : Int) - (s : Int))), o7, some (.ref fl), none, some (.ref wd), none, some (.int (mn : Nat)), o13, some (.ref ch), none, some (sV (textOf q2)), some (.ref WL)] ∧ Hx WL = some (.lst Ws) ∧ ∀ u, u < i → wordO q u ≠ wRest) ⟨_, rfl, hW, fun u hu => by omega⟩ ?_ ?_
    · clear hW
      rintro i σ Hx hi ⟨o13, rfl, hW, hno⟩
      rw [Int.toNat_natCast] at hi
      have ez : (0 : Int) + (i : Nat) = (i : Nat) := by omega
      rw [ez]
      have hi150 : i < 150 := by omega
      refine ⟨_, rfl, _, rfl, WL, _, i, _, rfl, rfl, SqL.of hW, atI_nat (hWg i (by omega)), rfl, _, rfl, ?_⟩
      rw [dec_wd est]
      by_cases hw : wordO q i = wRest
      · obtain ⟨hr1', hr2'⟩ := rest_at wfq q1 hrep hw
        rw [decide_eq_true hw]
        refine iteT ⟨_, rfl, textOf q, q, rfl, hrd, wfq, hea, fun n1 s1 H1 hq1 sm1 => ?_⟩
        obtain ⟨rfl, rfl⟩ := hrep.unique hq1
        rw [hr1']
        refine ⟨rfl, ?_⟩
        rw [decide_eq_false (fun z => nomatch z)]
        refine ⟨_, rfl, iteT ?_⟩
        refine ⟨_, rfl, textOf q, q, rfl, hrd, wfq, hea, fun n1 s1 H2 hq2' sm2' => ?_⟩
        obtain ⟨rfl, rfl⟩ := hrep.unique hq2'
        rw [hr1']
        refine ⟨_, rfl, _, _, rfl, rfl, ?_⟩
        refine ⟨_, rfl, ?_⟩
        rw [decide_eq_true (show ((s : Nat) : Int) ≤ (i : Nat) by omega)]
        refine iteT ?_
        replace hW := sm2' _ _ (sm1 _ _ hW)
        refine ⟨_, rfl, _, rfl, _, rfl, WL, _, rfl, SqL.of hW, fun w1 nw1 => ?_⟩
        rw [cut_dropB]
        have u1 := sameUpd (o := .lst (Ws.drop i)) (Same.refl H2) nw1
        have hw1 := @upd_same H2 w1 (.lst (Ws.drop i))
        generalize upd H2 w1 (.lst (Ws.drop i)) = H3 at *
        refine ⟨(by show 1 ≤ sizeLine; decide), fun w2 nw2 => ?_⟩
        have u2 := sameUpd (o := .lst [.str "rest"]) (Same.refl H3) nw2
        have hw2 := @upd_same H3 w2 (.lst [.str "rest"])
        replace hw1 := u2 _ _ hw1
        generalize upd H3 w2 (.lst [.str "rest"]) = H4 at *
        refine ⟨_, rfl, _, _, rfl, rfl, w2, _, _, rfl, rfl, hw2, by omega, by omega, ?_, fun w3 nw3 => ?_⟩
        · rw [sizeLine_eq]
          show 1 * ((151 : Int) - (i : Int)).toNat ≤ _
          omega
        have x1 : Ws.drop i = (List.replicate (151 - i) wRest).map sV := by
          rw [List.map_replicate]
          refine List.ext_getElem? fun j => ?_
          rw [List.getElem?_drop]
          by_cases z : i + j < 151
          · rw [hWg _ z, (rest_ever wfq q1 hw j).2, List.getElem?_replicate, if_pos (by omega)]
          · rw [List.getElem?_eq_none (by omega), List.getElem?_eq_none (by rw [List.length_replicate]; omega)]
        have x2 : (List.replicate ((151 : Int) - (i : Int)).toNat [V.str "rest"]).flatten = (List.replicate (151 - i) wRest).map sV := by
          rw [rep_one, List.map_replicate, show ((151 : Int) - (i : Int)).toNat = 151 - i by omega, est]
        rw [x2]
        rw [x1] at hw1
        have u3 := sameUpd (o := .lst ((List.replicate (151 - i) wRest).map sV)) (Same.refl H4) nw3
        have hw3 := @upd_same H4 w3 (.lst ((List.replicate (151 - i) wRest).map sV))
        replace hw1 := u3 _ _ hw1
        generalize upd H4 w3 (.lst ((List.replicate (151 - i) wRest).map sV)) = H5 at *
        refine ⟨_, _, .lst (SqL.of hw1) (dpa_strs _), .lst (SqL.of hw3) (dpa_strs _), (shd_rests _).shaped (by decide), (shd_rests _).shaped (by decide), ?_⟩
        rw [(shd_rests _).eqv]
        exact k _
      · rw [decide_eq_false hw]
        refine iteF ⟨_, rfl, hW, fun u hu => ?_⟩
        rcases Nat.lt_or_ge u i with z | z
        · exact hno u z
        · rw [show u = i by omega]; exact hw
    clear hW
    rintro σ Hx ⟨o13, rfl, hW, hno⟩
    rw [Int.toNat_natCast] at hno
    refine ⟨_, rfl, rfl, _, rfl, ?_⟩
    by_cases z0 : mn = 0
    · rw [decide_eq_true (show V.int (mn : Nat) = V.int 0 by rw [z0]; rfl)]
      exact iteT (k _)
    · rw [decide_eq_false (show ¬ V.int (mn : Nat) = V.int 0 from fun y => z0 (by injection y with y; omega))]
      refine iteF ⟨_, rfl, textOf q, q, rfl, hrd, wfq, hea, fun n1 s1 H1 hq2' sm1 => ?_⟩
      obtain ⟨rfl, rfl⟩ := hrep.unique hq2'
      refine ⟨rfl, _, rfl, ?_⟩
      rw [rest_one q1 wfq.rt]
      by_cases hw : wordO q s = wRest
      · rw [if_pos hw, decide_eq_false (fun z => nomatch z)]
        have hs : mm ≤ s := Nat.le_of_not_lt fun y => hno s y hw
        refine iteF ⟨_, rfl, textOf q, q, rfl, hrd, wfq, hea, fun n1 s1 H2 hq3' sm2' => ?_⟩
        obtain ⟨rfl, rfl⟩ := hrep.unique hq3'
        rw [rest_one q1 wfq.rt, if_pos hw]
        refine ⟨_, rfl, _, _, rfl, ?_⟩
        rw [hmm]
        refine ⟨_, _, rfl, rfl, _, _, rfl, rfl, ?_⟩
        show Q (V.bl (decide (((mm : Nat) : Int) - 1 ≤ ((s : Nat) : Int)))) H2
        rw [decide_eq_true (show ((mm : Nat) : Int) - 1 ≤ ((s : Nat) : Int) by omega)]
        exact k _
      · rw [if_neg hw, decide_eq_true rfl]
        exact iteT (k _)
end
end Sw

end

section
set_option maxRecDepth 100000
set_option maxHeartbeats 0
/-! the head: facts by names -/
namespace Sw
open PySem PySem.Spec PyProof.Rows L2 SwA
theorem fclsB_ok {K : PySem.W.Frag} (h : fclsB K = true) : PySem.W.findCls K (.ref (He.ga K "SweepError")) (.type "type") "__init__" = some (.val (.builtin "ValueError.__init__")) := by
  unfold fclsB at h
  split at h
  · rename_i n e
    rw [e, beq_iff_eq.mp h]
  · cases h
theorem mvB_ok {K : PySem.W.Frag} (h : mvB K = true) : ∃ o, K.lookup (He.ga K "MOVES") = some o ∧ o.cls = .type "tuple" ∧ o.dict = none := by
  unfold mvB at h
  split at h
  · rename_i e
    exact ⟨_, e, rfl, rfl⟩
  · cases h
theorem kTup_ok {K : PySem.W.Frag} {x : Str} {ws : List Cs} (h : He.tupB K x (ws.map fun w => He.Dv.str (sx w)) = true) : ∀ H : Hp, SqT K H (He.ga K x) (ws.map fun w => V.str (sx w)) := fun H => by
  have := He.tupB_ok h H
  rw [List.map_map] at this
  exact this
theorem propB_ok {K : PySem.W.Frag} {C f : Str} (h : propB K C f = true) : PropOf K (He.ga K C) f (He.ma K (He.ga K C) f) (He5.wf K (He.ga K C) "property" f) := by
  obtain ⟨h1, h⟩ := He.ba h
  obtain ⟨h2, h⟩ := He.ba h
  obtain ⟨h3, h4⟩ := He.ba h
  refine ⟨He.eqO_ok h1, He.eqO_ok h2, of_decide_eq_true h3, ?_⟩
  unfold recB at h4
  unfold He5.wf
  split at h4
  · rename_i g r e
    exact ⟨r, by rw [e]⟩
  · cases h4
theorem facts {K : PySem.W.Frag} {h : Heap} {mg : Str → Option Value} {w : World} (X : K.In h) (G : h.Ns mainGlobals mg) (c : SaysY w K) : L42T K mg ∧ DeT K mg "law" s_law := by
  have q := c.more
  unfold exB at q
  obtain ⟨x0, q⟩ := He.ba q
  obtain ⟨x1, q⟩ := He.ba q
  obtain ⟨x2, q⟩ := He.ba q
  obtain ⟨x3, q⟩ := He.ba q
  obtain ⟨x4, q⟩ := He.ba q
  obtain ⟨x5, q⟩ := He.ba q
  obtain ⟨x6, q⟩ := He.ba q
  obtain ⟨x7, q⟩ := He.ba q
  obtain ⟨x8, q⟩ := He.ba q
  obtain ⟨x9, q⟩ := He.ba q
  obtain ⟨x10, q⟩ := He.ba q
  obtain ⟨x11, q⟩ := He.ba q
  obtain ⟨x12, q⟩ := He.ba q
  obtain ⟨x13, q⟩ := He.ba q
  obtain ⟨x14, q⟩ := He.ba q
  obtain ⟨x15, q⟩ := He.ba q
  obtain ⟨x16, q⟩ := He.ba q
  obtain ⟨x17, q⟩ := He.ba q
  have x18 := q
  have hLaw : LawT K mg := ⟨(He.free_ok X G (c.t.d.fact 0 rfl)), (He.free_ok X G (c.t.d.fact 1 rfl)), (He.free_ok X G (c.t.d.fact 2 rfl)), (He.free_ok X G (c.t.d.fact 3 rfl)), (He.free_ok X G (c.t.d.fact 4 rfl)), ⟨(c.t.d.def_ 43 rfl), (He.glo_ok X G (c.t.d.fact 5 rfl))⟩, ⟨(c.t.d.def_ 44 rfl), (He.glo_ok X G (c.t.d.fact 6 rfl))⟩⟩
  have hSho : ShoT K mg := ⟨⟨⟨hLaw, ⟨(c.t.d.def_ 45 rfl), (He.glo_ok X G (c.t.d.fact 7 rfl))⟩⟩, ⟨(c.t.d.def_ 46 rfl), (He.glo_ok X G (c.t.d.fact 8 rfl))⟩⟩, (He.free_ok X G (c.t.d.fact 9 rfl)), ⟨(c.t.d.def_ 47 rfl), (He.glo_ok X G (c.t.d.fact 10 rfl))⟩⟩
  have hLin : LinT K mg := ⟨⟨⟨hLaw, ⟨(c.t.d.def_ 45 rfl), (He.glo_ok X G (c.t.d.fact 7 rfl))⟩⟩, ⟨(c.t.d.def_ 46 rfl), (He.glo_ok X G (c.t.d.fact 8 rfl))⟩⟩, (He.free_ok X G (c.t.d.fact 11 rfl)), (He.free_ok X G (c.t.d.fact 12 rfl)), ⟨(c.t.d.def_ 48 rfl), (He.glo_ok X G (c.t.d.fact 13 rfl))⟩, ⟨(c.t.d.def_ 49 rfl), (He.glo_ok X G (c.t.d.fact 14 rfl))⟩⟩
  have hErr : ErrT K mg := ⟨⟨(He.glo_ok X G (c.t.d.fact 15 rfl)), ⟨x0, He.eqO_ok x1⟩, fclsB_ok x2⟩, (excCB_ok X G x3), (c.t.d.def_ 0 rfl)⟩
  have hLex : LexT K mg := ⟨hErr, (He.free_ok X G (c.t.d.fact 0 rfl)), (He.free_ok X G (c.t.d.fact 16 rfl)), (mkCB_ok X G x4), (c.t.d.def_ 2 rfl), (c.t.d.def_ 3 rfl), (He.glo_ok X G (c.t.d.fact 17 rfl)), (c.t.d.def_ 4 rfl), (He.glo_ok X G (c.t.d.fact 18 rfl)), (c.t.d.def_ 5 rfl), (He.glo_ok X G (c.t.d.fact 19 rfl)), (He.str_ok X G (c.t.d.fact 20 rfl)), (He.str_ok X G (c.t.d.fact 21 rfl)), (He.str_ok X G (c.t.d.fact 22 rfl)), (He.str_ok X G (c.t.d.fact 23 rfl)), (He.str_ok X G (c.t.d.fact 24 rfl)), (He.str_ok X G (c.t.d.fact 25 rfl)), (He.str_ok X G (c.t.d.fact 26 rfl)), (He.str_ok X G (c.t.d.fact 27 rfl)), (He.str_ok X G (c.t.d.fact 28 rfl)), (He.int_ok X G (c.t.d.fact 29 rfl)), (He.int_ok X G (c.t.d.fact 30 rfl)), (He.glo_ok X G (c.t.d.fact 31 rfl)), (kTup_ok x5)⟩
  have hPar : ParT K mg := ⟨hLex, (mkCB_ok X G x6), (of_decide_eq_true x7), (He.free_ok X G (c.t.d.fact 32 rfl)), (He.free_ok X G (c.t.d.fact 3 rfl)), (He.free_ok X G (c.t.d.fact 4 rfl)), (c.t.d.def_ 9 rfl), ⟨(c.t.d.def_ 10 rfl), He.meth_ok (c.t.d.fact 33 rfl)⟩, ⟨(c.t.d.def_ 11 rfl), He.meth_ok (c.t.d.fact 34 rfl)⟩, ⟨(c.t.d.def_ 12 rfl), He.meth_ok (c.t.d.fact 35 rfl)⟩, ⟨(c.t.d.def_ 13 rfl), He.meth_ok (c.t.d.fact 36 rfl)⟩, ⟨(c.t.d.def_ 14 rfl), He.meth_ok (c.t.d.fact 37 rfl)⟩, ⟨(c.t.d.def_ 15 rfl), He.meth_ok (c.t.d.fact 38 rfl)⟩, ⟨(c.t.d.def_ 16 rfl), He.meth_ok (c.t.d.fact 39 rfl)⟩, ⟨(c.t.d.def_ 17 rfl), He.meth_ok (c.t.d.fact 40 rfl)⟩, ⟨(c.t.d.def_ 18 rfl), He.meth_ok (c.t.d.fact 41 rfl)⟩, ⟨(c.t.d.def_ 19 rfl), He.meth_ok (c.t.d.fact 42 rfl)⟩, ⟨(c.t.d.def_ 20 rfl), He.meth_ok (c.t.d.fact 43 rfl)⟩, ⟨(c.t.d.def_ 21 rfl), He.meth_ok (c.t.d.fact 44 rfl)⟩, ⟨(c.t.d.def_ 22 rfl), He.meth_ok (c.t.d.fact 45 rfl)⟩, (He.int_ok X G (c.t.d.fact 46 rfl)), (He.int_ok X G (c.t.d.fact 47 rfl)), (He.int_ok X G (c.t.d.fact 48 rfl)), (He.int_ok X G (c.t.d.fact 49 rfl)), (He.glo_ok X G (c.t.d.fact 50 rfl)), (kTup_ok x8), (He.glo_ok X G (c.t.d.fact 51 rfl)), (kTup_ok x9)⟩
  have hLoad : LoadT K mg := ⟨hPar, (mkCB_ok X G x10), (c.t.d.def_ 6 rfl), (c.t.d.def_ 23 rfl), (He.glo_ok X G (c.t.d.fact 52 rfl))⟩
  have hMach : MachT K mg := ⟨hLoad, (He.free_ok X G (c.t.d.fact 53 rfl)), (He.free_ok X G (c.t.d.fact 54 rfl)), (He.str_ok X G (c.t.d.fact 55 rfl)), ⟨(c.t.d.def_ 24 rfl), (He.glo_ok X G (c.t.d.fact 56 rfl))⟩, ⟨(c.t.d.def_ 26 rfl), (He.glo_ok X G (c.t.d.fact 57 rfl))⟩, (mkCB_ok X G x11), (c.t.d.def_ 27 rfl), ⟨(c.t.d.def_ 28 rfl), (He.glo_ok X G (c.t.d.fact 58 rfl))⟩, ⟨(c.t.d.def_ 29 rfl), (He.glo_ok X G (c.t.d.fact 59 rfl))⟩, ⟨(c.t.d.def_ 30 rfl), (He.glo_ok X G (c.t.d.fact 60 rfl))⟩, (mkCB_ok X G x12), (c.t.d.def_ 31 rfl), ⟨(c.t.d.def_ 32 rfl), (He.glo_ok X G (c.t.d.fact 61 rfl))⟩⟩
  have hSto : StoT K mg := ⟨hMach, ⟨(of_decide_eq_true x13), (of_decide_eq_true x14), (of_decide_eq_true x15)⟩, ⟨(c.a.def_ 0 rfl), propB_ok x16⟩, (He.int_ok X G (c.t.d.fact 62 rfl)), (mkCB_ok X G x17), (c.t.d.def_ 33 rfl)⟩
  have hHap : HapT K mg := ⟨hSto, ⟨(c.a.def_ 1 rfl), propB_ok x18⟩, ⟨(c.t.d.def_ 34 rfl), He.meth_ok (c.t.d.fact 63 rfl)⟩⟩
  have hFc : FcT K mg := ⟨hHap, ⟨(c.t.d.def_ 39 rfl), (He.glo_ok X G (c.t.d.fact 64 rfl))⟩⟩
  have hCk : CkT K mg := ⟨hHap, (He.int_ok X G (c.t.d.fact 65 rfl)), ⟨(c.t.d.def_ 25 rfl), (He.glo_ok X G (c.t.d.fact 66 rfl))⟩⟩
  have hTra : TraT K mg := ⟨hCk, (He.int_ok X G (c.t.d.fact 67 rfl)), (He.free_ok X G (c.t.d.fact 4 rfl)), (He.free_ok X G (c.t.d.fact 16 rfl)), (He.free_ok X G (c.t.d.fact 68 rfl)), (He.free_ok X G (c.t.d.fact 9 rfl)), ⟨(c.t.d.def_ 38 rfl), (He.glo_ok X G (c.t.d.fact 69 rfl))⟩⟩
  have hSon : SonT K mg := ⟨hCk, ⟨(c.t.d.def_ 36 rfl), (He.glo_ok X G (c.t.d.fact 70 rfl))⟩⟩
  have hRin : RinT K mg := ⟨hCk, ⟨(c.t.d.def_ 37 rfl), (He.glo_ok X G (c.t.d.fact 71 rfl))⟩⟩
  have hFd : FdT K mg := ⟨hHap, (He.free_ok X G (c.t.d.fact 4 rfl)), (He.free_ok X G (c.t.d.fact 72 rfl)), ⟨(c.t.d.def_ 40 rfl), (He.glo_ok X G (c.t.d.fact 73 rfl))⟩⟩
  have hLw : LwT K mg := ⟨hHap, (He.free_ok X G (c.t.d.fact 4 rfl)), ⟨(c.t.d.def_ 42 rfl), (He.glo_ok X G (c.t.d.fact 74 rfl))⟩⟩
  have hRk : RkT K mg := ⟨hHap, (He.free_ok X G (c.t.d.fact 75 rfl)), ⟨(c.t.d.def_ 41 rfl), (He.glo_ok X G (c.t.d.fact 76 rfl))⟩⟩
  exact ⟨⟨hSho, hLin, hFc, hTra, hSon, hRin, hFd, hLw, hRk, (He.free_ok X G (c.t.d.fact 77 rfl))⟩,
    ⟨(c.t.d.def_ 50 rfl), (He.glo_ok X G (c.t.d.fact 78 rfl))⟩⟩
theorem facts2 {P : Program} {w : World} {K : PySem.W.Frag} {h : Heap} {mg : Str → Option Value} {f : Addr} (X : K.In h) (G : h.Ns mainGlobals mg) (hfa : mg ("law" : Str) = some (.ref f)) (c : SaysY w K) :
    ∃ fd : FuncData, (∀ (s : Shared) (v : Value), BindsTo s fd ⟨[v], []⟩ [("_law_script", v)]) ∧ ∀ base : Heap, K.In base → base.Ns mainGlobals mg → FnOk P w K mg base CX0 16 f fd ["_law_script"] (spLaw K) := by
  obtain ⟨T, L⟩ := facts X G c
  obtain ⟨fd, F⟩ := L.d
  have e := hfa.symm.trans L.g
  cases e
  have b := FunD.bindsA (ps := ["_law_script"]) F fun _ _ _ _ _ _ us hl => match us, hl with | [_], _ => rfl
  refine ⟨fd, fun s v => b s [v] rfl, fun base _ _ => ?_⟩
  exact ok_law T F
end Sw
open PySem PySem.W PySem.Calls PyProof.Rows
theorem PySem.Challenge.cw_sweeprota_k42_whole_rules_that_never_hol_holds : PySem.Challenge.rw_sweeprota_k42_whole_rules_that_never_hol.Holds := by
  w_on; o_law
  refine HandSHeadRun.head_any (r := OpenLaw.row PySem.Challenge.rw_sweeprota_k42_whole_rules_that_never_hol) (q := view (OpenLaw.row PySem.Challenge.rw_sweeprota_k42_whole_rules_that_never_hol).prog [67]) (H := Sw.hk) (ob := Sw.ob) (M := 60000) (loose := Sw.names) (d := HandSHeadRun.topDef (OpenLaw.row PySem.Challenge.rw_sweeprota_k42_whole_rules_that_never_hol).prog 67) (kwd := []) Sw.ob_eq
    (by kernel_rfl) (fun s => by kernel_rfl) Sw.run (by kernel_rfl) (by kernel_rfl) (by kernel_rfl) (by rfl) (by first | assumption | decide +kernel) (by decide +kernel) ⟨rfl, rfl, rfl, rfl, rfl, by decide +kernel⟩ ?hw ?hc
  case hw => w_witness2
  case hc =>
    refine L2.walk_ofE (l := PySem.Challenge.rw_sweeprota_k42_whole_rules_that_never_hol) (n := 63) (k := 16) (x := "_law_script") (CX := L2.CX0) rfl (by decide) (by kernel_rfl) ⟨rfl, by decide, by decide⟩ ?F (fun _ _ _ _ z => z)
    intro w mg fa h Y G hmg0
    obtain ⟨K, KX, c⟩ := Y
    have hmg : mg ("law" : PySem.Str) = some (.ref fa) := by
      have e : (HandSHeadRun.topDef (OpenLaw.row PySem.Challenge.rw_sweeprota_k42_whole_rules_that_never_hol).prog 67).name = ("law" : PySem.Str) := by kernel_rfl
      rw [← e]
      exact hmg0
    obtain ⟨fd, hb, hF⟩ := Sw.facts2 (P := (PySem.Challenge.rw_sweeprota_k42_whole_rules_that_never_hol).prog) (w := w) KX G hmg c
    exact ⟨K, fd, Sw.spLaw K, KX, hb, fun H a ns hl _ hS => ⟨a, ns, rfl, hS, hl, fun _ => rfl⟩, hF⟩

end
