import PyProof.Rows.All
import Wide.All
import OpenK.AllK
import Wide.FinOn
import PySem.Challenge.RW_sweeprota_k36_whole_texts_of_one_plan
import HandS.Words
import PyProof.EqAt
import PyProof.EqKinds
import PyProof.TupleCall
import PyProof.RulesMatch
import PyProof.RulesMatchSeq
import HandS.ForMost
import HandS.ForExc
import HandS.ExcInit
import HandS.ExcField
import HandS.ExcIs
import HandS.IsInst
import HandS.More
import HandS.Steps
import HandS.Walk
import HandS.Zip
import HandS.Defaults
import HandS.ClsMeth
import HandS.Property
import HandS.TupMul
import HandS.TupAny
import HandS.FStr
import HandS.Conv
import HandS.Flow
import HandS.Lambda
import HandS.CallLocal
import HandS.Head0
import HandS.Head1
import HandS.Head2
import HandS.HeadEnd
import HandS.HeadHook1
import HandS.HeadHook2
import HandS.HeadHook3
import HandS.HeadHook4
import HandS.HeadWalk
import HandS.Text
import HandS.HeadNt
import Lean
import HandS.Dict
import KE.KDictKeyed
import KE.KeyNested
import HandS.Iter
import KE.KDictWalk
import KE.GoesMore
import HandS.SetFor
import PyProof.NeKinds
import HandS.CallRecv
import HandS.SortRule
import KE.KDictSum
import KE.SortData
import HandS.ReplaceLit
import HandS.ReplaceDef
import HandS.ReplaceList
import HandS.Replace
import HandS.Strs
import HandS.Star
import HandS.TupLen
import KE.KEqSeq
import KE.LtData
import PyProof.P3Eq
import HandS.Style
import HandS.List
set_option Elab.async false
set_option linter.all false
section
/-! the row's defs by place -/
namespace Sw
open PySem L2
def top (i : Nat) : Stmt := PySem.Challenge.pw_sweeprota_k36_whole_texts_of_one_plan.main.body.getD i (.Pass ⟨0, 0, 0, 0⟩)
abbrev s__wall : Stmt := top 0
abbrev s_SyntaxFault_init : Stmt := inClass (top 3) 0
abbrev s_CheckFault_init : Stmt := inClass (top 4) 0
abbrev s_InvalidCode_init : Stmt := inClass (top 8) 0
abbrev s_Token_init : Stmt := inClass (top 24) 0
abbrev s_run_end : Stmt := top 25
abbrev s_read_token : Stmt := top 26
abbrev s_tokenize : Stmt := top 27
abbrev s_Plan_init : Stmt := inClass (top 33) 0
abbrev s_Plan_with_floor : Stmt := inClass (top 33) 1
abbrev s_Plan_with_robots : Stmt := inClass (top 33) 2
abbrev s_Parser_init : Stmt := inClass (top 34) 0
abbrev s_Parser_peek : Stmt := inClass (top 34) 1
abbrev s_Parser_fail : Stmt := inClass (top 34) 2
abbrev s_Parser_found : Stmt := inClass (top 34) 3
abbrev s_Parser_take : Stmt := inClass (top 34) 4
abbrev s_Parser_take_word : Stmt := inClass (top 34) 5
abbrev s_Parser_take_keyword : Stmt := inClass (top 34) 6
abbrev s_Parser_parse_names : Stmt := inClass (top 34) 7
abbrev s_Parser_number_of : Stmt := inClass (top 34) 8
abbrev s_Parser_tile_of : Stmt := inClass (top 34) 9
abbrev s_Parser_parse_robot : Stmt := inClass (top 34) 10
abbrev s_Parser_parse_put : Stmt := inClass (top 34) 11
abbrev s_Parser_parse_rule : Stmt := inClass (top 34) 12
abbrev s_Parser_parse_plan : Stmt := inClass (top 34) 13
abbrev s_load : Stmt := top 35
abbrev s_format_parsed : Stmt := top 37
abbrev s_format_plan : Stmt := top 38
abbrev s_signs_of : Stmt := top 39
abbrev s_is_int_in : Stmt := top 44
abbrev s_check_tick : Stmt := top 45
abbrev s_replaced : Stmt := top 46
abbrev s_State_init : Stmt := inClass (top 47) 0
abbrev s_State_key : Stmt := inClass (top 47) 1
abbrev s_first_state : Stmt := top 48
abbrev s_moved : Stmt := top 49
abbrev s_act : Stmt := top 50
abbrev s_Tick_init : Stmt := inClass (top 51) 0
abbrev s_next_tick : Stmt := top 52
abbrev s_Story_init : Stmt := inClass (top 53) 0
abbrev s_Story_size : Stmt := inClass (top 53) 1
abbrev s_Story_happens : Stmt := inClass (top 53) 2
abbrev s_Story_count : Stmt := inClass (top 53) 3
abbrev s_robots_in : Stmt := top 54
abbrev s_first_difference : Stmt := top 56
abbrev s_names_code : Stmt := top 60
abbrev s_encode : Stmt := top 61
abbrev s_Reader_init : Stmt := inClass (top 62) 0
abbrev s_Reader_read_byte : Stmt := inClass (top 62) 1
abbrev s_Reader_read_names : Stmt := inClass (top 62) 2
abbrev s_Reader_read_rules : Stmt := inClass (top 62) 3
abbrev s_decode : Stmt := top 63
abbrev s__law_random : Stmt := top 65
abbrev s__law_below : Stmt := top 66
abbrev s__law_shuffled : Stmt := top 67
abbrev s__law_plan : Stmt := top 68
abbrev s__law_lines : Stmt := top 69
abbrev s__law_text : Stmt := top 70
abbrev s__law_placed : Stmt := top 71
abbrev s__law_short : Stmt := top 72
abbrev s_law : Stmt := top 73
abbrev nMaxLetters : Str := "MAX_LETTERS"
abbrev nMaxLetC : Str := "MAX_LETTERS"
abbrev nWays : Str := "WAYS"
abbrev nRobots : Str := "_law_robots"
end Sw

end

section
set_option maxRecDepth 100000
set_option maxHeartbeats 4000000
namespace SwA
open PySem PySem.Spec PyProof.Rows L2

/-! ### D.__init__(self, ..) where D is an own class over ValueError that has no __init__ of its own -/
theorem pe_ownveinit {X : Cx} {e : Expr} {es : List Expr} {ta : TA} {p1 p2 pos : Pos} {x : Str} {D : Addr} {pl : Sem Bool} (hg : Gl X x) (hm : X.mg x = some (.ref D)) (r : ClX.CRead X.K D (.type "type"))
    (vV : PySem.W.findCls X.K (.ref D) (.type "type") "__init__" = some (.val (.builtin "ValueError.__init__"))) (ha : PA X (e :: es) ta)
    (hc : eval (.Call (.Attribute (.Name x p1) "__init__" p2) (e :: es) [] pos) X.env = (do
      let ov ← eval (.Name x p1) X.env
      standAt p2.atName
      let (f, first) ← holding [ov] (getMethod ov "__init__" pl)
      callWith pos f first (backTo pos (starEach (e :: es) X.env)) (backToKw pos (keywordEach [] X.env))) := by rfl)
    (he : starEach (e :: es) X.env = (false, eval e X.env) :: starEach es X.env := by rfl) (hpl : (backTo pos (starEach es X.env)).any (·.1) = false := by rfl)
    (hdb : (x == ("__debug__" : Str)) = false := by decide) :
    PE X (.Call (.Attribute (.Name x p1) "__init__" p2) (e :: es) [] pos) (tVeI X.K ta) := by
  refine ⟨fun pins s σ H Q I h => ?_⟩
  refine PySem.W.methodCall_KW (ld_glob I hg hm ?_ hdb) hc
  refine PySem.W.method_cls I.kIn r.ga (PySem.W.cls_value I.kIn r.rd vV (by decide +kernel) ?_)
  show wpAny _ _ (callWith pos (Value.builtin "ValueError.__init__") [] (backTo pos (starEach (e :: es) X.env)) []) _ _ _
  refine PyProof.Rows.callWith_method1 (thn (ha.run pos pins _ σ H _ (I.tok _) h) fun us s1 ⟨vs, H1, I1, r1, a, C, ws, ev, hl, T, ea, q⟩ => ?_) he hpl
  subst ev
  cases r1 with
  | @cons _ u0 _ ur ra rw' =>
    obtain rfl : u0 = Value.ref a := ra
    have hlen : ur.length ≤ sizeLine := by
      rw [← Paired.length rw', sizeLine_eq]
      omega
    exact oinit_ok T I1 ea hlen fun s' J => ⟨.non, H1, J, rfl, q⟩

/-! ### match upon a value: cases that are written texts, and the case of anything -/
/-- the cases cs asked of the value v: what is wanted -/
structure PMs (X : Cx) (cs : List MatchCase) (t : V → TS) : Prop where
  run : ∀ (pins : List (Addr × Obj)) (s : Shared) (σ : L2.St) (H : Hp) (D : Ends) (v : V) (u : Value) (first : Bool), Inv X pins σ H s → RelV v u → t v D σ H → wpAny (model X.prog X.w) X.A (matchCases cs X.env u first) (SP X pins D) X.xe s
theorem pms_nil {X : Cx} : PMs X [] (fun _ D σ H => D.nx σ H) := ⟨fun pins s σ H D v u first I r h => wpAny_matchCases_nil ⟨σ, H, I, h⟩⟩
theorem pms_any {X : Cx} {body : List Stmt} {rest : List MatchCase} {tb : TS} {pos : Pos} (hb : PSs X body tb) : PMs X (⟨.MatchAs none none pos, none, body⟩ :: rest) (fun _ => tb) :=
  ⟨fun pins s σ H D v u first I r h => wpAny_matchCases_cons (wpAny_matchPattern_Capture (wpAny_assignInOrder_none (hb.run pins s σ H D I h)))⟩
def tCaseS (z : Str) (tb : TS) (tr : V → TS) : V → TS := fun v D σ H => ∃ y, v = .str y ∧ ((y = z → tb D σ H) ∧ (y ≠ z → tr v D σ H))
theorem pms_str {X : Cx} {z : Str} {k : Nat} {body : List Stmt} {rest : List MatchCase} {tb : TS} {tr : V → TS} {p1 p2 : Pos} (hb : PSs X body tb) (hr : PMs X rest tr) :
    PMs X (⟨.MatchValue (.Constant (.str z) k p1) p2, none, body⟩ :: rest) (tCaseS z tb tr) := by
  refine ⟨fun pins s σ H D v u first I r h => ?_⟩
  obtain ⟨y, ev, h1, h2⟩ := h
  subst ev
  refine wpAny_matchCases_cons (wpAny_matchPattern_Value ?_)
  refine thn ((pe_str (X := X) (x := z) (j := k) (pos := p1)).run pins s σ H (fun x H' => x = .str z ∧ H' = H) I ⟨rfl, rfl⟩) fun zv s1 ⟨x, H1, I1, rz, ex, eh⟩ => ?_
  subst ex
  subst eh
  refine thn (op_eq pins s1 σ H1 (.str y) (.str z) u zv (fun x H' => x = .bl (decide (V.str y = V.str z)) ∧ H' = H1) I1 r rz ⟨rfl, rfl, rfl⟩) fun c s2 ⟨x, H2, I2, rc, ex, eh⟩ => ?_
  subst ex
  subst eh
  obtain rfl : c = Value.bool (decide (V.str y = V.str z)) := rc
  refine wpAny_truthy_bool ?_
  by_cases e : y = z
  · have d : decide (V.str y = V.str z) = true := decide_eq_true (by rw [e])
    rw [d]
    exact wpAny_assignInOrder_none (hb.run pins s2 σ H2 D I2 (h1 e))
  · have d : decide (V.str y = V.str z) = false := decide_eq_false (fun q => e (V.str.inj q))
    rw [d]
    exact hr.run pins s2 σ H2 D (.str y) u false I2 r (h2 e)
def tMatch (te : TE) (t : V → TS) : TS := fun D σ H => te σ H fun v H1 => t v D σ H1
theorem ps_match {X : Cx} {e : Expr} {te : TE} {cs : List MatchCase} {t : V → TS} {pos : Pos} (he : PE X e te) (hc : PMs X cs t) : PS X (.Match e cs pos) (tMatch te t) := by
  refine ⟨fun pins s σ H D I h => ?_⟩
  refine wpAny_Match (thn (he.run pins s σ H _ I h) fun u s1 ⟨v, H1, I1, r, q⟩ => ?_)
  exact hc.run pins s1 σ H1 D v u true I1 r q
/-! ### an own exception's class, as a Bool upon the written part -/
def oexB (K : PySem.W.Frag) (C : Addr) : Bool := (match K.lookup C with
  | some ⟨.type "type", _, .cls cd, sl⟩ => (match cd.mro, sl.toList with
    | .ref C' :: bm, [_, _, _, _, some (.builtin n), _] => C' == C && (n == "ValueError.__new__" && (!cd.hasDel && (cd.hasDict && PySem.HandSPX.refsVE bm)))
    | _, _ => false)
  | _ => false) && (He.eqO (PySem.W.findIn K (.ref C) "__setattr__") (some (some (.builtin "object.__setattr__"))) && (decide (PySem.W.subIn K (.ref C) (.type "BaseException") = some true) && (decide (PySem.W.typeIn K (.ref C) = some (.type "type")) && PySem.W.keepIn K (.ref C))))
theorem oexB_ok {K : PySem.W.Frag} {C : Addr} (h : oexB K C = true) : OexC K C := by
  obtain ⟨q, h2⟩ := He.ba h
  obtain ⟨h3, h4⟩ := He.ba h2
  obtain ⟨h5, h6⟩ := He.ba h4
  obtain ⟨h7, h8⟩ := He.ba h6
  refine ⟨?_, He.eqO_ok h3, of_decide_eq_true h5, of_decide_eq_true h7, h8⟩
  split at q
  · rename_i dd cd sl ho
    split at q
    · rename_i C' bm k0 k1 k2 k3 n k5 hm hs
      simp only [Bool.and_eq_true, beq_iff_eq, Bool.not_eq_true'] at q
      obtain ⟨rfl, rfl, hdel, hdi, ht⟩ := q
      obtain ⟨nm, bs, mro, ns, qn, hd, sn, sub, ab, col, del⟩ := cd
      dsimp only at hm hdel hdi
      subst hm hdel hdi
      have hsl : sl = #[k0, k1, k2, k3, some (.builtin "ValueError.__new__"), k5] := by
        obtain ⟨l⟩ := sl
        simp only at hs
        rw [hs]
      subst hsl
      exact ⟨nm, qn, ns, bs, bm, sn, sub, ab, col, dd, k0, k1, k2, k3, k5, ho, ht⟩
    · cases q
  · cases q

/-! ### a class whose __init__ stores its arguments, one a field -/
def spInit (C : Addr) (names : List Str) : Sp := fun vs H Q _ => ∃ (p dx : Addr) (args : List V), vs = .ref p :: args ∧ args.length = names.length ∧ H p = some (.ins C dx []) ∧
  ∀ H' : Hp, H' p = some (.ins C dx (names.zip args)) → (∀ b, b ≠ p → H' b = H b) → Q .non H'
/-- C(..) of such a class, behind its arguments: a new object, all that was tracked stands -/
theorem mk_at {C : Addr} {names : List Str} {E : XK} {H1 : Hp} {Q : VK} {vs : List V} (hl : vs.length = names.length)
    (q : ∀ (x : Addr) (H2 : Hp), H1 x = none → Same H1 H2 → (∃ dx, H2 x = some (.ins C dx (names.zip vs))) → Q (.ref x) H2) :
    ∀ x dx, H1 x = none → H1 dx = none → dx ≠ x → spInit C names (.ref x :: (vs ++ [])) (upd (upd H1 dx (.own x)) x (.ins C dx [])) (fun v H2 => v = .non ∧ Q (.ref x) H2) E := by
  intro x dx nx ndx ne
  refine ⟨x, dx, vs ++ [], rfl, by rw [List.append_nil]; exact hl, upd_same, fun H' e1 e2 => ⟨rfl, ?_⟩⟩
  rw [List.append_nil] at e1
  refine q x H' nx (fun b o e => ?_) ⟨dx, e1⟩
  rw [e2 b (ne_of_none e nx), upd_ne (ne_of_none e nx), upd_ne (ne_of_none e ndx)]
  exact e

/-- the same, for any wish -/
theorem init_at {C x dx : Addr} {names : List Str} {E : XK} {H1 : Hp} {R : VK} {vs : List V} (hl : vs.length = names.length) (nx : H1 x = none) (ndx : H1 dx = none)
    (q : ∀ H2 : Hp, Same H1 H2 → (∃ dx, H2 x = some (.ins C dx (names.zip vs))) → R .non H2) : spInit C names (.ref x :: (vs ++ [])) (upd (upd H1 dx (.own x)) x (.ins C dx [])) R E := by
  refine ⟨x, dx, vs ++ [], rfl, by rw [List.append_nil]; exact hl, upd_same, fun H' e1 e2 => ?_⟩
  rw [List.append_nil] at e1
  refine q H' (fun b o e => ?_) ⟨dx, e1⟩
  rw [e2 b (ne_of_none e nx), upd_ne (ne_of_none e nx), upd_ne (ne_of_none e ndx)]
  exact e

/-! ### an own exception's __init__ that stores its arguments, one a field -/
def spFault (C : Addr) (names : List Str) : Sp := fun vs H Q _ => ∃ (a : Addr) (args : List V), vs = .ref a :: args ∧ args.length = names.length ∧ H a = some (exo a C none) ∧
  ∀ (d : Addr) (H' : Hp), H d = none → d ≠ a → H' a = some (exo a C (some d)) → H' d = some (exd d (names.zip args).reverse) → (∀ b, b ≠ a → b ≠ d → H' b = H b) → Q .non H'
/-- raise C(..), behind its arguments -/
theorem fault_at {C : Addr} {names : List Str} {H1 : Hp} {Q : XK} {vs : List V} (hl : vs.length = names.length) (hz : vs.length ≤ 1000)
    (q : ∀ (d : Addr) (H2 : Hp), H1 d = none → Same H1 H2 → H2 d = some (.xd (names.zip vs).reverse) → Q (.ref C) (some d) H2) :
    vs.length ≤ 1000 ∧ ∀ a, H1 a = none → spFault C names (.ref a :: (vs ++ [])) (upd H1 a (exo a C none))
      (fun v H2 => v = .non ∧ ∃ (d : Addr) (fs : List (Str × V)), H2 a = some (exo a C (some d)) ∧ H2 d = some (exd d fs) ∧ H1 d = none ∧ Q (.ref C) (some d) (upd (del H2 a) d (.xd fs))) (fun _ _ _ => False) := by
  refine ⟨hz, fun a na => ⟨a, vs ++ [], rfl, by rw [List.append_nil]; exact hl, upd_same, fun d H' nd da e1 e2 e3 => ⟨rfl, d, _, e1, e2, ?_, ?_⟩⟩⟩
  · rw [upd_ne da] at nd
    exact nd
  · rw [upd_ne da] at nd
    rw [List.append_nil]
    refine q d _ nd (fun b o e => ?_) upd_same
    have ba : b ≠ a := ne_of_none e na
    have bd : b ≠ d := ne_of_none e nd
    rw [upd_ne bd, del_ne ba, e3 b ba bd, upd_ne ba]
    exact e
end SwA

end

section
set_option maxRecDepth 100000
set_option maxHeartbeats 4000000
/-! the mirror of the lexer and the parser: plain functions over lists of codes -/
namespace Sw
open PySem
/-- a text by its codes -/
abbrev Cs := List Nat
def sx (l : Cs) : Str := ⟨l.toArray⟩
theorem sx_inj {a b : Cs} (h : sx a = sx b) : a = b := by
  have e : (sx a).cps = (sx b).cps := by rw [h]
  have e2 : a.toArray = b.toArray := e
  simpa using congrArg Array.toList e2
def wCorridor : Cs := [99, 111, 114, 114, 105, 100, 111, 114]
def wSigns : Cs := [115, 105, 103, 110, 115]
def wMoods : Cs := [109, 111, 111, 100, 115]
def wRobot : Cs := [114, 111, 98, 111, 116]
def wPut : Cs := [112, 117, 116]
def wWhen : Cs := [119, 104, 101, 110]
def wLeave : Cs := [108, 101, 97, 118, 101]
def wLeft : Cs := [108, 101, 102, 116]
def wRight : Cs := [114, 105, 103, 104, 116]
def wOn : Cs := [111, 110]
def wBack : Cs := [98, 97, 99, 107]
def wStay : Cs := [115, 116, 97, 121]
def wSemi : Cs := [59]
def kws : List Cs := [wCorridor, wSigns, wMoods, wRobot, wPut, wWhen, wLeave, wLeft, wRight, wOn, wBack, wStay]
def ways : List Cs := [wLeft, wRight]
def moves : List Cs := [wOn, wBack, wStay]
inductive Kd where
  | name | number | keyword | sign | fin
  deriving DecidableEq
def Kd.str : Kd → Str
  | .name => "name"
  | .number => "number"
  | .keyword => "keyword"
  | .sign => "sign"
  | .fin => "end"
structure Tk where
  kind : Kd
  text : Cs
  line : Nat
  col : Nat
  deriving DecidableEq
def isL (c : Nat) : Bool := Nat.ble 97 c && Nat.ble c 122
def isD (c : Nat) : Bool := Nat.ble 48 c && Nat.ble c 57
def isS (c : Nat) : Bool := c == 32 || c == 10
/-- the token at the head of what is left of a row; none: a fault there -/
def readTok (line col : Nat) (rest : Cs) : Option Tk := match rest with
  | [] => none
  | c :: _ =>
    if c = 59 then some ⟨.sign, [59], line, col⟩
    else if isD c = true then
      (if 2 < (rest.takeWhile isD).length ∨ (1 < (rest.takeWhile isD).length ∧ c = 48) then none else some ⟨.number, rest.takeWhile isD, line, col⟩)
    else if rest.takeWhile isL ∈ kws then some ⟨.keyword, rest.takeWhile isL, line, col⟩
    else if 1 ≤ (rest.takeWhile isL).length ∧ (rest.takeWhile isL).length ≤ 8 then some ⟨.name, rest.takeWhile isL, line, col⟩
    else none
/-- a row from a column on: what is left of it, f at least its length -/
def lexRow (line : Nat) : Nat → Nat → Cs → Except (Nat × Nat) (List Tk)
  | _, _, [] => .ok []
  | 0, _, _ :: _ => .ok []
  | f + 1, col, c :: r =>
    if isS c = true then lexRow line f (col + 1) r
    else match readTok line col (c :: r) with
      | none => .error (line, col)
      | some t => match lexRow line f (col + t.text.length) ((c :: r).drop t.text.length) with
        | .error e => .error e
        | .ok ts => .ok (t :: ts)
def lexRows : Nat → List Cs → Except (Nat × Nat) (List Tk)
  | _, [] => .ok []
  | line, row :: rest => match lexRow line row.length 0 row with
    | .error e => .error e
    | .ok ts => match lexRows (line + 1) rest with
      | .error e => .error e
      | .ok us => .ok (ts ++ us)
def rowsOf (text : Cs) : List Cs := TL.spl [10] 0 [] text
def tokenize (text : Cs) : Except (Nat × Nat) (List Tk) := match lexRows 0 (rowsOf text) with
  | .error e => .error e
  | .ok ts => .ok (ts ++ [⟨.fin, [], (rowsOf text).length, 0⟩])
/-! ### the parser -/
structure Rule where
  left : Nat
  move : Cs
  later : Nat
  deriving DecidableEq
structure PSt where
  at_ : Nat
  faults : List (Nat × Nat × Cs)
  signs : List Cs
  moods : List Cs
  robots : List (Nat × Bool)
  rules : List ((Nat × Nat) × Rule)
  pairs : List (Cs × Cs)
  spots : List (Nat × Nat)
  deriving DecidableEq
def putA {κ α : Type} [DecidableEq κ] (l : List (κ × α)) (k : κ) (v : α) : List (κ × α) :=
  if (l.any fun kv => decide (kv.1 = k)) = true then l.map (fun kv => if kv.1 = k then (kv.1, v) else kv) else l ++ [(k, v)]
def getA {κ α : Type} [DecidableEq κ] (l : List (κ × α)) (k : κ) : Option α := (l.find? fun kv => decide (kv.1 = k)).map (·.2)
abbrev PR (α : Type) := Except (Nat × Nat) (α × PSt)
def endTk : Tk := ⟨.fin, [], 0, 0⟩
section
variable (T : List Tk)
def peek (st : PSt) : Tk := T.getD st.at_ endTk
def PSt.next (st : PSt) : PSt := { st with at_ := st.at_ + 1 }
def PSt.found (st : PSt) (reason : Cs) (t : Tk) : PSt := { st with faults := st.faults ++ [(t.line, t.col, reason)] }
def failAt (st : PSt) : Nat × Nat := ((peek T st).line, (peek T st).col)
def take (k : Kd) (st : PSt) : PR Tk := if (peek T st).kind = k then .ok (peek T st, st.next) else .error (failAt T st)
def takeWord (w : Cs) (st : PSt) : PR Tk := if (peek T st).text = w then .ok (peek T st, st.next) else .error (failAt T st)
def takeKw (ws : List Cs) (st : PSt) : PR Tk := if (peek T st).kind = .keyword ∧ (peek T st).text ∈ ws then .ok (peek T st, st.next) else .error (failAt T st)
/-- the names of a kind: false signs, true moods -/
def PSt.names (b : Bool) (st : PSt) : List Cs := if b then st.moods else st.signs
def PSt.push (b : Bool) (w : Cs) (st : PSt) : PSt := if b then { st with moods := st.moods ++ [w] } else { st with signs := st.signs ++ [w] }
def rDuplicate : Cs := [100, 117, 112, 108, 105, 99, 97, 116, 101]
def rUnknown : Cs := [117, 110, 107, 110, 111, 119, 110]
def rTile : Cs := [116, 105, 108, 101]
def rRobots : Cs := [114, 111, 98, 111, 116, 115]
def rAgain : Cs := [97, 103, 97, 105, 110]
def rTwice : Cs := [116, 119, 105, 99, 101]
def wordOf (b : Bool) : Cs := if b then wMoods else wSigns
def mostOf (b : Bool) : Nat := if b then 6 else 4
def addName (b : Bool) (st : PSt) (t : Tk) : PSt :=
  if t.text ∈ st.names b then st.found rDuplicate t
  else if (st.names b).length = mostOf b then st.found (wordOf b) t
  else st.push b t.text
/-- further names, f turns at most -/
def moreNames : Nat → PSt → List Tk → List Tk × PSt
  | 0, st, acc => (acc, st)
  | f + 1, st, acc => if (peek T st).kind = .name then moreNames f st.next (acc ++ [peek T st]) else (acc, st)
def parseNames (b : Bool) (st : PSt) : PR Unit := match takeWord T (wordOf b) st with
  | .error e => .error e
  | .ok (_, s1) => match take T .name s1 with
    | .error e => .error e
    | .ok (t, s2) => match takeWord T wSemi (moreNames T T.length s2 [t]).2 with
      | .error e => .error e
      | .ok (_, s3) => .ok ((), (moreNames T T.length s2 [t]).1.foldl (addName b) s3)
def numberOf (names : List Cs) (t : Tk) (st : PSt) : Nat × PSt := if t.text ∈ names then (names.idxOf t.text, st) else (0, st.found rUnknown t)
def numVal (w : Cs) : Nat := w.foldl (fun a c => a * 10 + (c - 48)) 0
def tileOf (tiles : Nat) (st : PSt) : PR Nat := match take T .number st with
  | .error e => .error e
  | .ok (t, s1) => .ok (numVal t.text, if tiles ≤ numVal t.text then s1.found rTile t else s1)
def parseRobot (tiles : Nat) (st : PSt) : PR Unit := match takeWord T wRobot st with
  | .error e => .error e
  | .ok (kw, s1) => match tileOf T tiles (if s1.robots.length = 3 then s1.found rRobots kw else s1) with
    | .error e => .error e
    | .ok (tile, s2) => match takeKw T ways s2 with
      | .error e => .error e
      | .ok (way, s3) => match takeWord T wSemi s3 with
        | .error e => .error e
        | .ok (_, s4) => .ok ((), { s4 with robots := s4.robots ++ [(tile, decide (way.text = wRight))] })
def parsePut (tiles : Nat) (st : PSt) : PR Unit := match takeWord T wPut st with
  | .error e => .error e
  | .ok (_, s1) => match take T .name s1 with
    | .error e => .error e
    | .ok (nm, s2) => match tileOf T tiles (numberOf s2.signs nm s2).2 with
      | .error e => .error e
      | .ok (tile, s3) => match takeWord T wSemi s3 with
        | .error e => .error e
        | .ok (_, s4) =>
          let s5 := if (s4.spots.any fun kv => decide (kv.1 = tile)) = true then s4.found rAgain (peek T (numberOf s2.signs nm s2).2) else s4
          .ok ((), { s5 with spots := putA s5.spots tile (numberOf s2.signs nm s2).1 })
def parseRule (st : PSt) : PR Unit := match takeWord T wWhen st with
  | .error e => .error e
  | .ok (kw, s1) => match take T .name s1 with
    | .error e => .error e
    | .ok (first, s2) => match take T .name (numberOf s2.moods first s2).2 with
      | .error e => .error e
      | .ok (second, s3) => match takeWord T wLeave (numberOf s3.signs second s3).2 with
        | .error e => .error e
        | .ok (_, s4) => match take T .name s4 with
          | .error e => .error e
          | .ok (lf, s5) => match takeKw T moves (numberOf s5.signs lf s5).2 with
            | .error e => .error e
            | .ok (mv, s6) => match take T .name s6 with
              | .error e => .error e
              | .ok (la, s7) => match takeWord T wSemi (numberOf s7.moods la s7).2 with
                | .error e => .error e
                | .ok (_, s8) =>
                  let s9 := if (first.text, second.text) ∈ s8.pairs then s8.found rTwice kw else s8
                  let s10 : PSt := { s9 with pairs := if (first.text, second.text) ∈ s9.pairs then s9.pairs else s9.pairs ++ [(first.text, second.text)] }
                  .ok ((), { s10 with rules := putA s10.rules ((numberOf s2.moods first s2).1, (numberOf s3.signs second s3).1) ⟨(numberOf s5.signs lf s5).1, mv.text, (numberOf s7.moods la s7).1⟩ })
def parseStmt (tiles : Nat) (st : PSt) : PR Unit :=
  if (peek T st).text = wRobot then parseRobot T tiles st
  else if (peek T st).text = wPut then parsePut T tiles st
  else if (peek T st).text = wWhen then parseRule T st
  else .error (failAt T st)
/-- the statements, f turns at most -/
def parseStmts (tiles : Nat) : Nat → PSt → PR Unit
  | 0, st => .ok ((), st)
  | f + 1, st => if (peek T st).kind = .fin then .ok ((), st) else match parseStmt T tiles st with
    | .error e => .error e
    | .ok (_, s1) => parseStmts tiles f s1
def st0 : PSt := ⟨0, [], [], [], [], [], [], []⟩
/-- the whole: tiles, the state at the end -/
def parsePlan : PR Nat := match takeWord T wCorridor st0 with
  | .error e => .error e
  | .ok (_, s1) => match take T .number s1 with
    | .error e => .error e
    | .ok (t, s2) => match takeWord T wSemi s2 with
      | .error e => .error e
      | .ok (_, s3) => match parseNames T false (if 1 ≤ numVal t.text ∧ numVal t.text ≤ 16 then s3 else s3.found wCorridor t) with
        | .error e => .error e
        | .ok (_, s4) => match parseNames T true s4 with
          | .error e => .error e
          | .ok (_, s5) => match parseRobot T (numVal t.text) s5 with
            | .error e => .error e
            | .ok (_, s6) => match parseStmts T (numVal t.text) T.length s6 with
              | .error e => .error e
              | .ok (_, s7) => .ok (numVal t.text, s7)
end
structure Plan where
  signs : List Cs
  moods : List Cs
  floor : List Nat
  robots : List (Nat × Bool)
  rules : List ((Nat × Nat) × Rule)
  deriving DecidableEq
def planOf (tiles : Nat) (st : PSt) : Plan := ⟨st.signs, st.moods, (List.range tiles).map fun i => (getA st.spots i).getD 0, st.robots, st.rules⟩
/-- what load does: a SyntaxFault at a place; else the tiles and the parser's last state -/
def loads (text : Cs) : Except (Nat × Nat) (Nat × PSt) := match tokenize text with
  | .error e => .error e
  | .ok T => parsePlan T
def txt (s : String) : Cs := s.toList.map Char.toNat
def k18 : Cs := txt "corridor 2; signs no; moods go; robot 0 right; when go no leave no on go;"
example : (match loads k18 with | .ok (n, st) => decide (planOf n st = ⟨[txt "no"], [txt "go"], [0, 0], [(0, true)], [((0, 0), ⟨0, wOn, 0⟩)]⟩) && st.faults.isEmpty | .error _ => false) = true := by decide +kernel
example : (match loads (txt "corridor") with | .ok _ => false | .error e => decide (e = (1, 0))) = true := by decide +kernel
end Sw

end

section
set_option maxRecDepth 100000
set_option maxHeartbeats 4000000
/-! what the head asks of the program's objects, ahead of the walks -/
namespace Sw
open PySem PySem.Spec PyProof.Rows L2 SwA
def excCB (K : PySem.W.Frag) (x : Str) (fields : List Str) : Bool :=
  (He.Fa.glo x).ok K && (oexB K (He.ga K x) && (He.eqO (PySem.W.findIn K (.ref (He.ga K x)) "__init__") (some (some (.ref (He.ma K (He.ga K x) "__init__")))) &&
    (decide (PySem.W.typeIn K (.ref (He.ma K (He.ga K x) "__init__")) = some (.type "function")) && fields.all fun f => He.eqO (PySem.W.findIn K (.ref (He.ga K x)) f) (some none))))
def mkCB (K : PySem.W.Frag) (x : Str) (fields : List Str) : Bool := (He.Fa.glo x).ok K && ((He.Fa.mkr x).ok K && ((He.Fa.cls x).ok K && fields.all fun f => (He.Fa.noat x f).ok K))
abbrev tokF : List Str := ["kind", "text", "line", "column"]
abbrev parN : List Str := ["tokens", "at", "faults", "signs", "moods", "robots", "rules", "pairs", "spots"]
abbrev planF : List Str := ["signs", "moods", "floor", "robots", "rules"]
def lenKV (e : DictEntry) : Option (Str × Int) := match e.key, e.val with
  | .str x _, .int i _ => some (x, i)
  | _, _ => none
def lensL : List (Option (Str × Int)) := [some ("step", 2), some ("put", 3), some ("turn", 2), some ("undo", 1), some ("redo", 1)]
def lenB (K : PySem.W.Frag) (a : Addr) : Bool := match K.lookup a with
  | some ⟨_, _, .dict es _, _⟩ => decide (es.toList.map lenKV = lensL)
  | _ => false
def clsN : List Str := ["InvalidTick", "InvalidNumber", "UnknownSign", "TooLong", "OtherCorridor", "Contradiction", "InvalidName", "UnknownName", "SyntaxFault", "CheckFault", "InvalidCode", "InvalidOperation"]
def xcB (K : PySem.W.Frag) (D : Addr) : Bool := He.eqO (PySem.W.findIn K (.ref D) "__getattribute__") (some (some (.builtin "BaseException.__getattribute__"))) && (He.eqO (PySem.W.findIn K (.ref D) "__getattr__") (some none) && (decide (PySem.W.subIn K (.ref D) (.type "BaseException") = some true) && (PySem.W.hasDictIn K D &&
  (He.eqO (PySem.W.findIn K (.ref D) "__class__") (some (some (.builtin "object.__class__"))) && (He.eqO (PySem.W.specialIn K (.builtin "object.__class__") "__get__") (some (some (.builtin "getset_descriptor.__get__"))) && (decide (PySem.W.takesIn K (.builtin "object.__class__") = some true) && decide (PySem.W.mroIn K D (.type "object") = some true)))))))
def ekB (K : PySem.W.Frag) (D : Str) (j : Nat) : Bool := xcB K (He.ga K D) && (decide (PySem.W.exmOne K (.ref (He.ga K D)) (.ref (He.ga K "SweepError")) = some true) && (decide (PySem.W.kitOne K (.ref (He.ga K D)) (.type "ValueError") = some true) && clsN.zipIdx.all fun q => decide (PySem.W.kitOne K (.ref (He.ga K D)) (.ref (He.ga K q.1)) = some (decide (q.2 = j)))))
end Sw

end

section
set_option maxRecDepth 100000
set_option maxHeartbeats 4000000
/-! what the head asks: instances of an own class, asked by isinstance -/
namespace Sw
open PySem PySem.Spec PyProof.Rows L2 SwA
def isiB (K : PySem.W.Frag) (C : Addr) : Bool := He.eqO (PySem.W.findIn K (.ref C) "__class__") (some (some (.builtin "object.__class__"))) && (He.eqO (PySem.W.specialIn K (.builtin "object.__class__") "__get__") (some (some (.builtin "getset_descriptor.__get__"))) &&
  (decide (PySem.W.takesIn K (.builtin "object.__class__") = some true) && (decide (PySem.W.mroIn K C (.type "object") = some true) && decide (PySem.W.kitOne K (.ref C) (.ref C) = some true))))
structure IsiC (K : PySem.W.Frag) (C : Addr) : Prop where
  ha : PySem.W.findIn K (.ref C) "__class__" = some (some (.builtin "object.__class__"))
  hn : PySem.W.specialIn K (.builtin "object.__class__") "__get__" = some (some (.builtin "getset_descriptor.__get__"))
  ht : PySem.W.takesIn K (.builtin "object.__class__") = some true
  hm : PySem.W.mroIn K C (.type "object") = some true
  kit : PySem.W.kitOne K (.ref C) (.ref C) = some true
theorem isiB_ok {K : PySem.W.Frag} {C : Addr} (h : isiB K C = true) : IsiC K C := by
  obtain ⟨h1, h⟩ := He.ba h
  obtain ⟨h2, h⟩ := He.ba h
  obtain ⟨h3, h⟩ := He.ba h
  obtain ⟨h4, h5⟩ := He.ba h
  exact ⟨He.eqO_ok h1, He.eqO_ok h2, of_decide_eq_true h3, of_decide_eq_true h4, of_decide_eq_true h5⟩
end Sw

end

section
set_option maxRecDepth 100000
set_option maxHeartbeats 0
/-! the head: the run and what is asked of it -/
namespace Sw
open PySem PySem.Spec PyProof.Rows L2 SwA
def dd0 : He.DefD := ⟨("SyntaxFault", some "__init__"), "__init__", "SyntaxFault.__init__", defArgs s_SyntaxFault_init, defBody s_SyntaxFault_init, defScope s_SyntaxFault_init, [], []⟩
def dd1 : He.DefD := ⟨("CheckFault", some "__init__"), "__init__", "CheckFault.__init__", defArgs s_CheckFault_init, defBody s_CheckFault_init, defScope s_CheckFault_init, [], []⟩
def dd2 : He.DefD := ⟨("InvalidCode", some "__init__"), "__init__", "InvalidCode.__init__", defArgs s_InvalidCode_init, defBody s_InvalidCode_init, defScope s_InvalidCode_init, [], []⟩
def dd3 : He.DefD := ⟨("Token", some "__init__"), "__init__", "Token.__init__", defArgs s_Token_init, defBody s_Token_init, defScope s_Token_init, [], []⟩
def dd4 : He.DefD := ⟨("run_end", none), "run_end", "run_end", defArgs s_run_end, defBody s_run_end, defScope s_run_end, [], []⟩
def dd5 : He.DefD := ⟨("read_token", none), "read_token", "read_token", defArgs s_read_token, defBody s_read_token, defScope s_read_token, [], []⟩
def dd6 : He.DefD := ⟨("tokenize", none), "tokenize", "tokenize", defArgs s_tokenize, defBody s_tokenize, defScope s_tokenize, [], []⟩
def dd7 : He.DefD := ⟨("Plan", some "__init__"), "__init__", "Plan.__init__", defArgs s_Plan_init, defBody s_Plan_init, defScope s_Plan_init, [], []⟩
def dd8 : He.DefD := ⟨("Plan", some "with_floor"), "with_floor", "Plan.with_floor", defArgs s_Plan_with_floor, defBody s_Plan_with_floor, defScope s_Plan_with_floor, [], []⟩
def dd9 : He.DefD := ⟨("Plan", some "with_robots"), "with_robots", "Plan.with_robots", defArgs s_Plan_with_robots, defBody s_Plan_with_robots, defScope s_Plan_with_robots, [], []⟩
def dd10 : He.DefD := ⟨("Parser", some "__init__"), "__init__", "Parser.__init__", defArgs s_Parser_init, defBody s_Parser_init, defScope s_Parser_init, [], []⟩
def dd11 : He.DefD := ⟨("Parser", some "peek"), "peek", "Parser.peek", defArgs s_Parser_peek, defBody s_Parser_peek, defScope s_Parser_peek, [], []⟩
def dd12 : He.DefD := ⟨("Parser", some "fail"), "fail", "Parser.fail", defArgs s_Parser_fail, defBody s_Parser_fail, defScope s_Parser_fail, [], []⟩
def dd13 : He.DefD := ⟨("Parser", some "found"), "found", "Parser.found", defArgs s_Parser_found, defBody s_Parser_found, defScope s_Parser_found, [], []⟩
def dd14 : He.DefD := ⟨("Parser", some "take"), "take", "Parser.take", defArgs s_Parser_take, defBody s_Parser_take, defScope s_Parser_take, [], []⟩
def dd15 : He.DefD := ⟨("Parser", some "take_word"), "take_word", "Parser.take_word", defArgs s_Parser_take_word, defBody s_Parser_take_word, defScope s_Parser_take_word, [], []⟩
def dd16 : He.DefD := ⟨("Parser", some "take_keyword"), "take_keyword", "Parser.take_keyword", defArgs s_Parser_take_keyword, defBody s_Parser_take_keyword, defScope s_Parser_take_keyword, [], []⟩
def dd17 : He.DefD := ⟨("Parser", some "parse_names"), "parse_names", "Parser.parse_names", defArgs s_Parser_parse_names, defBody s_Parser_parse_names, defScope s_Parser_parse_names, [], []⟩
def dd18 : He.DefD := ⟨("Parser", some "number_of"), "number_of", "Parser.number_of", defArgs s_Parser_number_of, defBody s_Parser_number_of, defScope s_Parser_number_of, [], []⟩
def dd19 : He.DefD := ⟨("Parser", some "tile_of"), "tile_of", "Parser.tile_of", defArgs s_Parser_tile_of, defBody s_Parser_tile_of, defScope s_Parser_tile_of, [], []⟩
def dd20 : He.DefD := ⟨("Parser", some "parse_robot"), "parse_robot", "Parser.parse_robot", defArgs s_Parser_parse_robot, defBody s_Parser_parse_robot, defScope s_Parser_parse_robot, [], []⟩
def dd21 : He.DefD := ⟨("Parser", some "parse_put"), "parse_put", "Parser.parse_put", defArgs s_Parser_parse_put, defBody s_Parser_parse_put, defScope s_Parser_parse_put, [], []⟩
def dd22 : He.DefD := ⟨("Parser", some "parse_rule"), "parse_rule", "Parser.parse_rule", defArgs s_Parser_parse_rule, defBody s_Parser_parse_rule, defScope s_Parser_parse_rule, [], []⟩
def dd23 : He.DefD := ⟨("Parser", some "parse_plan"), "parse_plan", "Parser.parse_plan", defArgs s_Parser_parse_plan, defBody s_Parser_parse_plan, defScope s_Parser_parse_plan, [], []⟩
def dd24 : He.DefD := ⟨("load", none), "load", "load", defArgs s_load, defBody s_load, defScope s_load, [], []⟩
def dd25 : He.DefD := ⟨("format_parsed", none), "format_parsed", "format_parsed", defArgs s_format_parsed, defBody s_format_parsed, defScope s_format_parsed, [], []⟩
def dd26 : He.DefD := ⟨("format_plan", none), "format_plan", "format_plan", defArgs s_format_plan, defBody s_format_plan, defScope s_format_plan, [], []⟩
def dd27 : He.DefD := ⟨("signs_of", none), "signs_of", "signs_of", defArgs s_signs_of, defBody s_signs_of, defScope s_signs_of, [], []⟩
def dd28 : He.DefD := ⟨("is_int_in", none), "is_int_in", "is_int_in", defArgs s_is_int_in, defBody s_is_int_in, defScope s_is_int_in, [], []⟩
def dd29 : He.DefD := ⟨("check_tick", none), "check_tick", "check_tick", defArgs s_check_tick, defBody s_check_tick, defScope s_check_tick, [], []⟩
def dd30 : He.DefD := ⟨("replaced", none), "replaced", "replaced", defArgs s_replaced, defBody s_replaced, defScope s_replaced, [], []⟩
def dd31 : He.DefD := ⟨("State", some "__init__"), "__init__", "State.__init__", defArgs s_State_init, defBody s_State_init, defScope s_State_init, [], []⟩
def dd32 : He.DefD := ⟨("first_state", none), "first_state", "first_state", defArgs s_first_state, defBody s_first_state, defScope s_first_state, [], []⟩
def dd33 : He.DefD := ⟨("moved", none), "moved", "moved", defArgs s_moved, defBody s_moved, defScope s_moved, [], []⟩
def dd34 : He.DefD := ⟨("act", none), "act", "act", defArgs s_act, defBody s_act, defScope s_act, [], []⟩
def dd35 : He.DefD := ⟨("Tick", some "__init__"), "__init__", "Tick.__init__", defArgs s_Tick_init, defBody s_Tick_init, defScope s_Tick_init, [], []⟩
def dd36 : He.DefD := ⟨("next_tick", none), "next_tick", "next_tick", defArgs s_next_tick, defBody s_next_tick, defScope s_next_tick, [], []⟩
def dd37 : He.DefD := ⟨("Story", some "__init__"), "__init__", "Story.__init__", defArgs s_Story_init, defBody s_Story_init, defScope s_Story_init, [], []⟩
def dd38 : He.DefD := ⟨("Story", some "happens"), "happens", "Story.happens", defArgs s_Story_happens, defBody s_Story_happens, defScope s_Story_happens, [], []⟩
def dd39 : He.DefD := ⟨("Story", some "count"), "count", "Story.count", defArgs s_Story_count, defBody s_Story_count, defScope s_Story_count, [], []⟩
def dd40 : He.DefD := ⟨("robots_in", none), "robots_in", "robots_in", defArgs s_robots_in, defBody s_robots_in, defScope s_robots_in, [], []⟩
def dd41 : He.DefD := ⟨("first_difference", none), "first_difference", "first_difference", defArgs s_first_difference, defBody s_first_difference, defScope s_first_difference, [], []⟩
def dd42 : He.DefD := ⟨("names_code", none), "names_code", "names_code", defArgs s_names_code, defBody s_names_code, defScope s_names_code, [], []⟩
def dd43 : He.DefD := ⟨("encode", none), "encode", "encode", defArgs s_encode, defBody s_encode, defScope s_encode, [], []⟩
def dd44 : He.DefD := ⟨("Reader", some "__init__"), "__init__", "Reader.__init__", defArgs s_Reader_init, defBody s_Reader_init, defScope s_Reader_init, [], []⟩
def dd45 : He.DefD := ⟨("Reader", some "read_byte"), "read_byte", "Reader.read_byte", defArgs s_Reader_read_byte, defBody s_Reader_read_byte, defScope s_Reader_read_byte, [], []⟩
def dd46 : He.DefD := ⟨("Reader", some "read_names"), "read_names", "Reader.read_names", defArgs s_Reader_read_names, defBody s_Reader_read_names, defScope s_Reader_read_names, [], []⟩
def dd47 : He.DefD := ⟨("Reader", some "read_rules"), "read_rules", "Reader.read_rules", defArgs s_Reader_read_rules, defBody s_Reader_read_rules, defScope s_Reader_read_rules, [], []⟩
def dd48 : He.DefD := ⟨("decode", none), "decode", "decode", defArgs s_decode, defBody s_decode, defScope s_decode, [], []⟩
def dd49 : He.DefD := ⟨("_law_random", none), "_law_random", "_law_random", defArgs s__law_random, defBody s__law_random, defScope s__law_random, [], []⟩
def dd50 : He.DefD := ⟨("_law_below", none), "_law_below", "_law_below", defArgs s__law_below, defBody s__law_below, defScope s__law_below, [], []⟩
def dd51 : He.DefD := ⟨("_law_shuffled", none), "_law_shuffled", "_law_shuffled", defArgs s__law_shuffled, defBody s__law_shuffled, defScope s__law_shuffled, [], []⟩
def dd52 : He.DefD := ⟨("_law_plan", none), "_law_plan", "_law_plan", defArgs s__law_plan, defBody s__law_plan, defScope s__law_plan, [], []⟩
def dd53 : He.DefD := ⟨("_law_lines", none), "_law_lines", "_law_lines", defArgs s__law_lines, defBody s__law_lines, defScope s__law_lines, [], []⟩
def dd54 : He.DefD := ⟨("_law_text", none), "_law_text", "_law_text", defArgs s__law_text, defBody s__law_text, defScope s__law_text, [], []⟩
def dd55 : He.DefD := ⟨("_law_placed", none), "_law_placed", "_law_placed", defArgs s__law_placed, defBody s__law_placed, defScope s__law_placed, [], []⟩
def dd56 : He.DefD := ⟨("_law_short", none), "_law_short", "_law_short", defArgs s__law_short, defBody s__law_short, defScope s__law_short, [], []⟩
def dd57 : He.DefD := ⟨("law", none), "law", "law", defArgs s_law, defBody s_law, defScope s_law, [], []⟩
def wd0 : He5.DefA := ⟨fun K => He5.wf K (He.ga K "State") "property" "key", "key", "State.key", defArgs s_State_key, defBody s_State_key, defScope s_State_key, [], []⟩
def wd1 : He5.DefA := ⟨fun K => He5.wf K (He.ga K "Story") "property" "size", "size", "Story.size", defArgs s_Story_size, defBody s_Story_size, defScope s_Story_size, [], []⟩
def waL : List He5.DefA := [wd0, wd1]
def fn0 : List He.DefD := [dd0, dd1, dd2, dd3, dd4, dd5, dd6, dd7, dd8, dd9, dd10, dd11, dd12, dd13, dd14, dd15, dd16, dd17, dd18, dd19, dd20, dd21, dd22, dd23, dd24, dd25, dd26, dd27, dd28, dd29]
def fn1 : List He.DefD := [dd30, dd31, dd32, dd33, dd34, dd35, dd36, dd37, dd38, dd39, dd40, dd41, dd42, dd43, dd44, dd45, dd46, dd47, dd48, dd49, dd50, dd51, dd52, dd53, dd54, dd55, dd56, dd57]
def fnL : List He.DefD := fn0 ++ fn1
def fa0 : List He.Fa := [.free "len", .free "abs", .free "list", .free "tuple", .free "range", .glo "_law_random", .glo "_law_below", .glo "_law_shuffled", .glo "_law_plan", .free "str", .free "sorted", .glo "_law_lines", .glo "_law_text", .glo "_law_placed", .glo "SweepError", .free "enumerate", .glo "run_end", .glo "read_token", .glo "tokenize", .str "SIGNS" ";", .str "DIGITS" "0123456789", .str "LETTERS" "abcdefghijklmnopqrstuvwxyz", .str "SPACES" " \n", .str "SIGN" "sign", .str "NUMBER" "number", .str "KEYWORD" "keyword", .str "NAME" "name", .str "END" "end", .int "MAX_DIGITS" 2, .int "MAX_LETTERS" 8]
def fa1 : List He.Fa := [.glo "KEYWORDS", .free "int", .meth "Parser" "peek", .meth "Parser" "fail", .meth "Parser" "found", .meth "Parser" "take", .meth "Parser" "take_word", .meth "Parser" "take_keyword", .meth "Parser" "parse_names", .meth "Parser" "number_of", .meth "Parser" "tile_of", .meth "Parser" "parse_robot", .meth "Parser" "parse_put", .meth "Parser" "parse_rule", .meth "Parser" "parse_plan", .int "MAX_TILES" 16, .int "MAX_SIGNS" 4, .int "MAX_MOODS" 6, .int "MAX_ROBOTS" 3, .glo "WAYS", .glo "MOVES", .glo "load", .glo "format_parsed", .glo "format_plan", .free "sum", .glo "names_code", .glo "encode", .int "TAG" 82, .int "BYTE" 256, .free "isinstance"]
def fa2 : List He.Fa := [.free "bool", .glo "is_int_in", .meth "Reader" "read_byte", .meth "Reader" "read_names", .meth "Reader" "read_rules", .glo "decode", .glo "signs_of", .free "min", .glo "_law_short", .str "REST" "rest", .glo "replaced", .glo "first_state", .glo "moved", .glo "act", .glo "next_tick", .int "MAX_STATES" 20000, .meth "Story" "happens", .free "max", .glo "first_difference", .int "MAX_TICK" 1000000000000000000, .glo "check_tick", .glo "robots_in", .glo "law"]
def faL : List He.Fa := fa0 ++ fa1 ++ fa2
def fclsB (K : PySem.W.Frag) : Bool := match PySem.W.findCls K (.ref (He.ga K "SweepError")) (.type "type") "__init__" with
  | some (.val (.builtin n)) => n == "ValueError.__init__"
  | _ => false
def mvB (K : PySem.W.Frag) : Bool := match K.lookup (He.ga K "MOVES") with
  | some ⟨.type "tuple", none, _, _⟩ => true
  | _ => false
def recB (K : PySem.W.Frag) (p : Addr) : Bool := match PySem.W.recIn K p "property" with
  | some (.ref _ :: _) => true
  | _ => false
def propB (K : PySem.W.Frag) (C f : Str) : Bool := He.eqO (PySem.W.findIn K (.ref (He.ga K C)) f) (some (some (.ref (He.ma K (He.ga K C) f)))) && (He.eqO (PySem.W.specialIn K (.ref (He.ma K (He.ga K C) f)) "__get__") (some (some (.builtin "property.__get__"))) &&
  (decide (PySem.W.takesIn K (.ref (He.ma K (He.ga K C) f)) = some true) && recB K (He.ma K (He.ga K C) f)))
def exB (K : PySem.W.Frag) : Bool := PySem.W.readsIn K (He.ga K "SweepError") (.type "type") && (He.eqO (PySem.W.specialIn K (.ref (He.ga K "SweepError")) "__getattribute__") (some (some (.builtin "type.__getattribute__"))) && (fclsB K && (excCB K "SyntaxFault" ["line", "column"] && (mkCB K "Token" tokF && (He.tupB K "KEYWORDS" (kws.map fun w => He.Dv.str (sx w)) && (mkCB K "Parser" parN && (decide (He.ga K "Parser" ≠ He.ga K "Token") && (He.tupB K "WAYS" (ways.map fun w => He.Dv.str (sx w)) && (He.tupB K "MOVES" (moves.map fun w => He.Dv.str (sx w)) && (mkCB K "Plan" planF && (mvB K && (mkCB K "Reader" ["code", "place"] && (mkCB K "State" ["floor", "robots"] && (mkCB K "Tick" ["swept", "words", "state"] && (decide (He.ga K "State" ≠ He.ga K "Story") && (decide (He.ga K "Plan" ≠ He.ga K "Story") && (decide (He.ga K "Tick" ≠ He.ga K "Story") && (propB K "State" "key" && (mkCB K "Story" ["ticks", "start"] && (propB K "Story" "size"))))))))))))))))))))
abbrev R : PySem.W.OpenRow := PySem.W.OpenLaw.row PySem.Challenge.rw_sweeprota_k36_whole_texts_of_one_plan
def tsL : List He.Tab := []
def codeW (g : Addr → Option Obj) (a : Addr) : List Addr := match g a with
  | some ⟨_, _, .func fd, _⟩ => He.refV fd.code
  | _ => []
def asZ (g : Addr → Option Obj) (as : List Addr) : List Addr := as ++ (cStatics :: waL.flatMap fun d => codeW g (d.at_ (He.frG g as)))
def rfQ (o : Obj) : List Addr := (match o.dict with
  | some d => [d]
  | none => []) ++ match o.data with
  | .seq its _ => its.toList.flatMap He.refV
  | .dict es _ => es.toList.flatMap fun e => He.refV e.val
  | .func fd => He.refV fd.code ++ He.refV fd.defaults
  | .cls cd => [cd.ns]
  | .fields vs => vs.toList.flatMap He.refV
  | _ => []
def grQ (g : Addr → Option Obj) (as : List Addr) : List Addr := as.flatMap fun a => match g a with
  | some o => rfQ o
  | none => []
def asQ (g : Addr → Option Obj) : List Addr := mainGlobals :: (grQ g [mainGlobals] ++ (grQ g (grQ g [mainGlobals]) ++ (grQ g (grQ g (grQ g [mainGlobals])) ++ grQ g (grQ g (grQ g (grQ g [mainGlobals]))))))
def asY (g : Addr → Option Obj) : List Addr := asZ g (asQ g)
abbrev AlY : Type := He.AlT × He.AlD × Bool
def obsY (g : Addr → Option Obj) : AlY := (He.obsT faL fnL tsL (He.frG g (asY g)), He5.obsA [] waL (He.frG g (asY g)), exB (He.frG g (asY g)))
structure SaysY (w : World) (K : PySem.W.Frag) : Prop where
  t : He.SaysT faL fnL tsL w K
  a : He5.SaysA [] waL K
  more : exB K = true
def hk : PySem.W.Hook where
  α := AlY
  obs := fun s => obsY s.heap.get?
  val := fun w => (He.valT fnL tsL w, He5.valA waL, true)
  says := fun w h => ∃ K : PySem.W.Frag, K.In h ∧ SaysY w K
  of := fun _ _ e => ⟨_, He.frG_in, congrArg (fun z : AlY => z.1) e, congrArg (fun z : AlY => z.2.1) e, congrArg (fun z : AlY => z.2.2) e⟩
  keeps := fun _ _ _ ⟨K, hK, c⟩ k => ⟨K, PySem.W.Frag.In.keeps hK k, c⟩
def ob (s : PySem.W.SharedT) : AlY := obsY (HandSHeadRun.getT s)
theorem ob_eq (s : PySem.W.SharedT) : ob s = hk.obs s.abs := by
  have e : HandSHeadRun.getT s = s.abs.heap.get? := funext (HandSHeadRun.getT_eq s)
  unfold ob
  rw [e] <;> rfl
def nm0 : List PySem.Str := ["_wall", "SweepError", "SyntaxFault", "CheckFault", "InvalidTick", "TooLong", "OtherCorridor", "InvalidCode", "WAYS", "MOVES", "KEYWORDS", "LETTERS", "DIGITS", "SPACES", "SIGNS", "MAX_LETTERS", "MAX_DIGITS", "NAME", "NUMBER", "KEYWORD", "SIGN", "END", "Token", "run_end", "read_token", "tokenize", "MAX_TILES", "MAX_SIGNS", "MAX_MOODS", "MAX_ROBOTS"]
def nm1 : List PySem.Str := ["Plan", "Parser", "load", "format_parsed", "format_plan", "signs_of", "MAX_TICK", "MAX_STATES", "REST", "is_int_in", "check_tick", "replaced", "State", "first_state", "moved", "act", "Tick", "next_tick", "Story", "robots_in", "first_difference", "TAG", "BYTE", "names_code", "encode", "Reader", "decode", "_law_random", "_law_below", "_law_shuffled"]
def nm2 : List PySem.Str := ["_law_plan", "_law_lines", "_law_text", "_law_placed", "_law_short"]
def names : List PySem.Str := nm0 ++ nm1 ++ nm2
theorem run (w : World) : HandSHeadRun.RunEq R (PySem.W.view R.prog [73]) hk ob 60000 names w := by
  intro os
  kernel_rfl
end Sw

end

section
set_option maxRecDepth 100000
set_option maxHeartbeats 4000000
/-! dicts whose keys are tuples of tuples -/
namespace SwA
open PySem PySem.Spec PyProof.Rows L2
mutual
/-- the value v is the key k, by tracked tuples -/
inductive Nk (H : Hp) : NestedKey → V → Prop
  | bl (b : Bool) : Nk H (.num (if b = true then 1 else 0)) (.bl b)
  | int (i : Int) : Nk H (.num i) (.int i)
  | str (x : Str) : Nk H (.text x) (.str x)
  | tup {a : Addr} {vs : List V} {ks : List NestedKey} : H a = some (.tup vs) → NkAll H ks vs → Nk H (.tup ks) (.ref a)
inductive NkAll (H : Hp) : List NestedKey → List V → Prop
  | nil : NkAll H [] []
  | cons {k : NestedKey} {v : V} {ks : List NestedKey} {vs : List V} : Nk H k v → NkAll H ks vs → NkAll H (k :: ks) (v :: vs)
end
mutual
theorem Nk.keep {H H' : Hp} (s : ∀ a xs, H a = some (.tup xs) → H' a = some (.tup xs)) : ∀ {k : NestedKey} {v : V}, Nk H k v → Nk H' k v
  | _, _, .bl b => .bl b
  | _, _, .int i => .int i
  | _, _, .str x => .str x
  | _, _, .tup h t => .tup (s _ _ h) (NkAll.keep s t)
theorem NkAll.keep {H H' : Hp} (s : ∀ a xs, H a = some (.tup xs) → H' a = some (.tup xs)) : ∀ {ks : List NestedKey} {vs : List V}, NkAll H ks vs → NkAll H' ks vs
  | _, _, .nil => .nil
  | _, _, .cons h t => .cons (Nk.keep s h) (NkAll.keep s t)
end
section
variable {P : Program} {w : World} {H : Hp} {h : Heap}
mutual
theorem Nk.is (ok : HOk P w H h) : ∀ {k : NestedKey} {v : V} {u : Value}, Nk H k v → RelV v u → NestedIs h k u
  | _, _, u, .bl b, r => by
    obtain rfl : u = Value.bool b := r
    exact .bool rfl
  | _, _, u, .int i, r => by
    obtain ⟨t, rfl⟩ := (show ∃ t, u = Value.int i t from r)
    exact .int i t
  | _, _, u, .str x, r => by
    obtain ⟨t, rfl⟩ := (show ∃ t, u = Value.str x t from r)
    exact .text x t
  | _, _, u, .tup (a := a) (vs := vs) e t, r => by
    obtain rfl : u = Value.ref a := r
    obtain ⟨_, its, rl, o, h1, h2, n, h3⟩ := (show ObjOk P w H h a (.tup vs) from ok a _ e)
    exact .tup h1 h2 h3 (by simpa using NkAll.is ok t rl)
theorem NkAll.is (ok : HOk P w H h) : ∀ {ks : List NestedKey} {vs : List V} {us : List Value}, NkAll H ks vs → Vals vs us → NestedAll h ks us
  | _, _, _, .nil, r => by cases r; exact .nil
  | _, _, _, .cons hk t, r => by
    cases r with
    | cons r1 r2 => exact .cons (Nk.is ok hk r1) (NkAll.is ok t r2)
end
end
/-- a key's tuple -/
def KeyN (H : Hp) (k : NestedKey) (b : Addr) : Prop := Nk H k (.ref b) ∧ k.depth ≤ 8
theorem KeyN.keep {H H' : Hp} (s : ∀ a xs, H a = some (.tup xs) → H' a = some (.tup xs)) {k : NestedKey} {b : Addr} (h : KeyN H k b) : KeyN H' k b := ⟨h.1.keep s, h.2⟩
theorem KeyN.is {P : Program} {w : World} {H : Hp} {h : Heap} (ok : HOk P w H h) {k : NestedKey} {b : Addr} (x : KeyN H k b) : (nestedKind P w).is h k b := ⟨x.1.is ok rfl, x.2⟩
abbrev KvN := NestedKey × Addr × V
abbrev RelN : List KvN → List (NestedKey × Addr × Value) → Prop := Paired fun p q => p.1 = q.1 ∧ p.2.1 = q.2.1 ∧ RelV p.2.2 q.2.2
/-- the dict's own object -/
def DNo (P : Program) (w : World) (a : Addr) (kvs : List KvN) : HO := .ext fun h => kvs.length ≤ sizeLine ∧ (a == sysModules) = false ∧ ∃ xs, RelN kvs xs ∧
  ∃ o es ep, h.get? a = some o ∧ o.ExactDict ∧ o.data = .dict es ep ∧ es.toList = xs.map (entryOfKey (nestedKind P w)) ∧ (xs.map (·.1)).Nodup
theorem dno_ok {P : Program} {w : World} {H : Hp} {h : Heap} {a : Addr} {kvs : List KvN} (z : kvs.length ≤ sizeLine) (y : (a == sysModules) = false) {xs : List (NestedKey × Addr × Value)} (r : RelN kvs xs) {o : Obj} {es : Array DictEntry} {ep : Nat}
    (h1 : h.get? a = some o) (h2 : o.ExactDict) (h3 : o.data = .dict es ep) (h4 : es.toList = xs.map (entryOfKey (nestedKind P w))) (h5 : (xs.map (·.1)).Nodup) : ObjOk P w H h a (DNo P w a kvs) :=
  ⟨⟨z, y, xs, r, o, es, ep, h1, h2, h3, h4, h5⟩, ⟨o, h1⟩, fun g1 g2 ⟨z, y, xs, r, o, es, ep, h1, h2, h3, h4, h5⟩ k => ⟨z, y, xs, r, o, es, ep, k o h1, h2, h3, h4, h5⟩⟩
/-- a dict with nested keys -/
def DictN (P : Program) (w : World) (H : Hp) (a : Addr) (kvs : List KvN) : Prop := H a = some (DNo P w a kvs) ∧ ∀ x ∈ kvs, KeyN H x.1 x.2.1
theorem DictN.keep {P : Program} {w : World} {H H' : Hp} {a : Addr} {kvs : List KvN} (h : DictN P w H a kvs) (s : ∀ b xs, H b = some (.tup xs) → H' b = some (.tup xs)) (e : H' a = H a) : DictN P w H' a kvs := ⟨e.trans h.1, fun x hx => (h.2 x hx).keep s⟩
theorem DictN.same {P : Program} {w : World} {H H' : Hp} {a : Addr} {kvs : List KvN} (h : DictN P w H a kvs) (s : Same H H') : DictN P w H' a kvs := ⟨s _ _ h.1, fun x hx => (h.2 x hx).keep fun _ _ z => s _ _ z⟩
theorem paired_append {α β : Type} {F : α → β → Prop} : ∀ {a : List α} {b : List β} {c : List α} {d : List β}, Paired F a b → Paired F c d → Paired F (a ++ c) (b ++ d)
  | _, _, _, _, .nil, h => h
  | _, _, _, _, .cons x t, h => .cons x (paired_append t h)
def valN (kvs : List KvN) (k : NestedKey) : Option V := (kvs.find? fun x => decide (x.1 = k)).map (·.2.2)
theorem RelN.val {kvs : List KvN} {xs : List (NestedKey × Addr × Value)} (r : RelN kvs xs) (k : NestedKey) : RelO (valN kvs k) ((atKey xs k).map (·.2)) := by
  induction r with
  | nil => exact True.intro
  | @cons p q ps qs h t ih =>
    by_cases e : p.1 = k
    · have e2 : q.1 = k := by rw [← h.1]; exact e
      have a1 : valN (p :: ps) k = some p.2.2 := by simp [valN, e]
      have a2 : (atKey (q :: qs) k).map (·.2) = some q.2.2 := by simp [atKey, e2]
      rw [a1, a2]
      exact h.2.2
    · have e2 : ¬ q.1 = k := by rw [← h.1]; exact e
      have a1 : valN (p :: ps) k = valN ps k := by simp [valN, e]
      have a2 : atKey (q :: qs) k = atKey qs k := by simp [atKey, e2]
      rw [a1, a2]
      exact ih
theorem RelN.keys {P : Program} {w : World} {H : Hp} {h : Heap} (ok : HOk P w H h) {kvs : List KvN} {xs : List (NestedKey × Addr × Value)} (r : RelN kvs xs) : (∀ x ∈ kvs, KeyN H x.1 x.2.1) → ∀ x ∈ xs, (nestedKind P w).is h x.1 x.2.1 := by
  induction r with
  | nil => intro _ x hx; exact nomatch hx
  | @cons p q ps qs hq t ih =>
    intro hk x hx
    rcases List.mem_cons.mp hx with e | hx
    · subst e
      have := (hk p List.mem_cons_self).is ok
      rw [hq.1, hq.2.1] at this
      exact this
    · exact ih (fun y hy => hk y (List.mem_cons_of_mem _ hy)) x hx
theorem DictN.rd {P : Program} {w : World} {H : Hp} {h : Heap} {a : Addr} {kvs : List KvN} (ok : HOk P w H h) (d : DictN P w H a kvs) : kvs.length ≤ sizeLine ∧ (a == sysModules) = false ∧ ∃ xs, RelN kvs xs ∧ h.DictOfH (nestedKind P w) a xs := by
  obtain ⟨⟨z, y, xs, r, o, es, ep, h1, h2, h3, h4, h5⟩, _⟩ := (show ObjOk P w H h a (DNo P w a kvs) from ok a _ d.1)
  exact ⟨z, y, xs, r, o, es, ep, h1, h2, h3, h4, r.keys ok d.2, h5⟩
def tNGet (P : Program) (w : World) (td ty : TE) : TE := fun σ H Q => td σ H fun x H1 => ty σ H1 fun y H2 => ∃ a kvs k b v, x = .ref a ∧ y = .ref b ∧ DictN P w H2 a kvs ∧ KeyN H2 k b ∧ valN kvs k = some v ∧ Q v H2
def tNIn (P : Program) (w : World) (ty td : TE) : TE := fun σ H Q => ty σ H fun y H1 => td σ H1 fun x H2 => ∃ a kvs k b, x = .ref a ∧ y = .ref b ∧ DictN P w H2 a kvs ∧ KeyN H2 k b ∧ Q (.bl (valN kvs k).isSome) H2
/-- d[y] = v, y new -/
def sNPut (P : Program) (w : World) (td ty tv : TE) : TS := fun D σ H => tv σ H fun v H1 => td σ H1 fun x H2 => ty σ H2 fun y H3 => ∃ a kvs k b, x = .ref a ∧ y = .ref b ∧ DictN P w H3 a kvs ∧ KeyN H3 k b ∧ valN kvs k = none ∧ kvs.length < sizeLine ∧ D.nx σ (upd H3 a (DNo P w a (kvs ++ [(k, b, v)])))
def tDNewN (P : Program) (w : World) : TE := fun _ H Q => ∀ p, H p = none → Q (.ref p) (upd H p (DNo P w p []))
section
variable {X : Cx} {o i e value : Expr} {pos pos' tpos : Pos} {td ty tv : TE}
theorem room8 {A : Around} (hu : A.units + 9 < cLine) : (A.in1).units + 8 < cLine := by
  rw [Around.in1_units]
  omega
theorem pe_nget {P : Program} {w : World} (hP : X.prog = P) (hw : X.w = w) (hu : X.A.units + 9 < cLine) (ho : PE X o td) (hi : PE X i ty) (hs : NoSl i) : PE X (.Subscript o i pos) (tNGet P w td ty) := by
  subst hP hw
  refine ⟨fun pins s σ H Q I h => ?_⟩
  refine subD_of PySem.F.slot_dict_getitem.lookup hs (thn (ho.run pins s σ H _ I h) fun u s1 ⟨x, H1, I1, rx, q1⟩ => thn (hi.run pins s1 σ H1 _ I1 q1) fun iv s2 ⟨y, H2, I2, ry, a, kvs, k, b, v, ex, ey, dn, kn, hv, q2⟩ => ?_)
  subst ex ey
  obtain rfl : u = Value.ref a := rx
  obtain rfl : iv = Value.ref b := ry
  obtain ⟨z, hd, xs, rel, dd⟩ := dn.rd I2.hok
  obtain ⟨w', hw, rw'⟩ := RelO.some_of (v := v) (o := (atKey xs k).map (·.2)) (by rw [← hv]; exact rel.val k)
  obtain ⟨p, hp, hp2⟩ := Option.map_eq_some_iff.mp hw
  refine ⟨dd.typeIs, wpAny_getItem_heap (knd := nestedKind X.prog X.w) (room8 hu) (kn.is I2.hok) dd hp ?_⟩
  rw [hp2]
  exact ⟨v, H2, I2.tok _, rw', q2⟩
theorem pc_nin {P : Program} {w : World} (hP : X.prog = P) (hw : X.w = w) (hu : X.A.units + 9 < cLine) (hi : PE X i ty) (ho : PE X o td) : PC X .In i o (tNIn P w ty td) := by
  subst hP hw
  refine ⟨fun pins s σ H Q I h => ?_⟩
  refine thn (hi.run pins s σ H _ I h) fun iv s1 ⟨y, H1, I1, ry, q1⟩ => thn (ho.run pins s1 σ H1 _ I1 q1) fun u s2 ⟨x, H2, I2, rx, a, kvs, k, b, ex, ey, dn, kn, q2⟩ => ?_
  subst ex ey
  obtain rfl : u = Value.ref a := rx
  obtain rfl : iv = Value.ref b := ry
  obtain ⟨z, hd, xs, rel, dd⟩ := dn.rd I2.hok
  refine wpAny_in_heap (knd := nestedKind X.prog X.w) (room8 hu) (kn.is I2.hok) hd dd ?_
  have q := (rel.val k).isSome_eq
  rw [Option.isSome_map] at q
  rw [← q]
  exact ⟨.bl (valN kvs k).isSome, H2, I2.tok _, rfl, q2⟩
theorem ps_nput {P : Program} {w : World} (hP : X.prog = P) (hw : X.w = w) (hu : X.A.units + 9 < cLine) (ho : PE X o td) (hi : PE X i ty) (hv : PE X value tv) (hs : swapsWith value (some (.Subscript o i pos')) pos.line X.env = pure false) :
    PS X (.Assign [.Subscript o i pos'] value pos) (sNPut P w td ty tv) := by
  subst hP hw
  refine ⟨fun pins s σ H D I h => ?_⟩
  refine wpAny_Assign_Subscript (thn (hv.run pins s σ H _ I h) fun r s1 ⟨v, H1, I1, rv, q1⟩ => thn (ho.run pins s1 σ H1 _ I1 q1) fun u s2 ⟨x, H2, I2, rx, q2⟩ => thn (hi.run pins s2 σ H2 _ I2 q2) fun iv s3 ⟨y, H3, I3, ry, a, kvs, k, b, ex, ey, dn, kn, hno, hl, q3⟩ => ?_) hs
  subst ex ey
  obtain rfl : u = Value.ref a := rx
  obtain rfl : iv = Value.ref b := ry
  obtain ⟨z, hd, xs, rel, dd⟩ := dn.rd I3.hok
  have hz : xs.length ≤ sizeLine := by rw [← Paired.length rel]; exact z
  have hno2 : atKey xs k = none := by
    have q := (rel.val k).isSome_eq
    rw [hno, Option.isSome_map] at q
    cases e : atKey xs k with
    | none => rfl
    | some _ => rw [e] at q; cases q
  refine wpAny_setItem_heap (knd := nestedKind X.prog X.w) (hsz := hz) (room8 hu) (kn.is I3.hok) dd fun h' dd' hs => ?_
  rw [storedH_new hno2] at dd'
  obtain ⟨q, es, ep, hq, h2, h3, h4, _, h5⟩ := dd'
  refine ⟨σ, _, d_write I3 (by rw [dn.1]; exact True.intro) hs ⟨q, hq⟩ (dno_ok ?_ hd ?_ hq h2 h3 h4 h5), q3⟩
  · rw [List.length_append, List.length_singleton]
    omega
  · exact paired_append rel (.cons ⟨rfl, rfl, rv⟩ .nil)
theorem pe_dnewN {P : Program} {w : World} (hP : X.prog = P) (hw : X.w = w) : PE X (.Dict [] [] pos) (tDNewN P w) := by
  subst hP hw
  exact ⟨fun pins s σ H Q I h =>
  wpAny_Dict_empty ⟨.ref s.heap.objs.size, _, I.laid (a := s.heap.objs.size) (o := DNo X.prog X.w s.heap.objs.size []) (t' := s.toks) (fun _ _ q => Heap.get?_push_of_some _ q) (Nat.le_refl _)
    (dno_ok (Nat.zero_le _) (beq_eq_false_iff_ne.mpr (Ne.symm (Nat.ne_of_lt I.big))) .nil (Heap.get?_push_size _ rfl) ⟨rfl, rfl, rfl⟩ rfl rfl List.nodup_nil), rfl, h _ (I.hok.fresh (Nat.le_refl _))⟩⟩
end
end SwA

end

section
set_option maxRecDepth 100000
set_option maxHeartbeats 4000000
/-! for .. in d.items(), d.values(), where d's keys are tuples; the dict is locked -/
namespace SwA
open PySem PySem.Spec PyProof.Rows L2
theorem relN_at {kvs : List KvN} {xs : List (NestedKey × Addr × Value)} (r : RelN kvs xs) : ∀ {i : Nat} {x : KvN}, kvs[i]? = some x → ∃ y, xs[i]? = some y ∧ x.1 = y.1 ∧ x.2.1 = y.2.1 ∧ RelV x.2.2 y.2.2 := by
  induction r with
  | nil => intro i x h; simp at h
  | @cons p q ps qs h t ih =>
    intro i x e
    cases i with
    | zero =>
      have e : p = x := by simpa using e
      subst e
      exact ⟨q, rfl, h⟩
    | succ i => exact ih (by simpa using e)
theorem frzN {X : Cx} {pins : List (Addr × Obj)} {σ : L2.St} {H : Hp} {s : Shared} {d : Addr} {o : Obj} {kvs : List KvN} (I : Inv X pins σ H s) (h : H d = some (.frz o (DNo X.prog X.w d kvs))) :
    (d == sysModules) = false ∧ s.heap.get? d = some o ∧ o.ExactDict ∧ ∃ (es : Array DictEntry) (ep : Nat), o.data = .dict es ep ∧ es.size = kvs.length ∧
      ∀ (i : Nat) (x : KvN), kvs[i]? = some x → ∃ hi : i < es.size, es[i].key = .ref x.2.1 ∧ RelV x.2.2 es[i].val := by
  obtain ⟨hd, q⟩ := (show ObjOk X.prog X.w H s.heap d (.frz o (DNo X.prog X.w d kvs)) from I.hok d _ h)
  obtain ⟨⟨z, hs, xs, r, o', es, ep, ho, hx, hdt, he, _⟩, _⟩ := (show ObjOk X.prog X.w H s.heap d (DNo X.prog X.w d kvs) from q)
  rw [hd] at ho
  cases ho
  have l1 : es.size = xs.length := size_of_entries he
  have l2 : kvs.length = xs.length := Paired.length r
  refine ⟨hs, hd, hx, es, ep, hdt, by omega, fun i x hxi => ?_⟩
  obtain ⟨y, hy, _, e2, e3⟩ := relN_at r hxi
  have hi : i < es.size := by
    have := (List.getElem?_eq_some_iff.mp hy).1
    omega
  have qe := entry_at he i
  rw [hy, Array.getElem?_eq_getElem hi] at qe
  have qe : es[i] = entryOfKey (nestedKind X.prog X.w) y := Option.some.inj qe
  refine ⟨hi, ?_, ?_⟩
  · rw [qe, e2]; rfl
  · rw [qe]; exact e3
/-- the values -/
def ItvN (P : Program) (w : World) (d : Addr) (o : Obj) (kvs : List KvN) : It :=
  ⟨fun i H => H d = some (.frz o (DNo P w d kvs)) ∧ i < kvs.length, fun i H x H' => H' = H ∧ ∃ y, kvs[i]? = some y ∧ x = y.2.2, fun i H => H d = some (.frz o (DNo P w d kvs)) ∧ kvs.length ≤ i⟩
/-- the keys: each its own tuple -/
def ItkN (P : Program) (w : World) (d : Addr) (o : Obj) (kvs : List KvN) : It :=
  ⟨fun i H => H d = some (.frz o (DNo P w d kvs)) ∧ i < kvs.length, fun i H x H' => H' = H ∧ ∃ y, kvs[i]? = some y ∧ x = .ref y.2.1, fun i H => H d = some (.frz o (DNo P w d kvs)) ∧ kvs.length ≤ i⟩
/-- the pairs, each a new tuple -/
def ItiN (P : Program) (w : World) (d : Addr) (o : Obj) (kvs : List KvN) : It :=
  ⟨fun i H => H d = some (.frz o (DNo P w d kvs)) ∧ i < kvs.length, fun i H x H' => ∃ T y, kvs[i]? = some y ∧ x = .ref T ∧ H T = none ∧ H' = upd H T (.tup [.ref y.2.1, y.2.2]), fun i H => H d = some (.frz o (DNo P w d kvs)) ∧ kvs.length ≤ i⟩
theorem walk_valN {P : Program} {w : World} {d : Addr} {o : Obj} {kvs : List KvN} : Walk (ItvN P w d o kvs) kvs.length (fun H => H d = some (.frz o (DNo P w d kvs))) (fun i H x H' => H' = H ∧ ∃ y, kvs[i]? = some y ∧ x = y.2.2) :=
  ⟨fun _ _ hi q => ⟨q, hi⟩, fun _ q => ⟨q, Nat.le_refl _⟩, fun _ _ _ _ _ _ y => y⟩
theorem walk_keyN {P : Program} {w : World} {d : Addr} {o : Obj} {kvs : List KvN} : Walk (ItkN P w d o kvs) kvs.length (fun H => H d = some (.frz o (DNo P w d kvs))) (fun i H x H' => H' = H ∧ ∃ y, kvs[i]? = some y ∧ x = .ref y.2.1) :=
  ⟨fun _ _ hi q => ⟨q, hi⟩, fun _ q => ⟨q, Nat.le_refl _⟩, fun _ _ _ _ _ _ y => y⟩
theorem walk_itemN {P : Program} {w : World} {d : Addr} {o : Obj} {kvs : List KvN} : Walk (ItiN P w d o kvs) kvs.length (fun H => H d = some (.frz o (DNo P w d kvs))) (fun i H x H' => ∃ T y, kvs[i]? = some y ∧ x = .ref T ∧ H T = none ∧ H' = upd H T (.tup [.ref y.2.1, y.2.2])) :=
  ⟨fun _ _ hi q => ⟨q, hi⟩, fun _ q => ⟨q, Nat.le_refl _⟩, fun _ _ _ _ _ _ y => y⟩
section
variable {P : Program} {w : World} {K : PySem.W.Frag} {tg : Expr} {d : Addr} {o : Obj} {es : Array DictEntry} {ep : Nat}
theorem turn_valN {kvs : List KvN} (it : Addr) (hod : o.data = .dict es ep) : Turn P w K tg (ItvN P w d o kvs) [it] it (fun i h => h.IsValIter it d i kvs.length ep) where
  mem := by simp
  obj := fun i h st b hb => by
    have e : b = it := by simpa using hb
    subst e
    obtain ⟨oi, e, c, dd⟩ := st
    exact ⟨oi, e, fun v z => by rw [dd] at z; cases z⟩
  keep := fun i h h' st k => st.at fun oi e => k it (by simp) oi e
  item := by
    intro X hP hw hK hc i pins s σ H E I hf st hg
    subst hP hw hK
    obtain ⟨hd, hi⟩ := hg
    obtain ⟨f0, f1, f2, f3, f4, f5⟩ := hf it (by simp)
    obtain ⟨hs, hgd, hx, es', ep', hdt, hsz, ent⟩ := frzN I hd
    obtain ⟨rfl, rfl⟩ := dict_ep hod hdt
    have hkv : kvs[i]? = some kvs[i] := List.getElem?_eq_getElem hi
    obtain ⟨hi2, _, ru⟩ := ent i _ hkv
    rw [← hsz] at st
    refine wpAny_pyNext_values_item_raw st ⟨o, hgd, hx, hdt⟩ hi2 fun h' st' sb => ?_
    have I1 : Inv X pins σ H { s with heap := h' } := I.turned (t' := s.toks) (fun b ob hb e => (sb.2 b hb).trans e) f0 f1 f3 f4 f5
    obtain ⟨oi, e, c, dd⟩ := id st'
    refine ⟨es'[i].val, rfl, go_of (s := { s with heap := h' }) e c dd (by decide) ⟨kvs[i].2.2, H, I1, ru, ⟨rfl, kvs[i], hkv, rfl⟩, ?_, fun b hb => (hf b hb).1⟩⟩
    show h'.IsValIter it d (i + 1) kvs.length _
    rw [← hsz]
    exact st'
  done := by
    intro X hP hw hK hc i pins s σ H E I hf st hg
    subst hP hw hK
    obtain ⟨hd, hi⟩ := hg
    obtain ⟨f0, f1, f2, f3, f4, f5⟩ := hf it (by simp)
    obtain ⟨hs, hgd, hx, es', ep', hdt, hsz, ent⟩ := frzN I hd
    obtain ⟨rfl, rfl⟩ := dict_ep hod hdt
    rw [← hsz] at st
    exact wpAny_pyNext_values_end_raw (I.ok.hd hc) st ⟨o, hgd, hx, hdt⟩ (by omega) fun h' eb => ⟨rfl, I.turned (t' := s.toks) (fun b ob hb e => eb b ob hb e) f0 f1 f3 f4 f5⟩
  self := fun A i s Q E st h => wpAny_pyIter_valiter st h
theorem turn_itemN {kvs : List KvN} {elts : List Expr} {kk : Nat} {tpos : Pos} (it : Addr) (hod : o.data = .dict es ep) :
    Turn P w K (.Tuple elts kk tpos) (ItiN P w d o kvs) [it] it (fun i h => ∃ ok ov, IsItemIter h it d i kvs.length ep ok ov) where
  mem := by simp
  obj := fun i h st b hb => by
    have e : b = it := by simpa using hb
    subst e
    obtain ⟨ok, ov, e⟩ := st
    exact ⟨_, e, fun v z => nomatch z⟩
  keep := fun i h h' st k => let ⟨ok, ov, e⟩ := st; ⟨ok, ov, k it (by simp) _ e⟩
  item := by
    intro X hP hw hK hc i pins s σ H E I hf st hg
    subst hP hw hK
    obtain ⟨hd, hi⟩ := hg
    obtain ⟨hs, hgd, hx, es', ep', hdt, hsz, ent⟩ := frzN I hd
    obtain ⟨rfl, rfl⟩ := dict_ep hod hdt
    have hkv : kvs[i]? = some kvs[i] := List.getElem?_eq_getElem hi
    obtain ⟨hi2, ek, ru⟩ := ent i _ hkv
    obtain ⟨ok, ov, he⟩ := st
    rw [← hsz] at he
    have hlt : it < s.heap.objs.size := Heap.lt_size he
    refine wpAny_pyNext_items_item_raw he ⟨o, hgd, hx, hdt⟩ hi2 fun h' ho hT hz hk => ?_
    refine ⟨_, rfl, wpAny_letOwnedTupleGo_items (s := { s with heap := h' }) ho fun h'' he' sb => ?_⟩
    have hT2 : h''.get? s.heap.objs.size = some { cls := .type "tuple", data := .seq #[es'[i].key, es'[i].val] } := (sb.2 _ (Nat.ne_of_gt hlt)).trans hT
    have new : ObjOk X.prog X.w (upd H s.heap.objs.size (.tup [.ref kvs[i].2.1, kvs[i].2.2])) h'' s.heap.objs.size (.tup [.ref kvs[i].2.1, kvs[i].2.2]) :=
      ⟨by show 2 ≤ sizeLine; decide, [es'[i].key, es'[i].val], .cons ek (.cons ru .nil), ⟨_, hT2, rfl, _, rfl⟩⟩
    have I1 : Inv X pins σ (upd H s.heap.objs.size (.tup [.ref kvs[i].2.1, kvs[i].2.2])) { s with heap := h'' } :=
      I.turnedNew (t' := s.toks) (ch := [it]) (fun b ob hb e => (sb.2 b (by simpa using hb)).trans (hk b ob (by simpa using hb) e)) hf (Nat.le_refl _) new
    refine ⟨.ref s.heap.objs.size, _, I1, rfl, ⟨_, kvs[i], hkv, rfl, I.hok.fresh (Nat.le_refl _), rfl⟩, ⟨es'[i].key, es'[i].val, ?_⟩, fun b hb => ?_⟩
    · rw [← hsz]; exact he'
    · have e : b = it := by simpa using hb
      rw [e, upd_ne (Nat.ne_of_lt hlt)]
      exact (hf it (by simp)).1
  done := by
    intro X hP hw hK hc i pins s σ H E I hf st hg
    subst hP hw hK
    obtain ⟨hd, hi⟩ := hg
    obtain ⟨f0, f1, f2, f3, f4, f5⟩ := hf it (by simp)
    obtain ⟨hs, hgd, hx, es', ep', hdt, hsz, ent⟩ := frzN I hd
    obtain ⟨rfl, rfl⟩ := dict_ep hod hdt
    obtain ⟨ok, ov, he⟩ := st
    rw [← hsz] at he
    exact wpAny_pyNext_items_end_raw (I.ok.hd hc) he ⟨o, hgd, hx, hdt⟩ (by omega) fun h' eb => ⟨rfl, I.turned (t' := s.toks) (fun b ob hb e => eb b ob hb e) f0 f1 f3 f4 f5⟩
  self := fun A i s Q E st h => let ⟨_, _, e⟩ := st; PySem.W.kcp_self e h
theorem turn_keyN {kvs : List KvN} (it : Addr) (hod : o.data = .dict es ep) : Turn P w K tg (ItkN P w d o kvs) [it] it (fun i h => h.IsKeyIter it d i kvs.length ep) where
  mem := by simp
  obj := fun i h st b hb => by
    have e : b = it := by simpa using hb
    subst e
    obtain ⟨oi, e, c, dd⟩ := st
    exact ⟨oi, e, fun v z => by rw [dd] at z; cases z⟩
  keep := fun i h h' st k => st.at fun oi e => k it (by simp) oi e
  item := by
    intro X hP hw hK hc i pins s σ H E I hf st hg
    subst hP hw hK
    obtain ⟨hd, hi⟩ := hg
    obtain ⟨f0, f1, f2, f3, f4, f5⟩ := hf it (by simp)
    obtain ⟨hs, hgd, hx, es', ep', hdt, hsz, ent⟩ := frzN I hd
    obtain ⟨rfl, rfl⟩ := dict_ep hod hdt
    have hkv : kvs[i]? = some kvs[i] := List.getElem?_eq_getElem hi
    obtain ⟨hi2, ek, _⟩ := ent i _ hkv
    rw [← hsz] at st
    refine wpAny_pyNext_keys_item_raw st ⟨o, hgd, hx, hdt⟩ hi2 fun h' st' sb => ?_
    have I1 : Inv X pins σ H { s with heap := h' } := I.turned (t' := s.toks) (fun b ob hb e => (sb.2 b hb).trans e) f0 f1 f3 f4 f5
    obtain ⟨oi, e, c, dd⟩ := id st'
    refine ⟨es'[i].key, rfl, go_of (s := { s with heap := h' }) e c dd (by decide) ⟨.ref kvs[i].2.1, H, I1, ek, ⟨rfl, kvs[i], hkv, rfl⟩, ?_, fun b hb => (hf b hb).1⟩⟩
    show h'.IsKeyIter it d (i + 1) kvs.length _
    rw [← hsz]
    exact st'
  done := by
    intro X hP hw hK hc i pins s σ H E I hf st hg
    subst hP hw hK
    obtain ⟨hd, hi⟩ := hg
    obtain ⟨f0, f1, f2, f3, f4, f5⟩ := hf it (by simp)
    obtain ⟨hs, hgd, hx, es', ep', hdt, hsz, ent⟩ := frzN I hd
    obtain ⟨rfl, rfl⟩ := dict_ep hod hdt
    rw [← hsz] at st
    exact wpAny_pyNext_keys_end_raw (I.ok.hd hc) st ⟨o, hgd, hx, hdt⟩ (by omega) fun h' eb => ⟨rfl, I.turned (t' := s.toks) (fun b ob hb e => eb b ob hb e) f0 f1 f3 f4 f5⟩
  self := fun A i s Q E st h => by
    refine wpAny_pyIter_slot st.typeIs F.slot_dict_keyiterator_iter (wpAny_call_entry F.slot_dict_keyiterator_iter st.typeIs F.entry_dict_keyiterator_iter ?_ (F.args_dict_keyiterator_iter_1 _))
    show wpAny _ _ (ret (.ref it)) _ _ s
    exact wpAny_pure ⟨_, rfl, "dict_keyiterator", _, st.typeIs, F.slot_dict_keyiterator_next.lookup, h⟩
end
def iValN (P : Program) (w : World) (td : TE) : TI := fun σ H R => td σ H fun x H1 => ∃ d o kvs, x = .ref d ∧ H1 d = some (.frz o (DNo P w d kvs)) ∧ R (ItvN P w d o kvs) H1
def iItemN (P : Program) (w : World) (td : TE) : TI := fun σ H R => td σ H fun x H1 => ∃ d o kvs, x = .ref d ∧ H1 d = some (.frz o (DNo P w d kvs)) ∧ R (ItiN P w d o kvs) H1
def iKeyN (P : Program) (w : World) (td : TE) : TI := fun σ H R => td σ H fun x H1 => ∃ d o kvs, x = .ref d ∧ H1 d = some (.frz o (DNo P w d kvs)) ∧ R (ItkN P w d o kvs) H1
section
variable {X : Cx} {tg e : Expr} {td : TE} {apos cpos : Pos}
theorem pi_keyN {P : Program} {w : World} (hP : X.prog = P) (hw : X.w = w) (he : PE X e td) : PI X tg e (iKeyN P w td) := by
  subst hP hw
  refine ⟨fun pins s σ H R I h => ?_⟩
  refine thn (he.run pins s σ H _ I h) fun u s1 ⟨x, H1, I1, rx, d, o, kvs, ex, hd, q⟩ => ?_
  subst ex
  obtain rfl : u = Value.ref d := rx
  obtain ⟨hs, hgd, hx, es, ep, hdt, hsz, ent⟩ := frzN I1 hd
  refine iter_keys hs hgd hx hdt (pi_one (tk := s1.toks) I1 _ (turn_keyN _ hdt) ⟨_, Heap.get?_push_size _ rfl, rfl, ?_⟩ q)
  rw [hsz] <;> rfl
theorem pi_valN {P : Program} {w : World} (hP : X.prog = P) (hw : X.w = w) (he : PE X e td) (hbase : attributeBase e "values" X.env (eval e X.env) = eval e X.env := by rfl) (hline : (apos.endLine == cpos.line) = true := by rfl) : PI X tg (.Call (.Attribute e "values" apos) [] [] cpos) (iValN P w td) := by
  subst hP hw
  refine ⟨fun pins s σ H R I h => ?_⟩
  refine wpAny_Call_method (T := "dict") (id := "dict.values") hbase rfl hline F.plainAttrs_dict F.slot_dict_values F.type_dict_values (thn (he.run pins s σ H _ I h) fun u s1 ⟨x, H1, I1, rx, d, o, kvs, ex, hd, q⟩ => ?_)
  subst ex
  obtain rfl : u = Value.ref d := rx
  obtain ⟨hs, hgd, hx, es, ep, hdt, hsz, ent⟩ := frzN I1 hd
  have raw : s1.heap.DictRaw d es ep := ⟨o, hgd, hx, hdt⟩
  refine ⟨raw.typeIs, (fun b hb => by cases hb; exact ⟨o, hgd, hx.2.1⟩), ?_⟩
  have I2 : Inv X pins σ H1 { s1 with heap := s1.heap.push { cls := .type "dict_values", data := .fields #[.ref d] } } := I1.kept (t' := s1.toks) fun b ob q => Heap.get?_push_of_some _ q
  have fin : wpAny (model X.prog X.w) X.A (pyIter (.ref s1.heap.objs.size)) (PIE X pins σ tg R) X.xe { s1 with heap := s1.heap.push { cls := .type "dict_values", data := .fields #[.ref d] } } := by
    refine wpAny_pyIter_values_raw ⟨_, Heap.get?_push_size _ rfl, rfl, rfl⟩ (raw.at fun _ z => Heap.get?_push_of_some _ z) (pi_one (tk := s1.toks) I2 _ (turn_valN _ hdt) ⟨_, Heap.get?_push_size _ rfl, rfl, ?_⟩ q)
    rw [hsz] <;> rfl
  show wpAny _ _ (callWith cpos (.builtin "dict.values") [.ref d] [] []) _ X.xe s1
  exact method_meetsIn F.slot_dict_values F.entry_dict_values rfl (PySem.evalArgs_none ⟨rfl, raw.typeIs, F.args_dict_values_1 _, _, meets_dict_values_raw d hs, ⟨es, ep, raw⟩, fin⟩)
theorem pi_itemN {P : Program} {w : World} {elts : List Expr} {kk : Nat} {tpos : Pos} (hP : X.prog = P) (hw : X.w = w) (he : PE X e td) (hbase : attributeBase e "items" X.env (eval e X.env) = eval e X.env := by rfl) (hline : (apos.endLine == cpos.line) = true := by rfl) :
    PI X (.Tuple elts kk tpos) (.Call (.Attribute e "items" apos) [] [] cpos) (iItemN P w td) := by
  subst hP hw
  refine ⟨fun pins s σ H R I h => ?_⟩
  refine wpAny_Call_method (T := "dict") (id := "dict.items") hbase rfl hline F.plainAttrs_dict F.slot_dict_items F.type_dict_items (thn (he.run pins s σ H _ I h) fun u s1 ⟨x, H1, I1, rx, d, o, kvs, ex, hd, q⟩ => ?_)
  subst ex
  obtain rfl : u = Value.ref d := rx
  obtain ⟨hs, hgd, hx, es, ep, hdt, hsz, ent⟩ := frzN I1 hd
  have raw : s1.heap.DictRaw d es ep := ⟨o, hgd, hx, hdt⟩
  refine ⟨raw.typeIs, (fun b hb => by cases hb; exact ⟨o, hgd, hx.2.1⟩), ?_⟩
  have I2 : Inv X pins σ H1 { s1 with heap := s1.heap.push { cls := .type "dict_items", data := .fields #[.ref d] } } := I1.kept (t' := s1.toks) fun b ob q => Heap.get?_push_of_some _ q
  have fin : wpAny (model X.prog X.w) X.A (pyIter (.ref s1.heap.objs.size)) (PIE X pins σ (.Tuple elts kk tpos) R) X.xe { s1 with heap := s1.heap.push { cls := .type "dict_items", data := .fields #[.ref d] } } := by
    refine wpAny_pyIter_items_raw ⟨_, Heap.get?_push_size _ rfl, rfl, rfl⟩ (raw.at fun _ z => Heap.get?_push_of_some _ z) (pi_one (tk := s1.toks) I2 _ (turn_itemN _ hdt) ⟨.none, .none, ?_⟩ q)
    rw [hsz]
    exact Heap.get?_push_size _ rfl
  show wpAny _ _ (callWith cpos (.builtin "dict.items") [.ref d] [] []) _ X.xe s1
  exact method_meetsIn F.slot_dict_items F.entry_dict_items rfl (PySem.evalArgs_none ⟨rfl, raw.typeIs, F.args_dict_items_1 _, _, meets_dict_items_raw d hs, ⟨es, ep, raw⟩, fin⟩)
end
end SwA

end

section
set_option maxRecDepth 100000
set_option maxHeartbeats 4000000
/-! rules of tuples: enumerate, count -/
namespace SwA
open PySem PySem.Spec PyProof.Rows L2
section
variable {X : Cx}
/-! ### t.count(k) of a tuple of ints -/
def rCntT (K : PySem.W.Frag) : V → List V → Hp → VK → Prop := fun x xs H Q => ∃ (p : Addr) (ns : List Int) (k : Int), x = .ref p ∧ xs = [.int k] ∧ SqT K H p (ns.map V.int) ∧ Q (.int (ns.count k : Nat)) H
theorem mt_tcount : MtR X "tuple.count" (rCntT X.K) := by
  intro pins s σ H x xs v us Q I rx rxs h
  obtain ⟨p, ns, k, rfl, rfl, hs, q⟩ := h
  cases rx
  obtain ⟨u, rfl, ru⟩ := rxs.one
  obtain ⟨t, rfl⟩ := ru
  obtain ⟨its, rv, ⟨⟨cls, dd, data, sl⟩, ho, hc, n, hd⟩, hlen⟩ := I.tuple hs
  simp only at hc hd
  subst hc hd
  have hi := ints_of_vals rv
  refine call_meets PySem.F.slot_tuple_count ⟨_, ho, rfl⟩ PySem.F.entry_tuple_count (PySem.F.args_tuple_count_2 _ _)
    (SeqAt.tuple_countAt p its.toArray n dd sl (.int k t) (eqk k)) ⟨ho, fun y hy => (eqk_gives hi y (by simpa using hy)).at _ _, ?_⟩
  have ec : its.toArray.toList.countP (eqk k) = ns.count k := eqk_count hi
  refine ⟨.int (ns.count k : Nat), H, I.tok _, ⟨s.toks, ?_⟩, q⟩
  show Value.int ((its.toArray.toList.countP (eqk k) : Nat) : Int) s.toks = Value.int ((ns.count k : Nat) : Int) s.toks
  rw [ec]
end
/-! ### enumerate(t) of a tuple -/
open AutoSeq1 (wpAny_loadPart') in
theorem meets_enumerate_newT (l : Addr) (items : Array Value) :
    Meets (Builtin.«enumerate.__new__» ⟨[.type "enumerate", .ref l], []⟩) (fun _ R s => s.heap.IsTuple l items ∧
      R (.ok (.ret (.ref (s.heap.push { cls := .type "tuple_iterator", data := .fields #[.ref l, .int 0 0] }).objs.size)))
        { s with heap := (s.heap.push { cls := .type "tuple_iterator", data := .fields #[.ref l, .int 0 0] }).push { cls := .type "enumerate", data := .fields #[.none, .bool false, .ref s.heap.objs.size, rawInt 0, .none, .none] } }) :=
  .of_wp fun prog w A R s h => by
    obtain ⟨hp, g, d, tk, os⟩ := s; obtain ⟨hL, h⟩ := h
    have hsub := sub_enumerate
    have q1 : ∀ {A' : Around} {E : Value → Shared → Prop} {Q : Value → Shared → Prop}, Q (.ref hp.objs.size) ⟨hp.push { cls := .type "tuple_iterator", data := .fields #[.ref l, .int 0 0] }, g, d, tk, os⟩ → wpAny (model prog w) A' (pyIter (.ref l)) Q E ⟨hp, g, d, tk, os⟩ :=
      fun q => wpAny_pyIter_tuple hL q
    wp_walk using q1
    refine wpAny_stack_any fun st => wpAny_pure ?_
    split
    · rename_i c _ _ _ _ _
      cases (c == Value.type "enumerate")
      · wp_walk using q1
        exact ⟨_, rfl, h⟩
      · wp_walk using q1
        exact ⟨_, rfl, h⟩
    · wp_walk using q1
      exact ⟨_, rfl, h⟩
theorem call_enumerate_tuple {prog : Program} {w : World} {A : Around} {E : Value → Shared → Prop} {s : Shared} {l : Addr} {items : Array Value} {Q : Value → Shared → Prop} (hL : s.heap.IsTuple l items)
    (h : ∀ h', IsEnum h' (s.heap.objs.size + 1) s.heap.objs.size 0 .none → h'.IsTupleIter s.heap.objs.size l 0 → h'.objs.size = s.heap.objs.size + 2 →
      (∀ b o, s.heap.get? b = some o → h'.get? b = some o) → Q (.ref (s.heap.objs.size + 1)) { s with heap := h' }) :
    wpAny (model prog w) A (call (.type "enumerate") [.ref l]) Q E s := by
  refine callType_new F.called_enumerate (by decide) (F.typeCall_enumerate_1 _) (F.newCall_enumerate_1 _) (fun obj => F.args_object_init_2 obj _) F.entry_enumerate_new
    (meets_enumerate_newT l items) ⟨hL, ?_⟩
  have hz : (s.heap.push { cls := .type "tuple_iterator", data := .fields #[.ref l, .int 0 0] }).objs.size = s.heap.objs.size + 1 := Heap.size_push ..
  show _ ∧ _
  rw [hz]
  have he : IsEnum ((s.heap.push { cls := .type "tuple_iterator", data := .fields #[.ref l, .int 0 0] }).push
      { cls := .type "enumerate", data := .fields #[.none, .bool false, .ref s.heap.objs.size, rawInt 0, .none, .none] }) (s.heap.objs.size + 1) s.heap.objs.size 0 .none := by
    have := Heap.get?_push_size (s.heap.push { cls := .type "tuple_iterator", data := .fields #[.ref l, .int 0 0] })
      (o := { cls := .type "enumerate", data := .fields #[.none, .bool false, .ref s.heap.objs.size, rawInt 0, .none, .none] }) rfl
    rw [hz] at this; exact this
  refine ⟨⟨_, he, rfl⟩, h _ he ⟨_, Heap.get?_push_of_some _ (Heap.get?_push_size _ rfl), rfl, rfl⟩ (by rw [Heap.size_push, hz]) fun b o x => Heap.get?_push_of_some _ (Heap.get?_push_of_some _ x)⟩
/-- the tuple at a, each item in a new pair -/
def ItET (K : PySem.W.Frag) (a : Addr) : It :=
  ⟨fun i H => ∃ (xs : List V) (x : V), SqT K H a xs ∧ xs[i]? = some x, fun i H v H' => ∃ T x, v = .ref T ∧ H T = none ∧ H' = upd H T (.tup [.int (i : Nat), x]) ∧ ∀ xs, SqT K H a xs → xs[i]? = some x, fun i H => ∃ xs : List V, SqT K H a xs ∧ xs.length = i⟩
theorem turn_enumT {P : Program} {w : World} {K : PySem.W.Frag} {elts : List Expr} {kk : Nat} {tpos : Pos} (a e it : Addr) (hai : a ≠ it) (hae : a ≠ e) :
    Turn P w K (.Tuple elts kk tpos) (ItET K a) [e, it] e (fun i h => (∃ old, IsEnum h e it ((i : Nat) : Int) old) ∧ h.IsTupleIter it a i ∧ e ≠ it) where
  mem := by simp
  obj := fun i h st b hb => by
    obtain ⟨⟨old, he⟩, ⟨o, ho, hc, hd⟩, _⟩ := st
    have e' : b = e ∨ b = it := by simpa using hb
    rcases e' with z | z
    · rw [z]; exact ⟨_, he, fun v q => nomatch q⟩
    · rw [z]; exact ⟨o, ho, fun v q => by rw [hd] at q; cases q⟩
  keep := fun i h h' st k => let ⟨⟨old, he⟩, hi, hne⟩ := st; ⟨⟨old, k e (by simp) _ he⟩, hi.at fun o q => k it (by simp) o q, hne⟩
  item := by
    intro X hP hw hK hc i pins s σ H E I hf st hg
    subst hP hw hK
    obtain ⟨⟨old, he⟩, hit, hne⟩ := st
    obtain ⟨xs, x, hq, hx⟩ := hg
    obtain ⟨its, rv, p, hz⟩ := I.tuple hq
    obtain ⟨u, hu, ru⟩ := rv.get hx
    have hel : e < s.heap.objs.size := Heap.lt_size he
    have hil : it < s.heap.objs.size := by obtain ⟨_, q, _⟩ := hit; exact Heap.lt_size q
    have hui : i < its.toArray.size := by rw [List.size_toArray]; exact (List.getElem?_eq_some_iff.mp hu).1
    have D := Draws.tuple (prog := X.prog) (w := X.w) (A := X.A.in1) (I.ok.hd hc) it a hai its.toArray
    refine wpAny_pyNext_enum_itemD D he ⟨hit, p⟩ hui hne (by simp; exact ⟨hne, fun z => hae z.symm⟩) fun y h' tk hy ho hit' hT hsz hk => ?_
    have ey : y = u := by
      have e1 : its.toArray[i]? = some u := by simpa using hu
      rw [e1] at hy
      exact (Option.some.inj hy).symm
    subst ey
    refine ⟨_, rfl, wpAny_letOwnedTupleGo_enum (s := { s with heap := h', toks := tk + 1 }) ho fun h'' he' sb => ?_⟩
    have hT2 : h''.get? s.heap.objs.size = some { cls := .type "tuple", data := .seq #[.int i tk, y] } := (sb.2 _ (Nat.ne_of_gt hel)).trans hT
    have new : ObjOk X.prog X.w (upd H s.heap.objs.size (.tup [.int (i : Nat), x])) h'' s.heap.objs.size (.tup [.int (i : Nat), x]) :=
      ⟨by show 2 ≤ sizeLine; decide, [.int i tk, y], .cons ⟨_, rfl⟩ (.cons ru .nil), ⟨_, hT2, rfl, _, rfl⟩⟩
    have I1 : Inv X pins σ (upd H s.heap.objs.size (.tup [.int (i : Nat), x])) { s with heap := h'', toks := tk + 1 } :=
      I.turnedNew (ch := [e, it]) (fun b ob hb q => (sb.2 b (fun z => hb (by simp [z]))).trans (hk b ob (fun z => hb (by simp [z])) (fun z => hb (by simp [z])) q)) hf (Nat.le_refl _) new
    refine ⟨.ref s.heap.objs.size, _, I1, rfl, ⟨_, x, rfl, I.hok.fresh (Nat.le_refl _), rfl, fun ys hy => by rw [I.tuple_inj hy hq]; exact hx⟩, ⟨⟨y, ?_⟩, hit'.1.at fun o q => (sb.2 it (Ne.symm hne)).trans q, hne⟩, fun b hb => ?_⟩
    · have e1 : ((i + 1 : Nat) : Int) = (i : Int) + 1 := by omega
      rw [e1]; exact he'
    · have hb' : b < s.heap.objs.size := by
        have e' : b = e ∨ b = it := by simpa using hb
        rcases e' with z | z
        · rw [z]; exact hel
        · rw [z]; exact hil
      rw [upd_ne (Nat.ne_of_lt hb')]
      exact (hf b hb).1
  done := by
    intro X hP hw hK hc i pins s σ H E I hf st hg
    subst hP hw hK
    obtain ⟨⟨old, he⟩, hit, hne⟩ := st
    obtain ⟨xs, hq, hx⟩ := hg
    obtain ⟨its, rv, p, hz⟩ := I.tuple hq
    obtain ⟨f0, f1, f2, f3, f4, f5⟩ := hf it (by simp)
    have hl := rv.length
    have D := Draws.tuple (prog := X.prog) (w := X.w) (A := X.A.in1) (I.ok.hd hc) it a hai its.toArray
    have ei : its.toArray.size = i := by rw [List.size_toArray]; omega
    exact wpAny_pyNext_enum_endD D he ⟨by rw [ei]; exact hit, p⟩ fun h' eb => ⟨rfl, I.turned (t' := s.toks) (fun b o hb q => eb b o hb q) f0 f1 f3 f4 f5⟩
  self := fun A i s Q E st h => let ⟨⟨_, he⟩, _⟩ := st; wpAny_pyIter_enum he h
def iEnumT (K : PySem.W.Frag) (ta : TA) : TI := fun σ H R => ta σ H fun vs H1 => ∃ a xs, vs = [.ref a] ∧ SqT K H1 a xs ∧ R (ItET K a) H1
theorem pi_enumT {X : Cx} {e : Expr} {ta : TA} {p pos tpos : Pos} {elts : List Expr} {kk : Nat} (hg : Gl X "enumerate") (hm : X.mg "enumerate" = none) (ha : PA X [e] ta) (hs : starEach [e] X.env = [(false, eval e X.env)] := by rfl) :
    PI X (.Tuple elts kk tpos) (.Call (.Name "enumerate" p) [e] [] pos) (iEnumT X.K ta) := by
  refine ⟨fun pins s σ H R I h => ?_⟩
  refine Call_ (ld_blt I hg hm boot_enumerate (PyProof.Rows.callWith_type1 (thn (ha.run pos pins s σ H _ I h) fun us s1 ⟨vs, H1, I1, r1, q1⟩ => ?_) hs rfl))
  obtain ⟨a, xs, ex, hq, q⟩ := q1
  subst ex
  cases r1 with
  | cons r rr =>
    cases rr
    cases r
    obtain ⟨its, rv, p', hz⟩ := I1.tuple hq
    have hal : a < s1.heap.objs.size := by obtain ⟨_, z, _⟩ := p'; exact Heap.lt_size z
    refine call_enumerate_tuple (items := its.toArray) p' fun h' he hit hsz hk => wpAny_pyIter_enum he ?_
    have I2 : Inv X pins σ H1 { s1 with heap := h' } := I1.kept (t' := s1.toks) hk
    refine ⟨s1.heap.objs.size + 1, [s1.heap.objs.size + 1, s1.heap.objs.size], _, _, H1, rfl, I2, turn_enumT a (s1.heap.objs.size + 1) s1.heap.objs.size (Nat.ne_of_lt hal) (Nat.ne_of_lt (Nat.lt_succ_of_lt hal)), ⟨⟨.none, he⟩, hit, Nat.succ_ne_self _⟩, fun b hb => ?_, q⟩
    have e' : b = s1.heap.objs.size + 1 ∨ b = s1.heap.objs.size := by simpa using hb
    have hle : s1.heap.objs.size ≤ b := by
      rcases e' with z | z
      · rw [z]; exact Nat.le_add_right _ _
      · rw [z]; exact Nat.le_refl _
    exact I1.fpOk hle (I1.hok.fresh hle)
/-! ### match upon a tuple: a written text ahead, names behind -/
inductive Caps (X : Cx) : List Pattern → List (Str × Nat) → Prop
  | nil : Caps X [] []
  | cons {x : Str} {i : Nat} {p : Pos} {ps : List Pattern} {xs : List (Str × Nat)} (hi : X.N[i]? = some x) (hx : Loc X.env.scope x) (hf : X.fn x = true ∨ X.env.scope.names.lookup x = some .local) (t : Caps X ps xs) :
      Caps X (.MatchAs none (some x) p :: ps) ((x, i) :: xs)
def setAll : L2.St → List (Str × Nat) → List V → L2.St
  | σ, (_, i) :: r, v :: vs => setAll (σ.set i (some v)) r vs
  | σ, _, _ => σ
def capB : List (Str × Nat) → List Value → List (Str × Value)
  | (x, _) :: r, u :: us => (x, u) :: capB r us
  | _, _ => []
theorem matchEach_caps {X : Cx} {M : Model} {A : Around} {E : Value → Shared → Prop} {s : Shared} : ∀ {ps : List Pattern} {xs : List (Str × Nat)} {us : List Value} {Q : Option (List (Str × Value)) → Shared → Prop}, Caps X ps xs → us.length = ps.length → Q (some (capB xs us)) s → wpAny M A (matchEach ps X.env us) Q E s
  | _, _, [], _, .nil, _, h => wpAny_matchEach_nil h
  | _, _, u :: us, Q, .cons hi hx hf t, hl, h => by
    refine wpAny_matchEach_cons (wpAny_matchPattern_Capture ?_)
    refine matchEach_caps t (by simpa using hl) ?_
    exact h
theorem assign_caps {X : Cx} {M : Model} {A : Around} {E : Value → Shared → Prop} (hN : X.N.Nodup) {pins : List (Addr × Obj)} {H : Hp} : ∀ {ps : List Pattern} {xs : List (Str × Nat)} {us : List Value} {vs : List V} {s : Shared} {σ : L2.St} {Q : Unit → Shared → Prop}, Caps X ps xs → us.length = ps.length → Vals vs us → Inv X pins σ H s →
    (∀ s', Inv X pins (setAll σ xs vs) H s' → Q () s') → wpAny M A (assignInOrder ((capB xs us).map fun (n, _) => bindName X.env n) ((capB xs us).map (·.2))) Q E s
  | _, _, [], _, _, _, _, .nil, _, .nil, I, h => wpAny_assignInOrder_none (h _ I)
  | _, _, u :: us, _, s, σ, Q, .cons hi hx hf t, hl, .cons r rr, I, h => by
    refine wpAny_assignInOrder_more ?_
    refine wpAny_bindName (store_ok I hN hi hx r (fun s' I' => ?_) hf)
    exact assign_caps hN t (by simpa using hl) rr I' h
def tCaseQ (K : PySem.W.Frag) (z : Str) (xs : List (Str × Nat)) (tb : TS) (tr : V → TS) : V → TS := fun v D σ H => ∃ a y ys, v = .ref a ∧ SqT K H a (.str y :: ys) ∧
  (y = z ∧ ys.length = xs.length → tb D (setAll σ xs ys) H) ∧ (¬ (y = z ∧ ys.length = xs.length) → tr v D σ H)
theorem Caps.len {X : Cx} : ∀ {ps : List Pattern} {xs : List (Str × Nat)}, Caps X ps xs → ps.length = xs.length
  | _, _, .nil => rfl
  | _, _, .cons _ _ _ t => by simp [t.len]
theorem pms_seq {X : Cx} {z : Str} {k : Nat} {ps : List Pattern} {xs : List (Str × Nat)} {body : List Stmt} {rest : List MatchCase} {tb : TS} {tr : V → TS} {p1 p2 p3 : Pos} (hc : X.calm = true) (hN : X.N.Nodup) (hp : Caps X ps xs) (hb : PSs X body tb) (hr : PMs X rest tr)
    (hstar : ((.MatchValue (.Constant (.str z) k p1) p2 : Pattern) :: ps).findIdx? (·.isStar) = none := by rfl)
    (hwild : (((.MatchValue (.Constant (.str z) k p1) p2 : Pattern) :: ps).all fun p => p.isWildcard || (p.isStar && p.names.isEmpty)) = false := by rfl) :
    PMs X (⟨.MatchSequence (.MatchValue (.Constant (.str z) k p1) p2 :: ps) p3, none, body⟩ :: rest) (tCaseQ X.K z xs tb tr) := by
  refine ⟨fun pins s σ H D v u first I r h => ?_⟩
  obtain ⟨a, y, ys, ev, hs, h1, h2⟩ := h
  subst ev
  cases r
  obtain ⟨its, rv, ht, hz⟩ := I.tuple hs
  have hlen := rv.length
  have hfit : (its.toArray.size : Int) < 2 ^ 63 := by
    rw [sizeLine_eq] at hz
    simp only [List.size_toArray]
    omega
  have hpl := hp.len
  refine wpAny_matchCases_cons ?_
  by_cases e : its.length = ps.length + 1
  · refine matchSeq_tuple_hit ht hfit (by simpa using e) ?_ hstar hwild
    have en : ((.MatchValue (.Constant (.str z) k p1) p2 : Pattern) :: ps).length = its.toArray.size := by simpa using e.symm
    rw [en]
    have I0 : Inv X pins σ H { s with toks := s.toks + 1 + 1 } := I.tok _
    refine unpackItems_tuple (s := { s with toks := s.toks + 1 + 1 }) (I.ok.hd hc) ht fun h' hx => ?_
    have I1 : Inv X pins σ H { s with heap := h', toks := s.toks + 1 + 1 } := I0.kept (t' := s.toks + 1 + 1) fun b o e => hx b o (Nat.ne_of_lt (Heap.lt_size e)) e
    cases rv with
    | @cons _ u0 _ ur r0 rr =>
      obtain ⟨tt, rfl⟩ := r0
      have hur : ur.length = ps.length := by simpa using e
      have hyl : ys.length = xs.length := by
        have := rr.length
        omega
      refine wpAny_matchEach_cons (wpAny_matchPattern_Value ?_)
      refine thn ((pe_str (X := X) (x := z) (j := k) (pos := p1)).run pins _ σ H (fun x H' => x = .str z ∧ H' = H) I1 ⟨rfl, rfl⟩) fun zv s1 ⟨x, H1, I1', rz, ex, eh⟩ => ?_
      subst ex
      subst eh
      refine thn (op_eq pins s1 σ H1 (.str y) (.str z) (.str y tt) zv (fun x H' => x = .bl (decide (V.str y = V.str z)) ∧ H' = H1) I1' ⟨tt, rfl⟩ rz ⟨rfl, rfl, rfl⟩) fun c s2 ⟨x, H2, I2, rc, ex, eh⟩ => ?_
      subst ex
      subst eh
      obtain rfl : c = Value.bool (decide (V.str y = V.str z)) := rc
      refine wpAny_truthy_bool ?_
      by_cases eq : y = z
      · have d : decide (V.str y = V.str z) = true := decide_eq_true (by rw [eq])
        rw [d]
        refine matchEach_caps hp hur ?_
        refine assign_caps hN hp hur rr I2 fun s' I' => ?_
        exact hb.run pins s' _ H2 D I' (h1 ⟨eq, hyl⟩)
      · have d : decide (V.str y = V.str z) = false := decide_eq_false (fun q => eq (V.str.inj q))
        rw [d]
        exact hr.run pins s2 σ H2 D (.ref a) _ false I2 rfl (h2 fun q => eq q.1)
  · refine matchSeq_tuple_miss ht hfit (by simpa using e) ?_ hstar hwild
    refine hr.run pins _ σ H D (.ref a) _ false (I.tok _) rfl (h2 fun q => e ?_)
    have := q.2
    simp only [List.length_cons] at hlen
    omega
/-! ### a tuple with no dict, whose methods can be asked -/
def TupN (H : Hp) (a : Addr) (xs : List V) : Prop := ∃ o : Obj, o.cls = .type "tuple" ∧ o.dict = none ∧ H a = some (.frz o (.tup xs))
theorem TupN.sq {K : PySem.W.Frag} {H : Hp} {a : Addr} {xs : List V} (h : TupN H a xs) : SqT K H a xs := let ⟨o, _, _, e⟩ := h; .inl (.inr ⟨o, e⟩)
theorem TupN.mono {H H' : Hp} {a : Addr} {xs : List V} (s : ∀ o, H a = some (.frz o (.tup xs)) → H' a = some (.frz o (.tup xs))) (h : TupN H a xs) : TupN H' a xs := let ⟨o, c, d, e⟩ := h; ⟨o, c, d, s o e⟩
section
variable {X : Cx} {a : Expr} {ta : TE}
def kTupN (K : PySem.W.Frag) (x : V) (H : Hp) (Q : VK) : Prop := ∃ p xs, x = .ref p ∧ SqL K H p xs ∧ ∀ (q : Addr) (o : Obj), H q = none → o.cls = .type "tuple" → o.dict = none → Q (.ref q) (upd H q (.frz o (.tup xs)))
theorem rl_tupleN (pins : List (Addr × Obj)) (s : Shared) (σ : L2.St) (H : Hp) (x : V) (v : Value) (Q : VK) (I : Inv X pins σ H s) (r : RelV x v) (h : kTupN X.K x H Q) :
    wpAny (model X.prog X.w) X.A (call (.type "tuple") [v]) (EP X pins σ Q) X.xe s := by
  obtain ⟨p, xs, rfl, hs, q⟩ := h
  obtain rfl : v = .ref p := r
  obtain ⟨its, rv, pl, hz⟩ := I.list hs
  refine call_tuple_list pl.isList (fun h' hk => ?_) (by rw [List.size_toArray, ← rv.length]; exact hz)
  have I1 : Inv X pins σ H { s with heap := h' } := I.kept (t' := s.toks) hk
  have ob : (h'.push { cls := .type "tuple", data := .seq its.toArray }).get? h'.objs.size = some { cls := .type "tuple", data := .seq its.toArray } := Heap.get?_push_size _ rfl
  have I2 : Inv X pins σ (upd H h'.objs.size (.frz { cls := .type "tuple", data := .seq its.toArray } (.tup xs))) { s with heap := h'.push { cls := .type "tuple", data := .seq its.toArray } } :=
    I1.laid (t' := s.toks) (fun b o e => Heap.get?_push_of_some _ e) (Nat.le_refl _) (show ObjOk X.prog X.w _ _ _ (.frz _ (.tup xs)) from ⟨ob, hz, its, rv, IsTup.new _ _⟩)
  exact ⟨.ref h'.objs.size, _, I2, rfl, q _ _ (I1.hok.fresh (Nat.le_refl _)) rfl rfl⟩
theorem pe_tupleOfN {p pos : Pos} (hg : Gl X "tuple") (hm : X.mg "tuple" = none) (ha : PE X a ta) (na : starEach [a] X.env = (false, eval a X.env) :: starEach [] X.env := by rfl) :
    PE X (.Call (.Name "tuple" p) [a] [] pos) (tThen ta (kTupN X.K)) := by
  refine ⟨fun pins s σ H Q I h => ?_⟩
  exact Call_ (ld_blt I hg hm boot_tuple (PyProof.Rows.callWith_type1 (one_arg ha I h (fun v s2 x H2 I2 r q => rl_tupleN pins s2 σ H2 x v Q I2 r q) na) na))
variable {o e : Expr} {es : List Expr} {to : TE} {t : TA} {name : Str} {apos cpos : Pos} {id : String} {r : V → List V → Hp → VK → Prop}
def tBMN (r : V → List V → Hp → VK → Prop) (to : TE) (t : TA) : TE := fun σ H Q => to σ H fun x H1 => (∃ p xs, x = .ref p ∧ TupN H1 p xs) ∧ t σ H1 fun xs H2 => r x xs H2 Q
theorem pe_bmN (slot : Slot "tuple" name id) (hty : typeOf (.builtin id) = pure (.type "method_descriptor")) (hm : MtR X id r) (ho : PE X o to) (ha : PA X (e :: es) t)
    (hbase : attributeBase o name X.env (eval o X.env) = eval o X.env := by rfl)
    (hfew : ((backTo cpos (starEach (e :: es) X.env)).all (fun x => !x.1) && (backToKw cpos (keywordEach [] X.env)).all (fun x => x.1.isSome)
      && decide ((e :: es).length + ([] : List Keyword).length + (if ([] : List Keyword).isEmpty then 0 else 1) < 30)) = true := by rfl)
    (hline : (apos.endLine == cpos.line) = true := by rfl) (hs : starEach (e :: es) X.env = (false, eval e X.env) :: starEach es X.env := by rfl) (hplain : (backTo cpos (starEach es X.env)).any (·.1) = false := by rfl) :
    PE X (.Call (.Attribute o name apos) (e :: es) [] cpos) (tBMN r to t) := by
  refine ⟨fun pins s σ H Q I h => ?_⟩
  refine wpAny_Call_method_late hbase hfew hline rfl (thn (ho.run pins s σ H _ I h) fun v s1 ⟨x, H1, I1, r1, ⟨p, xs, ex, tn⟩, q1⟩ => ?_)
  subst ex
  obtain rfl : v = .ref p := r1
  obtain ⟨ob, oc, od, eH⟩ := tn
  obtain ⟨eo, _⟩ := I1.hok p _ eH
  refine ⟨"tuple", id, PySem.F.plainAttrs_tuple, slot, hty, ⟨ob, eo, oc⟩, fun b eb => ?_, ?_⟩
  · cases eb
    exact ⟨ob, eo, od⟩
  have hA := ha.run cpos pins s1 σ H1 _ I1 q1
  rw [hs] at hA ⊢
  refine Calls.callWith_builtin (by show (false || (backTo cpos (starEach es X.env)).any (·.1)) = false; rw [hplain] <;> rfl) (Calls.evalArgs_plain ?_)
  exact thn hA fun us s2 ⟨vs, H2, I2, r2, q2⟩ => hm pins s2 σ H2 (.ref p) vs (.ref p) us Q I2 rfl r2 q2
end
end SwA
namespace SwA
open PySem PySem.Spec PyProof.Rows L2
/-! ### l == [], l != [] -/
section
variable {X : Cx}
def rEqNil (K : PySem.W.Frag) : R2 := fun x y H Q => ∃ a b xs, x = .ref a ∧ y = .ref b ∧ SqL K H a xs ∧ SqL K H b [] ∧ Q (.bl (decide (xs = []))) H
def rNeNil (K : PySem.W.Frag) : R2 := fun x y H Q => ∃ a b xs, x = .ref a ∧ y = .ref b ∧ SqL K H a xs ∧ SqL K H b [] ∧ Q (.bl (!decide (xs = []))) H
theorem op_eqNil (hu : X.A.units < cLine) : OpR X (compareOp .Eq) (rEqNil X.K) := by
  intro pins s σ H x y v u Q I rx ry h
  obtain ⟨a, b, xs, rfl, rfl, ha, hb, q⟩ := h
  cases rx
  cases ry
  obtain ⟨its, rv, p, hz⟩ := I.list ha
  obtain ⟨its2, rv2, p2, hz2⟩ := I.list hb
  cases rv2
  show wpAny _ _ (richCompare .Eq (.ref a) (.ref b)) _ _ _
  cases rv with
  | nil =>
    refine SeqAt.RcAt.lists (e := fun _ => true) p.isList p2.isList rfl hu (fun j h1 h2 => absurd h1 (Nat.not_lt_zero _)) _ _ _ _ ?_
    exact ⟨.bl true, H, I, rfl, q⟩
  | cons r rr =>
    refine SeqAt.RcAt.lists_lengths p.isList p2.isList (by simp) hu _ _ _ _ ?_
    exact ⟨.bl false, H, I, rfl, q⟩
theorem op_neNil (hu : X.A.units < cLine) : OpR X (compareOp .NotEq) (rNeNil X.K) := by
  intro pins s σ H x y v u Q I rx ry h
  obtain ⟨a, b, xs, rfl, rfl, ha, hb, q⟩ := h
  cases rx
  cases ry
  obtain ⟨its, rv, p, hz⟩ := I.list ha
  obtain ⟨its2, rv2, p2, hz2⟩ := I.list hb
  cases rv2
  show wpAny _ _ (richCompare .NotEq (.ref a) (.ref b)) _ _ _
  cases rv with
  | nil =>
    refine SeqAt.RcNeAt.lists (e := fun _ => true) p.isList p2.isList rfl hu (fun j h1 h2 => absurd h1 (Nat.not_lt_zero _)) _ _ _ _ ?_
    exact ⟨.bl false, H, I, rfl, q⟩
  | cons r rr =>
    refine SeqAt.RcNeAt.lists_lengths p.isList p2.isList (by simp) hu _ _ _ _ ?_
    exact ⟨.bl true, H, I, rfl, q⟩
end
theorem hu0 {A : Around} {k : Nat} (hr : Room k A) : A.units < cLine := by
  have := hr.units
  omega
end SwA

end

section
set_option maxRecDepth 100000
set_option maxHeartbeats 4000000
/-! the errors' classes -/
namespace Sw
open PySem PySem.Spec PyProof.Rows L2 SwA
/-- a def of the text, as it stands behind the top -/
abbrev FD (K : PySem.W.Frag) (p : Str × Option Str) (x q : Str) (st : Stmt) : Prop := ∃ fd, FunD K x q (defArgs st) (defBody st) (defScope st) [] [] (He.fAd K p) fd
/-- it keeps a promise -/
def FnE (P : Program) (w : World) (K : PySem.W.Frag) (mg : Str → Option Value) (base : Heap) (CX : CXT) (k : Nat) (p : Str × Option Str) (ps : List Str) (sp : Sp) : Prop :=
  ∃ fd, FnOk P w K mg base CX k (He.fAd K p) fd ps sp ∧ Binds K fd ps [] ∧ PySem.W.keepIn K (.ref (He.fAd K p)) = true
/-- an error's class with an __init__ of its own, its fields -/
structure ExcC (K : PySem.W.Frag) (mg : Str → Option Value) (x : Str) (fields : List Str) : Prop where
  g : mg x = some (.ref (He.ga K x))
  o : OexC K (He.ga K x)
  i : PySem.W.findIn K (.ref (He.ga K x)) "__init__" = some (some (.ref (He.ma K (He.ga K x) "__init__")))
  t : PySem.W.typeIn K (.ref (He.ma K (He.ga K x) "__init__")) = some (.type "function")
  n : ∀ f ∈ fields, PySem.W.findIn K (.ref (He.ga K x)) f = some none
theorem excCB_ok {K : PySem.W.Frag} {h : Heap} {mg : Str → Option Value} (X : K.In h) (G : h.Ns mainGlobals mg) {x : Str} {fields : List Str} (c : excCB K x fields = true) : ExcC K mg x fields := by
  obtain ⟨c1, c⟩ := He.ba c
  obtain ⟨c2, c⟩ := He.ba c
  obtain ⟨c3, c⟩ := He.ba c
  obtain ⟨c4, c5⟩ := He.ba c
  exact ⟨He.glo_ok X G c1, oexB_ok c2, He.eqO_ok c3, of_decide_eq_true c4, fun f hf => He.eqO_ok (List.all_eq_true.mp c5 f hf)⟩
/-- SweepError, whose __init__ is ValueError's -/
structure BaseT (K : PySem.W.Frag) (mg : Str → Option Value) : Prop where
  g : mg "SweepError" = some (.ref (He.ga K "SweepError"))
  cr : ClX.CRead K (He.ga K "SweepError") (.type "type")
  vv : PySem.W.findCls K (.ref (He.ga K "SweepError")) (.type "type") "__init__" = some (.val (.builtin "ValueError.__init__"))
structure ErrT (K : PySem.W.Frag) (mg : Str → Option Value) : Prop where
  base : BaseT K mg
  syn : ExcC K mg "SyntaxFault" ["line", "column"]
  d_syn : FD K ("SyntaxFault", some "__init__") "__init__" "SyntaxFault.__init__" s_SyntaxFault_init
section
variable {P : Program} {w : World} {K : PySem.W.Frag} {mg : Str → Option Value} {base : Heap}
theorem sc_syn : FnScope ["self", "line", "column"] ["self", "line", "column"] (defScope s_SyntaxFault_init) := ⟨rfl, rfl, rfl, by decide +kernel, rfl, by decide +kernel, by decide +kernel⟩
theorem ok_syn (T : ErrT K mg) : FnE P w K mg base CX0 1 ("SyntaxFault", some "__init__") ["self", "line", "column"] (spFault (He.ga K "SyntaxFault") ["line", "column"]) := by
  obtain ⟨fd, F⟩ := T.d_syn
  refine ⟨fd, F.ok sc_syn (fun vs H Q E h => ?_) (fun cdv A outer s H vs Q E hr h => ?_), F.bindsN fun _ _ _ _ _ _ us hl => match us, hl with | [_, _, _], _ => rfl, F.kp⟩
  · obtain ⟨a, args, rfl, e, _⟩ := h
    simp [e]
  · obtain ⟨a, args, rfl, e, ha, k⟩ := h
    obtain ⟨v1, v2, rfl⟩ : ∃ v1 v2, args = [v1, v2] := by
      match args, e with
      | [v1, v2], _ => exact ⟨v1, v2, rfl⟩
    refine ⟨_, PSs.nox (pss_cons (ps_expr (pe_ownveinit rfl T.base.g T.base.cr T.base.vv (pa_cons (pv 0) (pa_cons (pv 1) (pa_cons (pv 2) pa_nil)))))
      (pss_cons (ps_ost (pv 0) (pv 1)) (pss_one (ps_ost (pv 0) (pv 2))))), ?_⟩
    refine ⟨_, rfl, _, rfl, _, rfl, a, _, _, rfl, by simp, T.syn.o, ha, ?_⟩
    refine ⟨_, rfl, _, rfl, a, _, rfl, T.syn.o, T.syn.n _ (by simp), Or.inl ⟨ha, fun dx ndx da => ?_⟩⟩
    refine ⟨_, rfl, _, rfl, a, _, rfl, T.syn.o, T.syn.n _ (by simp), Or.inr ⟨dx, _, upd_same, by rw [upd_ne da, upd_same], by simp, ?_⟩⟩
    exact k dx _ ndx da (by rw [upd_ne (Ne.symm da), upd_same]) upd_same fun b h1 h2 => by rw [upd_ne h2, upd_ne h1, upd_ne h2]
end
end Sw

end

section
set_option maxRecDepth 100000
set_option maxHeartbeats 4000000
/-! the lexer, walked -/
namespace Sw
open PySem PySem.Spec PyProof.Rows L2 SwA
/-- a class whose __init__ stores its arguments -/
structure MkC (K : PySem.W.Frag) (mg : Str → Option Value) (x : Str) (fields : List Str) : Prop where
  g : mg x = some (.ref (He.ga K x))
  m : Mk K (He.ga K x) (He.ma K (He.ga K x) "__init__")
  c : Cls K (He.ga K x)
  n : ∀ f ∈ fields, NoAttr K (He.ga K x) f
theorem mkCB_ok {K : PySem.W.Frag} {h : Heap} {mg : Str → Option Value} (X : K.In h) (G : h.Ns mainGlobals mg) {x : Str} {fields : List Str} (c : mkCB K x fields = true) : MkC K mg x fields := by
  obtain ⟨c1, c⟩ := He.ba c
  obtain ⟨c2, c⟩ := He.ba c
  obtain ⟨c3, c4⟩ := He.ba c
  exact ⟨He.glo_ok X G c1, He.mkr_ok c2, He.cls_ok c3, fun f hf => He.noat_ok (List.all_eq_true.mp c4 f hf)⟩
structure LexT (K : PySem.W.Frag) (mg : Str → Option Value) : Prop where
  e : ErrT K mg
  len : mg "len" = none
  enumerate : mg "enumerate" = none
  tok : MkC K mg "Token" tokF
  d_tok : FD K ("Token", some "__init__") "__init__" "Token.__init__" s_Token_init
  d_run_end : FD K ("run_end", none) "run_end" "run_end" s_run_end
  g_run_end : mg "run_end" = some (.ref (He.ga K "run_end"))
  d_read_token : FD K ("read_token", none) "read_token" "read_token" s_read_token
  g_read_token : mg "read_token" = some (.ref (He.ga K "read_token"))
  d_tokenize : FD K ("tokenize", none) "tokenize" "tokenize" s_tokenize
  g_tokenize : mg "tokenize" = some (.ref (He.ga K "tokenize"))
  SIGNS : ∃ t, mg "SIGNS" = some (.str ";" t)
  DIGITS : ∃ t, mg "DIGITS" = some (.str "0123456789" t)
  LETTERS : ∃ t, mg "LETTERS" = some (.str "abcdefghijklmnopqrstuvwxyz" t)
  SPACES : ∃ t, mg "SPACES" = some (.str " \n" t)
  SIGN : ∃ t, mg "SIGN" = some (.str "sign" t)
  NUMBER : ∃ t, mg "NUMBER" = some (.str "number" t)
  KEYWORD : ∃ t, mg "KEYWORD" = some (.str "keyword" t)
  NAME : ∃ t, mg "NAME" = some (.str "name" t)
  END : ∃ t, mg "END" = some (.str "end" t)
  MAX_DIGITS : ∃ t, mg "MAX_DIGITS" = some (.int 2 t)
  MAX_LETTERS : ∃ t, mg nMaxLetters = some (.int 8 t)
  KEYWORDS : mg "KEYWORDS" = some (.ref (He.ga K "KEYWORDS"))
  kws : ∀ H : Hp, SqT K H (He.ga K "KEYWORDS") (kws.map fun w => V.str (sx w))
/-- a token's object -/
def TokAt (K : PySem.W.Frag) (H : Hp) (a : Addr) (t : Tk) : Prop := ∃ dx, H a = some (.ins (He.ga K "Token") dx [("kind", .str t.kind.str), ("text", .str (sx t.text)), ("line", .int t.line), ("column", .int t.col)])
def synFs (line col : Nat) : List (Str × V) := [("column", .int col), ("line", .int line)]
/-- a SyntaxFault leaves -/
def Syn (K : PySem.W.Frag) (H : Hp) (E : XK) (line col : Nat) : Prop := ∀ (d : Addr) (H' : Hp), Same H H' → H' d = some (.xd (synFs line col)) → E (.ref (He.ga K "SyntaxFault")) (some d) H'
section
variable {P : Program} {w : World} {K : PySem.W.Frag} {mg : Str → Option Value} {base : Heap}
def spRunEnd : Sp := fun vs H Q _ => ∃ (row : Cs) (s : Nat) (z : Str), vs = [.str (sx row), .int s, .str z] ∧ row.length ≤ 100000 ∧ s ≤ row.length ∧
  Q (.int ((s + ((row.drop s).takeWhile fun c => decide (c ∈ z.cps.toList)).length : Nat) : Int)) H
theorem sc_run_end : FnScope ["row", "start", "letters", "end"] ["row", "start", "letters"] (defScope s_run_end) := ⟨rfl, rfl, rfl, by decide +kernel, rfl, by decide +kernel, by decide +kernel⟩
theorem len_sx (l : Cs) : (sx l).length = l.length := by simp [sx, Str.length]
theorem sz5 {n : Nat} (h : n ≤ 100000) : n ≤ sizeLine := Nat.le_trans h (by decide)
theorem tw_le (p : Nat → Bool) (l : Cs) : (l.takeWhile p).length ≤ l.length := (List.takeWhile_sublist p).length_le
theorem at_sx {l : Cs} {i : Nat} (h : i < l.length) : (sx l).cps[((i : Nat) : Int).toNat]? = some l[i] := by
  rw [Int.toNat_natCast]
  simp [sx, h]
theorem tw_in {p : Nat → Bool} : ∀ {l : Cs} {s i : Nat} (q : i < ((l.drop s).takeWhile p).length) (h : s + i < l.length), p l[s + i] = true
  | [], s, i, q, h => absurd h (by simp)
  | c :: r, 0, i, q, h => by
    rw [List.drop_zero] at q
    cases e : p c with
    | false => rw [List.takeWhile_cons, e] at q; simp at q
    | true =>
      rw [List.takeWhile_cons, e] at q
      cases i with
      | zero => simpa using e
      | succ i =>
        have z := tw_in (p := p) (l := r) (s := 0) (i := i) (by simpa using q) (by simpa using h)
        simpa using z
  | c :: r, s + 1, i, q, h => by
    have h' : s + i < r.length := by simp at h; omega
    have z := tw_in (p := p) (l := r) (s := s) (i := i) (by simpa using q) h'
    have e : s + 1 + i = (s + i) + 1 := by omega
    simp only [e, List.getElem_cons_succ]
    exact z
theorem tw_stop {p : Nat → Bool} : ∀ {l : Cs} {s i : Nat} (q : i = ((l.drop s).takeWhile p).length) (h : s + i < l.length), p l[s + i] = false
  | [], s, i, q, h => absurd h (by simp)
  | c :: r, 0, i, q, h => by
    rw [List.drop_zero] at q
    cases e : p c with
    | false =>
      rw [List.takeWhile_cons, e] at q
      simp at q
      subst q
      simpa using e
    | true =>
      rw [List.takeWhile_cons, e] at q
      simp at q
      subst q
      have z := tw_stop (p := p) (l := r) (s := 0) rfl (by simp at h; simpa using h)
      simpa using z
  | c :: r, s + 1, i, q, h => by
    have h' : s + i < r.length := by simp at h; omega
    have z := tw_stop (p := p) (l := r) (s := s) (i := i) (by simpa using q) h'
    have e : s + 1 + i = (s + i) + 1 := by omega
    simp only [e, List.getElem_cons_succ]
    exact z
theorem ok_run_end (T : LexT K mg) : FnE P w K mg base CX0 1 ("run_end", none) ["row", "start", "letters"] spRunEnd := by
  obtain ⟨fd, F⟩ := T.d_run_end
  refine ⟨fd, F.ok sc_run_end (fun vs H Q E h => ?_) (fun cdv A outer s H vs Q E hr h => ?_), F.bindsN fun _ _ _ _ _ _ us hl => match us, hl with | [_, _, _], _ => rfl, F.kp⟩
  · obtain ⟨row, s, z, rfl, _⟩ := h
    rfl
  · obtain ⟨row, s, z, rfl, hl, hs, k⟩ := h
    refine ⟨_, PSs.nox (pss_cons (ps_set (i := 3) sc_run_end.nd rfl (.inl rfl) (pv 1))
      (pss_cons (ps_while PassesOwn.never (PW.pt (pw_and (pt_cmpR op_lt (pv 3) (pe_callB call_len_str (by rfl) T.len boot_len (pa_cons (pv 0) pa_nil)) (nomark _))
          (pw_and1 (pt_cmpR op_in_sign (pe_item_str (pv 0) (pv 3) (fun _ _ => rfl)) (pv 2) rfl))))
        (pss_one (ps_aug (i := 3) sc_run_end.nd rfl (.inl rfl) pe_int ip_add)))
      (pss_one (ps_ret (pv 3))))), ?_⟩
    refine ⟨_, rfl, ?_⟩
    refine ⟨fun m σ H' => ∃ k : Nat, m + k = ((row.drop s).takeWhile fun c => decide (c ∈ z.cps.toList)).length ∧ H' = H ∧ σ = [some (.str (sx row)), some (.int s), some (.str z), some (.int ((s + k : Nat) : Int))], ⟨_, 0, rfl, rfl, rfl⟩, ?_⟩
    rintro m σ H' ⟨i, hm, rfl, rfl⟩
    refine ⟨_, rfl, _, rfl, _, rfl, by rw [len_sx]; exact sz5 hl, _, _, rfl, rfl, _, rfl, ?_⟩
    refine ite2 (fun h => ?_) (fun h => ?_)
    · have h' : s + i < row.length := by
        have h := of_decide_eq_true h
        rw [len_sx] at h
        omega
      refine ⟨_, rfl, _, rfl, sx row, ((s + i : Nat) : Int), row[s + i], rfl, rfl, by omega, by omega, by rw [len_sx]; omega, ?_, _, rfl, _, _, rfl, rfl, _, rfl, ?_⟩
      · exact at_sx h'
      · refine ite2 (fun h2 => ?_) (fun h2 => ?_)
        · have h2 : decide (row[s + i] ∈ z.cps.toList) = true := h2
          have lt : i < ((row.drop s).takeWhile fun c => decide (c ∈ z.cps.toList)).length := by
            refine Nat.lt_of_le_of_ne (by omega) fun e => ?_
            exact absurd h2 (by rw [tw_stop (p := fun c => decide (c ∈ z.cps.toList)) (l := row) (s := s) (i := i) e h']; exact Bool.false_ne_true)
          refine ⟨_, fun _ _ n => n, _, rfl, _, _, rfl, rfl, m - 1, by omega, i + 1, by omega, rfl, ?_⟩
          simp
          omega
        · have h2 : ¬ decide (row[s + i] ∈ z.cps.toList) = true := h2
          have e : i = ((row.drop s).takeWhile fun c => decide (c ∈ z.cps.toList)).length := by
            refine Nat.le_antisymm (by omega) (Nat.le_of_not_lt fun q => h2 ?_)
            exact tw_in (p := fun c => decide (c ∈ z.cps.toList)) (l := row) (s := s) (i := i) q h'
          refine ⟨_, rfl, ?_⟩
          rw [e]
          exact k
    · have h' : row.length ≤ s + i := by
        have h : ¬ ((s + i : Nat) : Int) < ((sx row).length : Int) := fun q => h (decide_eq_true q)
        rw [len_sx] at h
        omega
      have e : i = ((row.drop s).takeWhile fun c => decide (c ∈ z.cps.toList)).length := by
        have z1 : ((row.drop s).takeWhile fun c => decide (c ∈ z.cps.toList)).length ≤ (row.drop s).length := tw_le _ _
        rw [List.length_drop] at z1
        omega
      refine iteF ⟨_, rfl, ?_⟩
      rw [e]
      exact k
theorem putF_le (f : Str) (v : V) : ∀ fs : List (Str × V), (putF f v fs).length ≤ fs.length + 1
  | [] => by simp [putF]
  | (g, x) :: r => by
    unfold putF
    split
    · simp
    · have := putF_le f v r
      simp only [List.length_cons]
      omega
theorem ln0 : ([] : List (Str × V)).length ≤ 0 := Nat.le_refl 0
theorem lnS {f : Str} {v : V} {fs : List (Str × V)} {n : Nat} (h : fs.length ≤ n) : (putF f v fs).length ≤ n + 1 := Nat.le_trans (putF_le f v fs) (Nat.succ_le_succ h)
theorem lnZ {fs : List (Str × V)} {n : Nat} (h : fs.length ≤ n) (hn : n < 1000 := by decide) : fs.length < 1000 := Nat.lt_of_le_of_lt h hn
theorem sc_tok : FnScope ["self", "kind", "text", "line", "column"] ["self", "kind", "text", "line", "column"] (defScope s_Token_init) := ⟨rfl, rfl, rfl, by decide +kernel, rfl, by decide +kernel, by decide +kernel⟩
theorem put_tok (a b c d : V) : putF "column" d (putF "line" c (putF "text" b (putF "kind" a []))) = ([("kind", a), ("text", b), ("line", c), ("column", d)] : List (Str × V)) := by kernel_rfl
theorem ok_tok (T : LexT K mg) : FnE P w K mg base CX0 1 ("Token", some "__init__") ["self", "kind", "text", "line", "column"] (spInit (He.ga K "Token") tokF) := by
  obtain ⟨fd, F⟩ := T.d_tok
  refine ⟨fd, F.ok sc_tok (fun vs H Q E h => ?_) (fun cdv A outer s H vs Q E hr h => ?_), F.bindsN fun _ _ _ _ _ _ us hl => match us, hl with | [_, _, _, _, _], _ => rfl, F.kp⟩
  · obtain ⟨a, dx, args, rfl, e, _⟩ := h
    simp [e]
  · obtain ⟨p, dx, args, rfl, e, hp, k⟩ := h
    obtain ⟨v1, v2, v3, v4, rfl⟩ : ∃ v1 v2 v3 v4, args = [v1, v2, v3, v4] := by
      match args, e with
      | [v1, v2, v3, v4], _ => exact ⟨v1, v2, v3, v4, rfl⟩
    refine ⟨_, PSs.nox (pss_cons (ps_fld (pv 0) (pv 1) rfl) (pss_cons (ps_fld (pv 0) (pv 2) rfl) (pss_cons (ps_fld (pv 0) (pv 3) rfl) (pss_one (ps_fld (pv 0) (pv 4) rfl))))), ?_⟩
    refine ⟨_, rfl, _, rfl, p, _, dx, _, rfl, hp, T.tok.c, T.tok.n _ (by simp), lnZ ln0, ?_⟩
    refine ⟨_, rfl, _, rfl, p, _, dx, _, rfl, upd_same, T.tok.c, T.tok.n _ (by simp), lnZ (lnS ln0), ?_⟩
    refine ⟨_, rfl, _, rfl, p, _, dx, _, rfl, upd_same, T.tok.c, T.tok.n _ (by simp), lnZ (lnS (lnS ln0)), ?_⟩
    refine ⟨_, rfl, _, rfl, p, _, dx, _, rfl, upd_same, T.tok.c, T.tok.n _ (by simp), lnZ (lnS (lnS (lnS ln0))), ?_⟩
    refine k _ ?_ fun b hb => by rw [upd_ne hb, upd_ne hb, upd_ne hb, upd_ne hb]
    rw [upd_same, put_tok]
    rfl
end
end Sw

end

section
set_option maxRecDepth 100000
set_option maxHeartbeats 4000000
namespace Sw
open PySem PySem.Spec PyProof.Rows L2 SwA
section
variable {P : Program} {w : World} {K : PySem.W.Frag} {mg : Str → Option Value} {base : Heap}
/-! ### texts as codes -/
theorem mem_digits (c : Nat) : decide (c ∈ ("0123456789" : Str).cps.toList) = isD c := by
  have e : ("0123456789" : Str).cps.toList = [48, 49, 50, 51, 52, 53, 54, 55, 56, 57] := by decide +kernel
  rw [e]
  simp only [isD, List.mem_cons, List.not_mem_nil, or_false]
  rw [Bool.eq_iff_iff]
  simp
  omega
theorem mem_letters (c : Nat) : decide (c ∈ ("abcdefghijklmnopqrstuvwxyz" : Str).cps.toList) = isL c := by
  have e : ("abcdefghijklmnopqrstuvwxyz" : Str).cps.toList = [97, 98, 99, 100, 101, 102, 103, 104, 105, 106, 107, 108, 109, 110, 111, 112, 113, 114, 115, 116, 117, 118, 119, 120, 121, 122] := by decide +kernel
  rw [e]
  simp only [isL, List.mem_cons, List.not_mem_nil, or_false]
  rw [Bool.eq_iff_iff]
  simp
  omega
theorem mem_signs (c : Nat) : decide (c ∈ (";" : Str).cps.toList) = decide (c = 59) := by
  have e : (";" : Str).cps.toList = [59] := by decide +kernel
  rw [e]
  simp
theorem mem_spaces (c : Nat) : decide (c ∈ (" \n" : Str).cps.toList) = isS c := by
  have e : (" \n" : Str).cps.toList = [32, 10] := by decide +kernel
  rw [e]
  simp [isS, Bool.decide_or, BEq.beq]
/-- a slice of a row -/
theorem cut_sx {l : Cs} {a n : Nat} (h : a + n ≤ l.length) : cutS (sx l) (some (a : Int)) (some ((a + n : Nat) : Int)) = sx ((l.drop a).take n) := by
  unfold cutS
  rw [HT.sIx_nat, HT.sIx_nat, len_sx, Nat.min_eq_left h, Nat.min_eq_left (by omega : a ≤ l.length), Nat.add_sub_cancel_left]
  rfl
theorem tw_take (p : Nat → Bool) : ∀ l : Cs, l.take (l.takeWhile p).length = l.takeWhile p
  | [] => rfl
  | c :: r => by
    cases e : p c with
    | false => simp [List.takeWhile_cons, e]
    | true => simp [List.takeWhile_cons, e, tw_take p r]
theorem eq_str_sx (a b : Cs) : eqV (V.str (sx a)) (V.str (sx b)) = decide (a = b) := by
  show (sx a == sx b) = decide (a = b)
  rw [Bool.eq_iff_iff, beq_iff_eq, decide_eq_true_iff]
  exact ⟨fun h => sx_inj h, fun h => by rw [h]⟩
theorem inV_sx (a : Cs) (l : List Cs) : inV (V.str (sx a)) (l.map fun w => V.str (sx w)) = decide (a ∈ l) := by
  unfold inV
  induction l with
  | nil => simp
  | cons b r ih =>
    rw [List.map_cons, List.any_cons, ih, eq_str_sx]
    rw [Bool.eq_iff_iff]
    simp only [Bool.or_eq_true, decide_eq_true_eq, List.mem_cons]
    exact or_congr ⟨Eq.symm, Eq.symm⟩ Iff.rfl
theorem flat_sx (l : List Cs) : (l.map fun w => V.str (sx w)).all flatV = true := by
  induction l with
  | nil => rfl
  | cons b r ih => rw [List.map_cons, List.all_cons, ih]; rfl
theorem sign_inj {c d : Nat} {z : Str} (h : (⟨#[c]⟩ : Str) = z) (e : z = ⟨#[d]⟩) : c = d := by
  rw [e] at h
  injection h with h
  injection h with h
  injection h
/-! ### read_token -/
def spReadTok (K : PySem.W.Frag) : Sp := fun vs H Q E => ∃ (row : Cs) (line col : Nat), vs = [.str (sx row), .int line, .int col] ∧ row.length ≤ 100000 ∧ col < row.length ∧
  (∀ t, readTok line col (row.drop col) = some t → ∀ (a : Addr) (H' : Hp), H a = none → Same H H' → TokAt K H' a t → Q (.ref a) H') ∧
  (readTok line col (row.drop col) = none → Syn K H E line col)
theorem sc_read_token : FnScope ["row", "line", "column", "first", "word"] ["row", "line", "column"] (defScope s_read_token) := ⟨rfl, rfl, rfl, by decide +kernel, rfl, by decide +kernel, by decide +kernel⟩
theorem ok_read_token (T : LexT K mg) : FnE P w K mg base (L2.CX P w) 3 ("read_token", none) ["row", "line", "column"] (spReadTok K) := by
  obtain ⟨fd, F⟩ := T.d_read_token
  obtain ⟨fdR, GR, bR, kR⟩ := ok_run_end (P := P) (w := w) (base := base) T
  obtain ⟨fdT, GT, bT, kT⟩ := ok_tok (P := P) (w := w) (base := base) T
  obtain ⟨fdS, GS, bS, kS⟩ := ok_syn (P := P) (w := w) (base := base) T.e
  obtain ⟨t1, mSIGNS⟩ := T.SIGNS
  obtain ⟨t2, mDIGITS⟩ := T.DIGITS
  obtain ⟨t3, mLETTERS⟩ := T.LETTERS
  obtain ⟨t4, mSIGN⟩ := T.SIGN
  obtain ⟨t5, mNUMBER⟩ := T.NUMBER
  obtain ⟨t6, mKEYWORD⟩ := T.KEYWORD
  obtain ⟨t7, mNAME⟩ := T.NAME
  obtain ⟨t8, mMAXD⟩ := T.MAX_DIGITS
  obtain ⟨t9, mMAXL⟩ := T.MAX_LETTERS
  refine ⟨fd, F.ok sc_read_token (fun vs H Q E h => ?_) (fun cdv A outer s H vs Q E hr h => ?_), F.bindsN fun _ _ _ _ _ _ us hl => match us, hl with | [_, _, _], _ => rfl, F.kp⟩
  · obtain ⟨row, line, col, rfl, _⟩ := h
    rfl
  · obtain ⟨row, line, col, rfl, hl, hc, hT, hE⟩ := h
    have hr1 : Room 1 _ := hr.mono (by decide)
    refine ⟨_, (pss_cons (ps_set (i := 3) sc_read_token.nd rfl (.inl rfl) (pe_item_str (pv 0) (pv 2) (fun _ _ => rfl)))
      (pss_cons (ps_if (pt_cmpR op_in_sign (pv 3) (pe_glob (v := .str ";") rfl mSIGNS ⟨_, rfl⟩) rfl)
          (pss_one (ps_ret (pe_make T.tok.m GT hr rfl T.tok.g bT .nil pass0 (pa_cons (pe_glob (v := .str "sign") rfl mSIGN ⟨_, rfl⟩) (pa_cons (pv 3) (pa_cons (pv 1) (pa_cons (pv 2) pa_nil)))))))
          pss_nil)
      (pss_cons (ps_if (pt_cmpR op_in_sign (pv 3) (pe_glob (v := .str "0123456789") rfl mDIGITS ⟨_, rfl⟩) rfl)
          (pss_cons (ps_set (i := 4) sc_read_token.nd rfl (.inl rfl) (pe_slice sl_str (pv 0) (po_some (pv 2)) (po_some (pe_call GR hr1 rfl T.g_run_end kR bR .nil pass0
              (pa_cons (pv 0) (pa_cons (pv 2) (pa_cons (pe_glob (v := .str "0123456789") rfl mDIGITS ⟨_, rfl⟩) pa_nil)))))))
          (pss_cons (ps_if (PW.pt (pw_or (pt_cmpR op_gt (pe_callB call_len_str (by rfl) T.len boot_len (pa_cons (pv 4) pa_nil)) (pe_glob (v := .int 2) rfl mMAXD ⟨_, rfl⟩) (nomark _))
              (pw_or1 (PW.pt (pw_and (pt_cmpR op_gt (pe_callB call_len_str (by rfl) T.len boot_len (pa_cons (pv 4) pa_nil)) pe_int (nomark _)) (pw_and1 (pt_cmpR op_eq (pv 3) pe_str (nomark _))))))))
              (pss_one (ps_raise rfl (takes_of rfl rfl rfl rfl) (pmk_oex T.e.syn.o T.e.syn.i T.e.syn.t GS hr bS .nil pass0 rfl T.e.syn.g (pa_cons (pv 1) (pa_cons (pv 2) pa_nil)))))
              pss_nil)
          (pss_one (ps_ret (pe_make T.tok.m GT hr rfl T.tok.g bT .nil pass0 (pa_cons (pe_glob (v := .str "number") rfl mNUMBER ⟨_, rfl⟩) (pa_cons (pv 4) (pa_cons (pv 1) (pa_cons (pv 2) pa_nil)))))))))
          pss_nil)
      (pss_cons (ps_set (i := 4) sc_read_token.nd rfl (.inl rfl) (pe_slice sl_str (pv 0) (po_some (pv 2)) (po_some (pe_call GR hr1 rfl T.g_run_end kR bR .nil pass0
              (pa_cons (pv 0) (pa_cons (pv 2) (pa_cons (pe_glob (v := .str "abcdefghijklmnopqrstuvwxyz") rfl mLETTERS ⟨_, rfl⟩) pa_nil)))))))
      (pss_cons (ps_if (pt_cmpR op_in_seq (pv 4) (pe_glob (v := .ref (He.ga K "KEYWORDS")) rfl T.KEYWORDS rfl) rfl)
          (pss_one (ps_ret (pe_make T.tok.m GT hr rfl T.tok.g bT .nil pass0 (pa_cons (pe_glob (v := .str "keyword") rfl mKEYWORD ⟨_, rfl⟩) (pa_cons (pv 4) (pa_cons (pv 1) (pa_cons (pv 2) pa_nil)))))))
          pss_nil)
      (pss_cons (ps_if (pt_not (pt_chain op_le op_le pe_int (pe_callB call_len_str (by rfl) T.len boot_len (pa_cons (pv 4) pa_nil)) (pe_glob (v := .int 8) rfl mMAXL ⟨_, rfl⟩)))
          (pss_one (ps_raise rfl (takes_of rfl rfl rfl rfl) (pmk_oex T.e.syn.o T.e.syn.i T.e.syn.t GS hr bS .nil pass0 rfl T.e.syn.g (pa_cons (pv 1) (pa_cons (pv 2) pa_nil)))))
          pss_nil)
      (pss_one (ps_ret (pe_make T.tok.m GT hr rfl T.tok.g bT .nil pass0 (pa_cons (pe_glob (v := .str "name") rfl mNAME ⟨_, rfl⟩) (pa_cons (pv 4) (pa_cons (pv 1) (pa_cons (pv 2) pa_nil))))))))))))), ?_⟩
    have e0 : row.drop col = row[col] :: row.drop (col + 1) := List.drop_eq_getElem_cons hc
    have fin : ∀ (kd : Kd) (tx : Cs) (z : Str), z = kd.str → readTok line col (row.drop col) = some ⟨kd, tx, line, col⟩ → ∀ (x : Addr) (H2 : Hp), H x = none → Same H H2 →
        (∃ dx, H2 x = some (.ins (He.ga K "Token") dx (tokF.zip [.str z, .str (sx tx), .int line, .int col]))) → Q (.ref x) H2 := fun kd tx z ez er x H2 nx sm hx => by
      subst ez
      exact hT _ er x H2 nx sm hx
    have bad : readTok line col (row.drop col) = none → ∀ (d : Addr) (H2 : Hp), H d = none → Same H H2 → H2 d = some (.xd ((["line", "column"] : List Str).zip [V.int line, V.int col]).reverse) → E (.ref (He.ga K "SyntaxFault")) (some d) H2 :=
      fun er d H2 _ sm hx => hE er d H2 sm hx
    refine ⟨_, rfl, _, rfl, sx row, (col : Int), row[col], rfl, rfl, by omega, by omega, by rw [len_sx]; omega, at_sx hc, ?_⟩
    refine ⟨_, rfl, row[col], ";", rfl, rfl, _, rfl, ?_⟩
    refine ite2 (fun h => ?_) (fun h => ?_)
    · -- a sign
      have h1 : row[col] = 59 := by
        have h := h
        rw [mem_signs] at h
        exact of_decide_eq_true h
      refine ⟨_, rfl, _, rfl, _, rfl, mk_at rfl ?_⟩
      have e1 : (⟨#[row[col]]⟩ : Str) = sx [59] := by rw [h1]; rfl
      rw [e1]
      refine fin .sign [59] "sign" rfl ?_
      rw [e0]
      simp [readTok, h1]
    have h1 : row[col] ≠ 59 := by
      have h := h
      rw [mem_signs] at h
      exact fun q => h (decide_eq_true q)
    refine ⟨_, rfl, row[col], "0123456789", rfl, rfl, _, rfl, ?_⟩
    refine ite2 (fun h => ?_) (fun h => ?_)
    · -- a number
      have h2 : isD row[col] = true := by
        have h := h
        rw [mem_digits] at h
        exact h
      have ew : ((row.drop col).takeWhile fun c => decide (c ∈ ("0123456789" : Str).cps.toList)) = (row.drop col).takeWhile isD := by
        congr 1
        exact funext mem_digits
      have hle : col + ((row.drop col).takeWhile isD).length ≤ row.length := by
        have z := tw_le isD (row.drop col)
        rw [List.length_drop] at z
        omega
      refine ⟨_, rfl, _, rfl, _, rfl, _, rfl, _, rfl, row, col, _, rfl, hl, Nat.le_of_lt hc, ?_⟩
      rw [ew]
      refine ⟨_, rfl, sx row, rfl, by rw [len_sx]; exact sz5 hl, ?_⟩
      rw [cut_sx hle, tw_take]
      have hz : (sx ((row.drop col).takeWhile isD)).length ≤ sizeLine := by
        rw [len_sx]
        exact sz5 (by omega)
      refine ⟨_, rfl, _, rfl, hz, _, _, rfl, rfl, _, rfl, ?_⟩
      have rd : readTok line col (row.drop col) = if 2 < ((row.drop col).takeWhile isD).length ∨ (1 < ((row.drop col).takeWhile isD).length ∧ row[col] = 48) then none else some ⟨.number, (row.drop col).takeWhile isD, line, col⟩ := by
        conv => lhs; rw [e0]
        simp only [readTok, if_neg h1, if_pos h2]
        rw [← e0]
      have ok2 : ¬ (2 < ((row.drop col).takeWhile isD).length ∨ (1 < ((row.drop col).takeWhile isD).length ∧ row[col] = 48)) → ∀ (x : Addr) (H2 : Hp), H x = none → Same H H2 →
          (∃ dx, H2 x = some (.ins (He.ga K "Token") dx (tokF.zip [.str "number", .str (sx ((row.drop col).takeWhile isD)), .int line, .int col]))) → Q (.ref x) H2 :=
        fun q => fin .number _ "number" rfl (by rw [rd, if_neg q])
      have bad2 : (2 < ((row.drop col).takeWhile isD).length ∨ (1 < ((row.drop col).takeWhile isD).length ∧ row[col] = 48)) → ∀ (d : Addr) (H2 : Hp), H d = none → Same H H2 → H2 d = some (.xd ((["line", "column"] : List Str).zip [V.int line, V.int col]).reverse) → E (.ref (He.ga K "SyntaxFault")) (some d) H2 :=
        fun q => bad (by rw [rd, if_pos q])
      rw [len_sx]
      refine ite2 (fun h3 => ?_) (fun h3 => ?_)
      · have h3 := of_decide_eq_true h3
        refine iteT ⟨_, rfl, _, rfl, fault_at rfl (by simp) (bad2 (Or.inl (by omega)))⟩
      · have h3 : ¬ (2 : Int) < ((((row.drop col).takeWhile isD).length : Nat) : Int) := fun q => h3 (decide_eq_true q)
        refine ⟨_, rfl, _, rfl, hz, _, _, rfl, rfl, _, rfl, ?_⟩
        rw [len_sx]
        refine ite2 (fun h4 => ?_) (fun h4 => ?_)
        · have h4 := of_decide_eq_true h4
          refine ⟨_, rfl, rfl, _, rfl, ?_⟩
          refine ite2 (fun h5 => ?_) (fun h5 => ?_)
          · have h5 := V.str.inj (of_decide_eq_true h5)
            have h6 : row[col] = 48 := sign_inj h5 (by decide +kernel)
            exact ⟨_, rfl, _, rfl, fault_at rfl (by simp) (bad2 (Or.inr ⟨by omega, h6⟩))⟩
          · have h6 : row[col] ≠ 48 := fun q => h5 (decide_eq_true (by rw [q]; decide +kernel))
            exact ⟨_, rfl, _, rfl, _, rfl, mk_at rfl (ok2 (by
              rintro (q | q)
              · omega
              · exact h6 q.2))⟩
        · have h4 : ¬ (1 : Int) < ((((row.drop col).takeWhile isD).length : Nat) : Int) := fun q => h4 (decide_eq_true q)
          refine iteF ⟨_, rfl, _, rfl, _, rfl, mk_at rfl (ok2 (by
              rintro (q | q)
              · omega
              · omega))⟩
    · -- a word
      have h2 : ¬ isD row[col] = true := by
        have h := h
        rw [mem_digits] at h
        exact h
      have ew : ((row.drop col).takeWhile fun c => decide (c ∈ ("abcdefghijklmnopqrstuvwxyz" : Str).cps.toList)) = (row.drop col).takeWhile isL := by
        congr 1
        exact funext mem_letters
      have hle : col + ((row.drop col).takeWhile isL).length ≤ row.length := by
        have z := tw_le isL (row.drop col)
        rw [List.length_drop] at z
        omega
      have rd : readTok line col (row.drop col) = if (row.drop col).takeWhile isL ∈ kws then some ⟨.keyword, (row.drop col).takeWhile isL, line, col⟩
          else if 1 ≤ ((row.drop col).takeWhile isL).length ∧ ((row.drop col).takeWhile isL).length ≤ 8 then some ⟨.name, (row.drop col).takeWhile isL, line, col⟩ else none := by
        conv => lhs; rw [e0]
        simp only [readTok, if_neg h1, if_neg h2]
        rw [← e0]
      refine ⟨_, rfl, _, rfl, _, rfl, _, rfl, _, rfl, row, col, _, rfl, hl, Nat.le_of_lt hc, ?_⟩
      rw [ew]
      refine ⟨_, rfl, sx row, rfl, by rw [len_sx]; exact sz5 hl, ?_⟩
      rw [cut_sx hle, tw_take]
      have hz : (sx ((row.drop col).takeWhile isL)).length ≤ sizeLine := by
        rw [len_sx]
        exact sz5 (by omega)
      refine ⟨_, rfl, _, _, rfl, Or.inr (T.kws H), rfl, flat_sx kws, _, rfl, ?_⟩
      refine ite2 (fun h3 => ?_) (fun h3 => ?_)
      · have h3 : (row.drop col).takeWhile isL ∈ kws := by
          have h3 : inV (V.str (sx ((row.drop col).takeWhile isL))) (kws.map fun w => V.str (sx w)) = true := h3
          rw [inV_sx] at h3
          exact of_decide_eq_true h3
        exact ⟨_, rfl, _, rfl, _, rfl, mk_at rfl (fin .keyword _ "keyword" rfl (by rw [rd, if_pos h3]))⟩
      · have h3 : ¬ (row.drop col).takeWhile isL ∈ kws := fun q => h3 (by
          show inV (V.str (sx ((row.drop col).takeWhile isL))) (kws.map fun w => V.str (sx w)) = true
          rw [inV_sx]
          exact decide_eq_true q)
        refine ⟨_, rfl, _, rfl, hz, ?_⟩
        rw [len_sx]
        refine ⟨_, _, rfl, rfl, _, rfl, ?_⟩
        refine ite2 (fun h4 => ?_) (fun h4 => ?_)
        · have h4 := of_decide_eq_true h4
          refine ⟨_, _, rfl, rfl, _, rfl, ?_⟩
          refine ite2 (fun h5 => ?_) (fun h5 => ?_)
          · have h5 : ¬ ((((row.drop col).takeWhile isL).length : Nat) : Int) ≤ 8 := fun q => by
              rw [decide_eq_true q] at h5
              exact absurd h5 (by decide)
            exact ⟨_, rfl, _, rfl, fault_at rfl (by simp) (bad (by rw [rd, if_neg h3, if_neg (by omega)]))⟩
          · have h5 : ((((row.drop col).takeWhile isL).length : Nat) : Int) ≤ 8 := Decidable.byContradiction fun q => h5 (by rw [decide_eq_false q]; rfl)
            exact ⟨_, rfl, _, rfl, _, rfl, mk_at rfl (fin .name _ "name" rfl (by rw [rd, if_neg h3, if_pos (by omega)]))⟩
        · have h4 : ¬ (1 : Int) ≤ ((((row.drop col).takeWhile isL).length : Nat) : Int) := fun q => h4 (decide_eq_true q)
          exact ⟨_, rfl, iteT ⟨_, rfl, _, rfl, fault_at rfl (by simp) (bad (by rw [rd, if_neg h3, if_neg (by omega)]))⟩⟩
end
end Sw

end

section
set_option maxRecDepth 100000
set_option maxHeartbeats 4000000
namespace Sw
open PySem PySem.Spec PyProof.Rows L2 SwA
section
variable {P : Program} {w : World} {K : PySem.W.Frag} {mg : Str → Option Value} {base : Heap}
/-! ### the rows -/
theorem split_sx (text : Cs) : Txt.split (sx text) "\n" = (rowsOf text).map sx := by
  refine TL.map_tl_inj ?_
  have e : TL.tl ("\n" : Str) = [10] := by decide +kernel
  rw [TL.split_spl (sx text) "\n" (by rw [e]; simp) (TL.kind_ok (by decide +kernel)), e, List.map_map]
  show rowsOf text = (rowsOf text).map (fun l => l)
  rw [List.map_id']
theorem spl_sum : ∀ (l acc : Cs), ((TL.spl [10] 0 acc l).map List.length).sum ≤ acc.length + l.length
  | [], acc => by simp [TL.spl]
  | c :: r, acc => by
    unfold TL.spl
    split
    · have z := spl_sum r []
      simp only [List.map_cons, List.sum_cons, List.length_cons, List.length_nil] at z ⊢
      have z2 : ((TL.spl [10] (0 + 1 - 1) [] r).map List.length).sum ≤ 0 + r.length := z
      omega
    · have z := spl_sum r (acc ++ [c])
      simp only [List.length_append, List.length_cons, List.length_nil] at z ⊢
      omega
theorem rows_sum (text : Cs) : ((rowsOf text).map List.length).sum ≤ text.length := by
  have z := spl_sum text []
  rw [List.length_nil, Nat.zero_add] at z
  exact z
theorem sum_take : ∀ (l : List Nat) (i : Nat), (l.take i).sum ≤ l.sum
  | [], i => by simp
  | a :: r, 0 => by simp
  | a :: r, i + 1 => by
    have z := sum_take r i
    simp only [List.take_succ_cons, List.sum_cons]
    omega
theorem sum_take_succ {l : List Nat} {i a : Nat} (h : l[i]? = some a) : (l.take (i + 1)).sum = (l.take i).sum + a := by
  rw [List.take_succ, h]
  simp
theorem spl_ne (l acc : Cs) : TL.spl [10] 0 acc l ≠ [] := by
  cases l with
  | nil => simp [TL.spl]
  | cons c r =>
    unfold TL.spl
    split
    · simp
    · exact spl_ne r (acc ++ [c])
theorem spl_len : ∀ (l acc : Cs), (TL.spl [10] 0 acc l).length ≤ l.length + 1
  | [], acc => by simp [TL.spl]
  | c :: r, acc => by
    unfold TL.spl
    split
    · have z := spl_len r []
      have z2 : (TL.spl [10] ([10].length - 1) [] r).length ≤ r.length + 1 := z
      simp only [List.length_cons] at z2 ⊢
      omega
    · have z := spl_len r (acc ++ [c])
      simp only [List.length_cons]
      omega
/-! ### the tokens' objects -/
abbrev TksAt (K : PySem.W.Frag) (H : Hp) (tas : List Addr) (ts : List Tk) : Prop := Paired (fun a t => TokAt K H a t) tas ts
theorem TokAt.same {H H' : Hp} {a : Addr} {t : Tk} (s : Same H H') (h : TokAt K H a t) : TokAt K H' a t := let ⟨dx, e⟩ := h; ⟨dx, s _ _ e⟩
theorem TksAt.same {H H' : Hp} {tas : List Addr} {ts : List Tk} (s : Same H H') (h : TksAt K H tas ts) : TksAt K H' tas ts := Paired.mapP h fun _ _ x => x.same s
theorem TokAt.upd {H : Hp} {a l : Addr} {xs ys : List V} {t : Tk} (hl : H l = some (.lst xs)) (h : TokAt K H a t) : TokAt K (upd H l (.lst ys)) a t := by
  obtain ⟨dx, e⟩ := h
  exact ⟨dx, by rw [upd_ne (ne_of e hl (by intro z; cases z))]; exact e⟩
theorem TksAt.upd {H : Hp} {l : Addr} {xs ys : List V} {tas : List Addr} {ts : List Tk} (hl : H l = some (.lst xs)) (h : TksAt K H tas ts) : TksAt K (L2.upd H l (.lst ys)) tas ts := Paired.mapP h fun _ _ x => x.upd hl
theorem Paired_snoc {α β : Type} {F : α → β → Prop} : ∀ {l : List α} {m : List β} {a : α} {b : β}, Paired F l m → F a b → Paired F (l ++ [a]) (m ++ [b])
  | _, _, _, _, .nil, h => .cons h .nil
  | _, _, _, _, .cons x r, h => .cons x (Paired_snoc r h)
theorem sameUpd {H H' : Hp} {p : Addr} {o : HO} (s : Same H H') (h : H p = none) : Same H (upd H' p o) := fun b u e => by
  rw [upd_ne (ne_of_none e h)]
  exact s b u e
theorem Syn.mono {H H' : Hp} {E : XK} {l c : Nat} (h : Syn K H E l c) (s : Same H H') : Syn K H' E l c := fun d H2 s2 e => h d H2 (s.trans s2) e
theorem lk_text {a b c d : V} : List.lookup ("text" : Str) ([("kind", a), ("text", b), ("line", c), ("column", d)] : List (Str × V)) = some b := by kernel_rfl
theorem lk_kind {a b c d : V} : List.lookup ("kind" : Str) ([("kind", a), ("text", b), ("line", c), ("column", d)] : List (Str × V)) = some a := by kernel_rfl
theorem lk_line {a b c d : V} : List.lookup ("line" : Str) ([("kind", a), ("text", b), ("line", c), ("column", d)] : List (Str × V)) = some c := by kernel_rfl
theorem lk_col {a b c d : V} : List.lookup ("column" : Str) ([("kind", a), ("text", b), ("line", c), ("column", d)] : List (Str × V)) = some d := by kernel_rfl
theorem str_nil : ("" : Str) = sx [] := by decide +kernel
/-! ### tokenize -/
def spTokenize (K : PySem.W.Frag) : Sp := fun vs H Q E => ∃ text : Cs, vs = [.str (sx text)] ∧ text.length ≤ 90000 ∧
  (∀ ts, tokenize text = .ok ts → ∀ (a : Addr) (tas : List Addr) (H' : Hp), H a = none → Same H H' → H' a = some (.lst (tas.map V.ref)) → TksAt K H' tas ts → Q (.ref a) H') ∧
  (∀ l c, tokenize text = .error (l, c) → Syn K H E l c)
theorem sc_tokenize : FnScope ["source", "tokens", "rows", "line", "row", "column", "token"] ["source"] (defScope s_tokenize) := ⟨rfl, rfl, rfl, by decide +kernel, rfl, by decide +kernel, by decide +kernel⟩
/-- what is left of the rows, what is done -/
def RowsInv (rows : List Cs) (i : Nat) (done : List Tk) : Prop :=
  (∀ e, lexRows i (rows.drop i) = .error e → lexRows 0 rows = .error e) ∧ (∀ us, lexRows i (rows.drop i) = .ok us → lexRows 0 rows = .ok (done ++ us))
def RowInv (line : Nat) (row : Cs) (f c : Nat) (done : List Tk) : Prop :=
  (row.drop c).length ≤ f ∧ (∀ e, lexRow line f c (row.drop c) = .error e → lexRow line row.length 0 row = .error e) ∧ (∀ us, lexRow line f c (row.drop c) = .ok us → lexRow line row.length 0 row = .ok (done ++ us))
theorem readTok_len {line col : Nat} {rest : Cs} {t : Tk} (h : readTok line col rest = some t) : 1 ≤ t.text.length ∧ t.text.length ≤ rest.length := by
  unfold readTok at h
  split at h
  · cases h
  · rename_i c r
    split at h
    · cases h; simp
    · split at h
      · rename_i hd
        split at h
        · cases h
        · cases h
          have z := tw_le isD (c :: r)
          refine ⟨?_, z⟩
          simp [List.takeWhile_cons, hd]
      · split at h
        · rename_i hk
          cases h
          refine ⟨?_, tw_le isL (c :: r)⟩
          refine Nat.pos_of_ne_zero fun z => ?_
          have z' : (c :: r).takeWhile isL = [] := List.length_eq_zero_iff.mp z
          rw [z'] at hk
          exact absurd hk (by decide)
        · split at h
          · rename_i hk
            cases h
            exact ⟨hk.1, tw_le isL (c :: r)⟩
          · cases h
theorem ok_tokenize (T : LexT K mg) : FnE P w K mg base (L2.CX P w) 4 ("tokenize", none) ["source"] (spTokenize K) := by
  obtain ⟨fd, F⟩ := T.d_tokenize
  obtain ⟨fdR, GR, bR, kR⟩ := ok_read_token (P := P) (w := w) (base := base) T
  obtain ⟨fdT, GT, bT, kT⟩ := ok_tok (P := P) (w := w) (base := base) T
  obtain ⟨t1, mSPACES⟩ := T.SPACES
  obtain ⟨t2, mEND⟩ := T.END
  refine ⟨fd, F.ok sc_tokenize (fun vs H Q E h => ?_) (fun cdv A outer s H vs Q E hr h => ?_), F.bindsN fun _ _ _ _ _ _ us hl => match us, hl with | [_], _ => rfl, F.kp⟩
  · obtain ⟨text, rfl, _⟩ := h
    rfl
  · obtain ⟨text, rfl, hl, hT, hE⟩ := h
    have hr1 : Room 2 _ := hr.mono (by decide)
    refine ⟨_, (pss_cons (ps_set (i := 1) sc_tokenize.nd rfl (.inl rfl) (pe_lst pa_nil))
      (pss_cons (ps_set (i := 2) sc_tokenize.nd rfl (.inl rfl) (pe_split (pv 0) pe_str))
      (pss_cons (ps_for (passes_of rfl) rfl (pi_enum (by rfl) T.enumerate (pa_cons (pv 2) pa_nil)) (pg_tup rfl (pgs_cons (pg_name (i := 3) sc_tokenize.nd rfl (.inl rfl)) (pgs_cons (pg_name (i := 4) sc_tokenize.nd rfl (.inl rfl)) pgs_nil)))
        (pss_cons (ps_set (i := 5) sc_tokenize.nd rfl (.inl rfl) pe_int)
        (pss_one (ps_while (passes_of rfl) (pt_cmpR op_lt (pv 5) (pe_callB call_len_str (by rfl) T.len boot_len (pa_cons (pv 4) pa_nil)) (nomark _))
          (pss_one (ps_if (pt_cmpR op_in_sign (pe_item_str (pv 4) (pv 5) (fun _ _ => rfl)) (pe_glob (v := .str " \n") rfl mSPACES ⟨_, rfl⟩) rfl)
            (pss_one (ps_aug (i := 5) sc_tokenize.nd rfl (.inl rfl) pe_int ip_add))
            (pss_cons (ps_set (i := 6) sc_tokenize.nd rfl (.inl rfl) (pe_call GR hr rfl T.g_read_token kR bR .nil (passes_call (takes_of rfl rfl rfl rfl) (fun _ _ _ _ h => h)) (pa_cons (pv 4) (pa_cons (pv 3) (pa_cons (pv 5) pa_nil)))))
            (pss_cons (ps_expr (pe_bm PySem.F.plainAttrs_list PySem.F.slot_list_append PySem.F.type_list_append mt_append (pv 1) (pa_cons (pv 6) pa_nil)))
            (pss_one (ps_aug (i := 5) sc_tokenize.nd rfl (.inl rfl) (pe_callB call_len_str (by rfl) T.len boot_len (pa_cons (pe_fld (pv 6) rfl) pa_nil)) ip_add))))))))))
      (pss_one (ps_ret (pe_op op_cat (pv 1) (pe_lst (pa_cons (pe_make T.tok.m GT hr1 rfl T.tok.g bT .nil pass0 (pa_cons (pe_glob (v := .str "end") rfl mEND ⟨_, rfl⟩) (pa_cons pe_str (pa_cons (pe_callB call_len_seq (by rfl) T.len boot_len (pa_cons (pv 2) pa_nil)) (pa_cons pe_int pa_nil))))) pa_nil)))))))), ?_⟩
    refine ⟨by simp, fun tl ntl => ?_⟩
    refine ⟨_, rfl, ⟨_, rfl⟩, sx text, "\n", rfl, rfl, by decide +kernel, by rw [len_sx, sizeLine_eq]; omega, ?_⟩
    rw [split_sx]
    intro rl nrl
    have ntr : rl ≠ tl := by
      rintro rfl
      rw [upd_same] at nrl
      cases nrl
    have nrl' : H rl = none := by
      rw [upd_ne ntr] at nrl
      exact nrl
    refine ⟨_, rfl, rl, _, rfl, SqL.of upd_same, for_it (walk_enum (K := K) (a := rl) (xs := ((rowsOf text).map sx).map V.str)) (fun i σ H' => ∃ (done : List Tk) (tas : List Addr) (o3 o4 o5 o6 : Option V),
        σ = [some (.str (sx text)), some (.ref tl), some (.ref rl), o3, o4, o5, o6] ∧ Same H H' ∧ H' tl = some (.lst (tas.map V.ref)) ∧ H' rl = some (.lst (((rowsOf text).map sx).map V.str)) ∧
        TksAt K H' tas done ∧ done.length ≤ (((rowsOf text).map List.length).take i).sum ∧ RowsInv (rowsOf text) i done) ?_ ?_ ?_ ?_⟩
    · refine ⟨[], [], none, none, none, none, rfl, sameUpd (sameUpd (Same.refl H) ntl) nrl', by rw [upd_ne ntr.symm, upd_same]; rfl, upd_same, .nil, by simp, fun e h => h, fun us h => h⟩
    · rintro i σ H' hi ⟨done, tas, o3, o4, o5, o6, rfl, sm, h1, h2, _⟩
      exact SqL.of h2
    · rintro i x σ H1 H2 hi ⟨done, tas, o3, o4, o5, o6, rfl, sm, h1, h2, htk, hdl, hri⟩ ⟨T0, x1, y1, rfl, nT, rfl, e1, e2⟩
      cases e1
      rw [List.length_map, List.length_map] at hi
      have er : (rowsOf text)[i]? = some (rowsOf text)[i] := List.getElem?_eq_getElem hi
      have ey : y1 = .str (sx (rowsOf text)[i]) := by
        have e2 : (((rowsOf text).map sx).map V.str)[i]? = some y1 := e2
        rw [List.getElem?_map, List.getElem?_map, er] at e2
        exact (Option.some.inj e2).symm
      subst ey
      generalize hrow : (rowsOf text)[i] = row at er
      have hsum : (((rowsOf text).map List.length).take (i + 1)).sum = (((rowsOf text).map List.length).take i).sum + row.length := sum_take_succ (by rw [List.getElem?_map, er]; rfl)
      have htot : (((rowsOf text).map List.length).take (i + 1)).sum ≤ text.length := Nat.le_trans (sum_take _ _) (rows_sum text)
      have hdrop : (rowsOf text).drop i = row :: (rowsOf text).drop (i + 1) := by rw [List.drop_eq_getElem_cons hi, hrow]
      have hlr : row.length ≤ 100000 := by omega
      refine ⟨T0, _, rfl, SqT.of upd_same, rfl, _, _, rfl, _, _, rfl, rfl, ?_⟩
      have g1 : (upd H1 T0 (.tup [.int (i : Nat), .str (sx row)])) tl = some (.lst (tas.map V.ref)) := by rw [upd_ne (ne_of_none h1 nT)]; exact h1
      have g2 : (upd H1 T0 (.tup [.int (i : Nat), .str (sx row)])) rl = some (.lst (((rowsOf text).map sx).map V.str)) := by rw [upd_ne (ne_of_none h2 nT)]; exact h2
      have smT : Same H1 (upd H1 T0 (.tup [.int (i : Nat), .str (sx row)])) := sameUpd (Same.refl H1) nT
      refine ⟨fun m σ H3 => ∃ (c f : Nat) (doneR : List Tk) (tas : List Addr) (o6 : Option V), m + c = row.length ∧ σ = [some (.str (sx text)), some (.ref tl), some (.ref rl), some (.int (i : Nat)), some (.str (sx row)), some (.int (c : Nat)), o6] ∧
        Same H H3 ∧ H3 tl = some (.lst (tas.map V.ref)) ∧ H3 rl = some (.lst (((rowsOf text).map sx).map V.str)) ∧ TksAt K H3 tas (done ++ doneR) ∧ doneR.length ≤ c ∧ RowInv i row f c doneR,
        ⟨row.length, 0, row.length, [], tas, o6, rfl, rfl, sm.trans smT, g1, g2, by rw [List.append_nil]; exact htk.same smT, Nat.le_refl _, by unfold RowInv; rw [List.drop_zero]; exact ⟨Nat.le_refl _, fun e h => h, fun us h => h⟩⟩, ?_⟩
      rintro m σ H3 ⟨c, f, doneR, tas3, o6', hm, rfl, sm3, k1, k2, ktk, kdl, kin⟩
      refine ⟨_, rfl, _, rfl, _, rfl, by rw [len_sx]; exact sz5 hlr, _, _, rfl, rfl, _, rfl, ?_⟩
      refine ite2 (fun h => ?_) (fun h => ?_)
      · have hc : c < row.length := by
          have h := of_decide_eq_true h
          rw [len_sx] at h
          omega
        have e0 : row.drop c = row[c] :: row.drop (c + 1) := List.drop_eq_getElem_cons hc
        obtain ⟨kf, ke, ko⟩ := kin
        obtain ⟨f', rfl⟩ : ∃ f', f = f' + 1 := ⟨f - 1, by rw [e0] at kf; simp at kf; omega⟩
        refine ⟨_, fun _ _ n => n, ?_⟩
        refine ⟨_, rfl, _, rfl, sx row, (c : Int), row[c], rfl, rfl, by omega, by omega, by rw [len_sx]; omega, at_sx hc, row[c], _, rfl, rfl, _, rfl, ?_⟩
        refine ite2 (fun h5 => ?_) (fun h5 => ?_)
        · have h5 : isS row[c] = true := by
            have h5 := h5
            rw [mem_spaces] at h5
            exact h5
          refine ⟨_, rfl, _, _, rfl, rfl, m - 1, by omega, c + 1, f', doneR, tas3, o6', by omega, rfl, sm3, k1, k2, ktk, by omega, ?_⟩
          have es : lexRow i (f' + 1) c (row.drop c) = lexRow i f' (c + 1) (row.drop (c + 1)) := by
            rw [e0]
            simp only [lexRow, if_pos h5]
          refine ⟨?_, fun e q => ke e (by rw [es]; exact q), fun us q => ko us (by rw [es]; exact q)⟩
          rw [e0] at kf
          simp only [List.length_cons] at kf
          omega
        · have h5 : ¬ isS row[c] = true := by
            have h5 := h5
            rw [mem_spaces] at h5
            exact h5
          refine ⟨_, rfl, _, rfl, _, rfl, row, i, c, rfl, hlr, hc, fun t ht a H4 na sm4 hta => ?_, fun hn => ?_⟩
          · have j1 := sm4 _ _ k1
            have j2 := sm4 _ _ k2
            obtain ⟨l1, l2⟩ := readTok_len ht
            rw [List.length_drop] at l2
            have hcount : (tas3.map V.ref).length < sizeLine := by
              rw [List.length_map, ktk.length, List.length_append, sizeLine_eq]
              omega
            obtain ⟨dx, hdx⟩ := hta.upd (ys := tas3.map V.ref ++ [V.ref a]) j1
            refine ⟨_, rfl, .inl ⟨rfl, _, SqL.of j1⟩, _, rfl, tl, _, _, rfl, rfl, j1, hcount, ?_⟩
            refine ⟨_, rfl, _, rfl, a, _, dx, _, _, rfl, hdx, T.tok.c, T.tok.n _ (by simp), lk_text, _, rfl, by rw [len_sx]; exact sz5 (by omega), _, _, rfl, rfl, ?_⟩
            refine ⟨m - t.text.length, by omega, c + t.text.length, f', doneR ++ [t], tas3 ++ [a], _, by omega, by rw [len_sx]; rfl, sameUpd (sm3.trans sm4) ntl, by rw [upd_same, List.map_append]; rfl, by rw [upd_ne ntr]; exact j2, ?_, by simp; omega, ?_⟩
            · rw [← List.append_assoc]
              exact Paired_snoc ((ktk.same sm4).upd j1) ⟨dx, hdx⟩
            · have es : ∀ r, lexRow i f' (c + t.text.length) (row.drop (c + t.text.length)) = r → lexRow i (f' + 1) c (row.drop c) = (match r with | .error e => .error e | .ok ts => .ok (t :: ts)) := by
                intro r q
                have ed : (row[c] :: row.drop (c + 1)).drop t.text.length = row.drop (c + t.text.length) := by rw [← e0, List.drop_drop]
                conv => lhs; rw [e0]
                simp only [lexRow, if_neg h5]
                rw [← e0, ht]
                simp only
                rw [e0, ed, q]
                all_goals (cases r <;> rfl)
              refine ⟨?_, fun e q => ke e (by rw [es _ q]), fun us q => ?_⟩
              · rw [List.length_drop] at kf ⊢
                omega
              · have z := ko (t :: us) (by rw [es _ q])
                rw [z, List.append_assoc]
                rfl
          · have es : lexRow i (f' + 1) c (row.drop c) = .error (i, c) := by
              conv => lhs; rw [e0]
              simp only [lexRow, if_neg h5]
              rw [← e0, hn]
            have z1 := ke _ es
            have z2 : lexRows 0 (rowsOf text) = .error (i, c) := hri.1 _ (by rw [hdrop]; simp only [lexRows, z1])
            exact (hE i c (by simp only [tokenize, z2])).mono sm3
      · have hc : c = row.length := by
          have h : ¬ ((c : Nat) : Int) < ((sx row).length : Int) := fun q => h (decide_eq_true q)
          rw [len_sx] at h
          omega
        obtain ⟨kf, ke, ko⟩ := kin
        have ed : row.drop c = [] := by rw [hc]; exact List.drop_length
        have z1 : lexRow i row.length 0 row = .ok doneR := by
          have z := ko [] (by rw [ed]; cases f <;> rfl)
          rw [z, List.append_nil]
        refine ⟨done ++ doneR, tas3, _, _, _, _, rfl, sm3, k1, k2, ktk, by rw [hsum, List.length_append]; omega, fun e q => hri.1 e ?_, fun us q => ?_⟩
        · rw [hdrop]
          simp only [lexRows, z1, q]
        · have z := hri.2 (doneR ++ us) (by rw [hdrop]; simp only [lexRows, z1, q])
          rw [z, List.append_assoc]
    · rintro σ H1 ⟨done, tas, o3, o4, o5, o6, rfl, sm, h1, h2, htk, hdl, hri⟩
      rw [List.length_map, List.length_map] at hri hdl
      have hlen : (rowsOf text).length ≤ text.length + 1 := spl_len text []
      have hdn : done.length ≤ text.length := Nat.le_trans hdl (Nat.le_trans (sum_take _ _) (rows_sum text))
      have z1 : lexRows 0 (rowsOf text) = .ok done := by
        have z := hri.2 [] (by rw [List.drop_length]; rfl)
        rw [z, List.append_nil]
      refine ⟨_, rfl, _, rfl, rl, _, rfl, .inl (SqL.of h2), ?_⟩
      intro x dx0 nx ndx ne0
      refine init_at (names := tokF) rfl nx ndx fun H5 sm5 hx => ⟨rfl, ?_⟩
      refine ⟨(by show 1 ≤ sizeLine; decide), fun l nl => ?_⟩
      have nlt : tl ≠ l := ne_of_none (sm5 _ _ h1) nl
      refine ⟨tl, l, _, _, rfl, rfl, by rw [upd_ne nlt]; exact sm5 _ _ h1, upd_same, ?_, fun p np => ?_⟩
      · rw [List.length_map, htk.length, sizeLine_eq]
        simp
        omega
      · have npl : p ≠ l := by
          rintro rfl
          rw [upd_same] at np
          cases np
        rw [upd_ne npl] at np
        have s1 : Same H5 (upd (upd H5 l (.lst [.ref x])) p (.lst (tas.map V.ref ++ [.ref x]))) := sameUpd (sameUpd (Same.refl H5) nl) np
        have nH : H p = none := (sm.trans sm5).free np
        refine hT (done ++ [⟨.fin, [], (rowsOf text).length, 0⟩]) (by simp only [tokenize, z1]) p (tas ++ [x]) _ nH ((sm.trans sm5).trans s1) (by rw [upd_same, List.map_append]; rfl) ?_
        refine Paired_snoc (htk.same (sm5.trans s1)) ?_
        obtain ⟨dx, hdx⟩ := hx
        refine ⟨dx, ?_⟩
        rw [s1 _ _ hdx, List.length_map, List.length_map, str_nil]
        rfl
end
end Sw

end

section
set_option maxRecDepth 100000
set_option maxHeartbeats 4000000
/-! the parser's object -/
namespace Sw
open PySem PySem.Spec PyProof.Rows L2 SwA
abbrev sV (w : Cs) : V := .str (sx w)
/-- where the parser's parts stand -/
structure PLoc where
  tl : Addr
  fl : Addr
  sl : Addr
  ml : Addr
  rl : Addr
  rd : Addr
  pd : Addr
  sd : Addr
def parF (L : PLoc) (at_ : Nat) : List (Str × V) := [("tokens", .ref L.tl), ("at", .int at_), ("faults", .ref L.fl), ("signs", .ref L.sl), ("moods", .ref L.ml), ("robots", .ref L.rl), ("rules", .ref L.rd), ("pairs", .ref L.pd), ("spots", .ref L.sd)]
def FaultsAt (H : Hp) : Nat → List Addr → List (Nat × Nat × Cs) → Prop
  | _, [], [] => True
  | i, a :: as, f :: fs => H a = some (.tup [.int f.1, .int f.2.1, .int (i : Nat), sV f.2.2]) ∧ FaultsAt H (i + 1) as fs
  | _, _, _ => False
def keyT (q : Nat × Nat) : List Key := [.inl q.1, .inl q.2]
def RuleAt (H : Hp) (r : (Nat × Nat) × Rule) (kv : List Key × V) : Prop := kv.1 = keyT r.1 ∧ ∃ t, kv.2 = .ref t ∧ H t = some (.tup [.int r.2.left, sV r.2.move, .int r.2.later])
def RulesAt (H : Hp) (rd : Addr) (rules : List ((Nat × Nat) × Rule)) : Prop := ∃ kvs, H rd = some (.dT kvs) ∧ Paired (RuleAt H) rules kvs
def RobAt (H : Hp) (a : Addr) (r : Nat × Bool) : Prop := H a = some (.tup [.int r.1, .bl r.2])
def pairK (q : Cs × Cs) : List Key × V := ([.inr (sx q.1), .inr (sx q.2)], .bl true)
def spotK (q : Nat × Nat) : Key × V := (.inl q.1, .int q.2)
/-- the parser at p: its state -/
structure PA (K : PySem.W.Frag) (H0 H : Hp) (p : Addr) (L : PLoc) (tas : List Addr) (T : List Tk) (st : PSt) : Prop where
  same : Same H0 H
  ob : ∃ dx, H p = some (.ins (He.ga K "Parser") dx (parF L st.at_))
  tk : H L.tl = some (.lst (tas.map V.ref))
  tks : TksAt K H tas T
  fa : ∃ fas : List Addr, H L.fl = some (.lst (fas.map V.ref)) ∧ FaultsAt H 0 fas st.faults
  si : H L.sl = some (.lst (st.signs.map sV))
  mo : H L.ml = some (.lst (st.moods.map sV))
  ro : ∃ ras : List Addr, H L.rl = some (.lst (ras.map V.ref)) ∧ Paired (RobAt H) ras st.robots
  ru : RulesAt H L.rd st.rules
  pr : H L.pd = some (.dT (st.pairs.map pairK))
  sp : H L.sd = some (.dK (st.spots.map spotK))
  nd : [p, L.tl, L.fl, L.sl, L.ml, L.rl, L.rd, L.pd, L.sd].Nodup
  new : ∀ a ∈ [p, L.tl, L.fl, L.sl, L.ml, L.rl, L.rd, L.pd, L.sd], H0 a = none
theorem FaultsAt.mono {H H' : Hp} (s : ∀ a xs, H a = some (.tup xs) → H' a = some (.tup xs)) : ∀ {i : Nat} {as : List Addr} {fs : List (Nat × Nat × Cs)}, FaultsAt H i as fs → FaultsAt H' i as fs
  | _, [], [], h => h
  | _, a :: as, f :: fs, h => ⟨s _ _ h.1, FaultsAt.mono s h.2⟩
  | _, [], _ :: _, h => h.elim
  | _, _ :: _, [], h => h.elim
theorem FaultsAt.snoc {H : Hp} {a : Addr} {f : Nat × Nat × Cs} : ∀ {i : Nat} {as : List Addr} {fs : List (Nat × Nat × Cs)}, FaultsAt H i as fs → H a = some (.tup [.int f.1, .int f.2.1, .int ((i + fs.length : Nat) : Int), sV f.2.2]) → FaultsAt H i (as ++ [a]) (fs ++ [f])
  | _, [], [], _, e => ⟨e, trivial⟩
  | i, b :: as, g :: fs, h, e => ⟨h.1, FaultsAt.snoc h.2 (by
      have z : i + 1 + fs.length = i + (g :: fs).length := by simp only [List.length_cons]; omega
      rw [z]
      exact e)⟩
  | _, [], _ :: _, h, _ => h.elim
  | _, _ :: _, [], h, _ => h.elim
theorem FaultsAt.len {H : Hp} : ∀ {i : Nat} {as : List Addr} {fs : List (Nat × Nat × Cs)}, FaultsAt H i as fs → as.length = fs.length
  | _, [], [], _ => rfl
  | _, a :: as, f :: fs, h => by simp [FaultsAt.len h.2]
  | _, [], _ :: _, h => h.elim
  | _, _ :: _, [], h => h.elim
theorem RuleAt.mono {H H' : Hp} (s : ∀ a xs, H a = some (.tup xs) → H' a = some (.tup xs)) {r : (Nat × Nat) × Rule} {kv : List Key × V} (h : RuleAt H r kv) : RuleAt H' r kv :=
  let ⟨e, t, e1, e2⟩ := h
  ⟨e, t, e1, s _ _ e2⟩
section
variable {K : PySem.W.Frag} {H0 H H' : Hp} {p : Addr} {L : PLoc} {tas : List Addr} {T : List Tk} {st : PSt}
/-- more objects -/
theorem PA.mono (h : PA K H0 H p L tas T st) (s : Same H H') : PA K H0 H' p L tas T st where
  same := h.same.trans s
  ob := let ⟨dx, e⟩ := h.ob; ⟨dx, s _ _ e⟩
  tk := s _ _ h.tk
  tks := h.tks.same s
  fa := let ⟨fas, e1, e2⟩ := h.fa; ⟨fas, s _ _ e1, e2.mono fun _ _ z => s _ _ z⟩
  si := s _ _ h.si
  mo := s _ _ h.mo
  ro := let ⟨ras, e1, e2⟩ := h.ro; ⟨ras, s _ _ e1, Paired.mapP e2 fun _ _ z => s _ _ z⟩
  ru := let ⟨kvs, e1, e2⟩ := h.ru; ⟨kvs, s _ _ e1, Paired.mapP e2 fun _ _ z => z.mono fun _ _ z => s _ _ z⟩
  pr := s _ _ h.pr
  sp := s _ _ h.sp
  nd := h.nd
  new := h.new
/-- what is changed is neither a tuple nor an object of another kind: the rest -/
theorem keepT {x : Addr} {o o' : HO} (hx : H x = some o) (ht : ∀ xs, o ≠ .tup xs) : ∀ a xs, H a = some (.tup xs) → (upd H x o') a = some (.tup xs) := fun a xs e => by
  rw [upd_ne (ne_of e hx fun z => ht xs z.symm)]
  exact e
theorem keepK {x : Addr} {o o' : HO} (hx : H x = some o) (hi : ∀ C d fs, o = .ins C d fs → C ≠ He.ga K "Token") : ∀ a t, TokAt K H a t → TokAt K (upd H x o') a t := fun a t ⟨dx, e⟩ => by
  refine ⟨dx, ?_⟩
  rw [upd_ne (ne_of e hx fun z => hi _ _ _ z.symm rfl)]
  exact e
/-- self.at += 1 -/
theorem PA.setAt (h : PA K H0 H p L tas T st) (hPT : He.ga K "Parser" ≠ He.ga K "Token") {dx : Addr} {n : Nat} (e : H p = some (.ins (He.ga K "Parser") dx (parF L st.at_))) :
    PA K H0 (upd H p (.ins (He.ga K "Parser") dx (parF L n))) p L tas T { st with at_ := n } := by
  have z := h.nd
  simp only [List.nodup_cons, List.mem_cons, List.not_mem_nil, or_false, not_or] at z
  obtain ⟨⟨z1, z2, z3, z4, z5, z6, z7, z8⟩, _⟩ := z
  have kt := keepT (o' := .ins (He.ga K "Parser") dx (parF L n)) e (fun xs q => by cases q)
  have kk := keepK (K := K) (o' := .ins (He.ga K "Parser") dx (parF L n)) e (fun C d fs q => by cases q; exact hPT)
  refine ⟨sameUpd h.same (h.new _ (by simp)), ⟨dx, upd_same⟩, ?_, Paired.mapP h.tks fun a t q => kk a t q, ?_, ?_, ?_, ?_, ?_, ?_, ?_, h.nd, h.new⟩
  · rw [upd_ne (Ne.symm z1)]; exact h.tk
  · obtain ⟨fas, e1, e2⟩ := h.fa
    exact ⟨fas, by rw [upd_ne (Ne.symm z2)]; exact e1, e2.mono kt⟩
  · rw [upd_ne (Ne.symm z3)]; exact h.si
  · rw [upd_ne (Ne.symm z4)]; exact h.mo
  · obtain ⟨ras, e1, e2⟩ := h.ro
    exact ⟨ras, by rw [upd_ne (Ne.symm z5)]; exact e1, Paired.mapP e2 fun _ _ q => kt _ _ q⟩
  · obtain ⟨kvs, e1, e2⟩ := h.ru
    exact ⟨kvs, by rw [upd_ne (Ne.symm z6)]; exact e1, Paired.mapP e2 fun _ _ q => q.mono kt⟩
  · rw [upd_ne (Ne.symm z7)]; exact h.pr
  · rw [upd_ne (Ne.symm z8)]; exact h.sp
theorem PA.set_fl (h : PA K H0 H p L tas T st) {fas fas' : List Addr} {fs : List (Nat × Nat × Cs)} (e : H L.fl = some (.lst (fas.map V.ref))) (hn : FaultsAt (upd H L.fl (.lst (fas'.map V.ref))) 0 fas' fs) : PA K H0 (upd H L.fl (.lst (fas'.map V.ref))) p L tas T { st with faults := fs } := by
  have z := h.nd
  simp only [List.nodup_cons, List.mem_cons, List.not_mem_nil, or_false, not_or] at z
  obtain ⟨⟨n_p_tl, n_p_fl, n_p_sl, n_p_ml, n_p_rl, n_p_rd, n_p_pd, n_p_sd⟩, ⟨n_tl_fl, n_tl_sl, n_tl_ml, n_tl_rl, n_tl_rd, n_tl_pd, n_tl_sd⟩, ⟨n_fl_sl, n_fl_ml, n_fl_rl, n_fl_rd, n_fl_pd, n_fl_sd⟩, ⟨n_sl_ml, n_sl_rl, n_sl_rd, n_sl_pd, n_sl_sd⟩, ⟨n_ml_rl, n_ml_rd, n_ml_pd, n_ml_sd⟩, ⟨n_rl_rd, n_rl_pd, n_rl_sd⟩, ⟨n_rd_pd, n_rd_sd⟩, n_pd_sd, _⟩ := z
  have ne_p : p ≠ L.fl := n_p_fl
  have ne_tl : L.tl ≠ L.fl := n_tl_fl
  have ne_sl : L.sl ≠ L.fl := Ne.symm n_fl_sl
  have ne_ml : L.ml ≠ L.fl := Ne.symm n_fl_ml
  have ne_rl : L.rl ≠ L.fl := Ne.symm n_fl_rl
  have ne_rd : L.rd ≠ L.fl := Ne.symm n_fl_rd
  have ne_pd : L.pd ≠ L.fl := Ne.symm n_fl_pd
  have ne_sd : L.sd ≠ L.fl := Ne.symm n_fl_sd
  have kt := keepT (o' := .lst (fas'.map V.ref)) e (fun xs q => by cases q)
  have kk := keepK (K := K) (o' := .lst (fas'.map V.ref)) e (fun C d fs q => by cases q)
  exact ⟨sameUpd h.same (h.new _ (by simp)), (let ⟨dx, q⟩ := h.ob; ⟨dx, (upd_ne ne_p).trans q⟩), (upd_ne ne_tl).trans h.tk, Paired.mapP h.tks fun a t q => kk a t q,
    ⟨fas', upd_same, hn⟩,
    ((upd_ne (ne_sl)).trans h.si),
    ((upd_ne (ne_ml)).trans h.mo),
    (let ⟨ras, e1, e2⟩ := h.ro; ⟨ras, (upd_ne (ne_rl)).trans e1, Paired.mapP e2 fun _ _ q => kt _ _ q⟩),
    (let ⟨kvs, e1, e2⟩ := h.ru; ⟨kvs, (upd_ne (ne_rd)).trans e1, Paired.mapP e2 fun _ _ q => q.mono kt⟩),
    ((upd_ne (ne_pd)).trans h.pr),
    ((upd_ne (ne_sd)).trans h.sp), h.nd, h.new⟩
theorem PA.set_sl (h : PA K H0 H p L tas T st) {xs : List V} {ws : List Cs} (e : H L.sl = some (.lst xs)) (hn : True) : PA K H0 (upd H L.sl (.lst (ws.map sV))) p L tas T { st with signs := ws } := by
  have z := h.nd
  simp only [List.nodup_cons, List.mem_cons, List.not_mem_nil, or_false, not_or] at z
  obtain ⟨⟨n_p_tl, n_p_fl, n_p_sl, n_p_ml, n_p_rl, n_p_rd, n_p_pd, n_p_sd⟩, ⟨n_tl_fl, n_tl_sl, n_tl_ml, n_tl_rl, n_tl_rd, n_tl_pd, n_tl_sd⟩, ⟨n_fl_sl, n_fl_ml, n_fl_rl, n_fl_rd, n_fl_pd, n_fl_sd⟩, ⟨n_sl_ml, n_sl_rl, n_sl_rd, n_sl_pd, n_sl_sd⟩, ⟨n_ml_rl, n_ml_rd, n_ml_pd, n_ml_sd⟩, ⟨n_rl_rd, n_rl_pd, n_rl_sd⟩, ⟨n_rd_pd, n_rd_sd⟩, n_pd_sd, _⟩ := z
  have ne_p : p ≠ L.sl := n_p_sl
  have ne_tl : L.tl ≠ L.sl := n_tl_sl
  have ne_fl : L.fl ≠ L.sl := n_fl_sl
  have ne_ml : L.ml ≠ L.sl := Ne.symm n_sl_ml
  have ne_rl : L.rl ≠ L.sl := Ne.symm n_sl_rl
  have ne_rd : L.rd ≠ L.sl := Ne.symm n_sl_rd
  have ne_pd : L.pd ≠ L.sl := Ne.symm n_sl_pd
  have ne_sd : L.sd ≠ L.sl := Ne.symm n_sl_sd
  have kt := keepT (o' := .lst (ws.map sV)) e (fun xs q => by cases q)
  have kk := keepK (K := K) (o' := .lst (ws.map sV)) e (fun C d fs q => by cases q)
  exact ⟨sameUpd h.same (h.new _ (by simp)), (let ⟨dx, q⟩ := h.ob; ⟨dx, (upd_ne ne_p).trans q⟩), (upd_ne ne_tl).trans h.tk, Paired.mapP h.tks fun a t q => kk a t q,
    (let ⟨fas, e1, e2⟩ := h.fa; ⟨fas, (upd_ne (ne_fl)).trans e1, e2.mono kt⟩),
    upd_same,
    ((upd_ne (ne_ml)).trans h.mo),
    (let ⟨ras, e1, e2⟩ := h.ro; ⟨ras, (upd_ne (ne_rl)).trans e1, Paired.mapP e2 fun _ _ q => kt _ _ q⟩),
    (let ⟨kvs, e1, e2⟩ := h.ru; ⟨kvs, (upd_ne (ne_rd)).trans e1, Paired.mapP e2 fun _ _ q => q.mono kt⟩),
    ((upd_ne (ne_pd)).trans h.pr),
    ((upd_ne (ne_sd)).trans h.sp), h.nd, h.new⟩
theorem PA.set_ml (h : PA K H0 H p L tas T st) {xs : List V} {ws : List Cs} (e : H L.ml = some (.lst xs)) (hn : True) : PA K H0 (upd H L.ml (.lst (ws.map sV))) p L tas T { st with moods := ws } := by
  have z := h.nd
  simp only [List.nodup_cons, List.mem_cons, List.not_mem_nil, or_false, not_or] at z
  obtain ⟨⟨n_p_tl, n_p_fl, n_p_sl, n_p_ml, n_p_rl, n_p_rd, n_p_pd, n_p_sd⟩, ⟨n_tl_fl, n_tl_sl, n_tl_ml, n_tl_rl, n_tl_rd, n_tl_pd, n_tl_sd⟩, ⟨n_fl_sl, n_fl_ml, n_fl_rl, n_fl_rd, n_fl_pd, n_fl_sd⟩, ⟨n_sl_ml, n_sl_rl, n_sl_rd, n_sl_pd, n_sl_sd⟩, ⟨n_ml_rl, n_ml_rd, n_ml_pd, n_ml_sd⟩, ⟨n_rl_rd, n_rl_pd, n_rl_sd⟩, ⟨n_rd_pd, n_rd_sd⟩, n_pd_sd, _⟩ := z
  have ne_p : p ≠ L.ml := n_p_ml
  have ne_tl : L.tl ≠ L.ml := n_tl_ml
  have ne_fl : L.fl ≠ L.ml := n_fl_ml
  have ne_sl : L.sl ≠ L.ml := n_sl_ml
  have ne_rl : L.rl ≠ L.ml := Ne.symm n_ml_rl
  have ne_rd : L.rd ≠ L.ml := Ne.symm n_ml_rd
  have ne_pd : L.pd ≠ L.ml := Ne.symm n_ml_pd
  have ne_sd : L.sd ≠ L.ml := Ne.symm n_ml_sd
  have kt := keepT (o' := .lst (ws.map sV)) e (fun xs q => by cases q)
  have kk := keepK (K := K) (o' := .lst (ws.map sV)) e (fun C d fs q => by cases q)
  exact ⟨sameUpd h.same (h.new _ (by simp)), (let ⟨dx, q⟩ := h.ob; ⟨dx, (upd_ne ne_p).trans q⟩), (upd_ne ne_tl).trans h.tk, Paired.mapP h.tks fun a t q => kk a t q,
    (let ⟨fas, e1, e2⟩ := h.fa; ⟨fas, (upd_ne (ne_fl)).trans e1, e2.mono kt⟩),
    ((upd_ne (ne_sl)).trans h.si),
    upd_same,
    (let ⟨ras, e1, e2⟩ := h.ro; ⟨ras, (upd_ne (ne_rl)).trans e1, Paired.mapP e2 fun _ _ q => kt _ _ q⟩),
    (let ⟨kvs, e1, e2⟩ := h.ru; ⟨kvs, (upd_ne (ne_rd)).trans e1, Paired.mapP e2 fun _ _ q => q.mono kt⟩),
    ((upd_ne (ne_pd)).trans h.pr),
    ((upd_ne (ne_sd)).trans h.sp), h.nd, h.new⟩
theorem PA.set_rl (h : PA K H0 H p L tas T st) {xs : List V} {ras : List Addr} {rs : List (Nat × Bool)} (e : H L.rl = some (.lst xs)) (hn : Paired (RobAt (upd H L.rl (.lst (ras.map V.ref)))) ras rs) : PA K H0 (upd H L.rl (.lst (ras.map V.ref))) p L tas T { st with robots := rs } := by
  have z := h.nd
  simp only [List.nodup_cons, List.mem_cons, List.not_mem_nil, or_false, not_or] at z
  obtain ⟨⟨n_p_tl, n_p_fl, n_p_sl, n_p_ml, n_p_rl, n_p_rd, n_p_pd, n_p_sd⟩, ⟨n_tl_fl, n_tl_sl, n_tl_ml, n_tl_rl, n_tl_rd, n_tl_pd, n_tl_sd⟩, ⟨n_fl_sl, n_fl_ml, n_fl_rl, n_fl_rd, n_fl_pd, n_fl_sd⟩, ⟨n_sl_ml, n_sl_rl, n_sl_rd, n_sl_pd, n_sl_sd⟩, ⟨n_ml_rl, n_ml_rd, n_ml_pd, n_ml_sd⟩, ⟨n_rl_rd, n_rl_pd, n_rl_sd⟩, ⟨n_rd_pd, n_rd_sd⟩, n_pd_sd, _⟩ := z
  have ne_p : p ≠ L.rl := n_p_rl
  have ne_tl : L.tl ≠ L.rl := n_tl_rl
  have ne_fl : L.fl ≠ L.rl := n_fl_rl
  have ne_sl : L.sl ≠ L.rl := n_sl_rl
  have ne_ml : L.ml ≠ L.rl := n_ml_rl
  have ne_rd : L.rd ≠ L.rl := Ne.symm n_rl_rd
  have ne_pd : L.pd ≠ L.rl := Ne.symm n_rl_pd
  have ne_sd : L.sd ≠ L.rl := Ne.symm n_rl_sd
  have kt := keepT (o' := .lst (ras.map V.ref)) e (fun xs q => by cases q)
  have kk := keepK (K := K) (o' := .lst (ras.map V.ref)) e (fun C d fs q => by cases q)
  exact ⟨sameUpd h.same (h.new _ (by simp)), (let ⟨dx, q⟩ := h.ob; ⟨dx, (upd_ne ne_p).trans q⟩), (upd_ne ne_tl).trans h.tk, Paired.mapP h.tks fun a t q => kk a t q,
    (let ⟨fas, e1, e2⟩ := h.fa; ⟨fas, (upd_ne (ne_fl)).trans e1, e2.mono kt⟩),
    ((upd_ne (ne_sl)).trans h.si),
    ((upd_ne (ne_ml)).trans h.mo),
    ⟨ras, upd_same, hn⟩,
    (let ⟨kvs, e1, e2⟩ := h.ru; ⟨kvs, (upd_ne (ne_rd)).trans e1, Paired.mapP e2 fun _ _ q => q.mono kt⟩),
    ((upd_ne (ne_pd)).trans h.pr),
    ((upd_ne (ne_sd)).trans h.sp), h.nd, h.new⟩
theorem PA.set_rd (h : PA K H0 H p L tas T st) {kvs kvs' : List (List Key × V)} {rs : List ((Nat × Nat) × Rule)} (e : H L.rd = some (.dT kvs)) (hn : Paired (RuleAt (upd H L.rd (.dT kvs'))) rs kvs') : PA K H0 (upd H L.rd (.dT kvs')) p L tas T { st with rules := rs } := by
  have z := h.nd
  simp only [List.nodup_cons, List.mem_cons, List.not_mem_nil, or_false, not_or] at z
  obtain ⟨⟨n_p_tl, n_p_fl, n_p_sl, n_p_ml, n_p_rl, n_p_rd, n_p_pd, n_p_sd⟩, ⟨n_tl_fl, n_tl_sl, n_tl_ml, n_tl_rl, n_tl_rd, n_tl_pd, n_tl_sd⟩, ⟨n_fl_sl, n_fl_ml, n_fl_rl, n_fl_rd, n_fl_pd, n_fl_sd⟩, ⟨n_sl_ml, n_sl_rl, n_sl_rd, n_sl_pd, n_sl_sd⟩, ⟨n_ml_rl, n_ml_rd, n_ml_pd, n_ml_sd⟩, ⟨n_rl_rd, n_rl_pd, n_rl_sd⟩, ⟨n_rd_pd, n_rd_sd⟩, n_pd_sd, _⟩ := z
  have ne_p : p ≠ L.rd := n_p_rd
  have ne_tl : L.tl ≠ L.rd := n_tl_rd
  have ne_fl : L.fl ≠ L.rd := n_fl_rd
  have ne_sl : L.sl ≠ L.rd := n_sl_rd
  have ne_ml : L.ml ≠ L.rd := n_ml_rd
  have ne_rl : L.rl ≠ L.rd := n_rl_rd
  have ne_pd : L.pd ≠ L.rd := Ne.symm n_rd_pd
  have ne_sd : L.sd ≠ L.rd := Ne.symm n_rd_sd
  have kt := keepT (o' := .dT kvs') e (fun xs q => by cases q)
  have kk := keepK (K := K) (o' := .dT kvs') e (fun C d fs q => by cases q)
  exact ⟨sameUpd h.same (h.new _ (by simp)), (let ⟨dx, q⟩ := h.ob; ⟨dx, (upd_ne ne_p).trans q⟩), (upd_ne ne_tl).trans h.tk, Paired.mapP h.tks fun a t q => kk a t q,
    (let ⟨fas, e1, e2⟩ := h.fa; ⟨fas, (upd_ne (ne_fl)).trans e1, e2.mono kt⟩),
    ((upd_ne (ne_sl)).trans h.si),
    ((upd_ne (ne_ml)).trans h.mo),
    (let ⟨ras, e1, e2⟩ := h.ro; ⟨ras, (upd_ne (ne_rl)).trans e1, Paired.mapP e2 fun _ _ q => kt _ _ q⟩),
    ⟨kvs', upd_same, hn⟩,
    ((upd_ne (ne_pd)).trans h.pr),
    ((upd_ne (ne_sd)).trans h.sp), h.nd, h.new⟩
theorem PA.set_pd (h : PA K H0 H p L tas T st) {kvs : List (List Key × V)} {ps : List (Cs × Cs)} (e : H L.pd = some (.dT kvs)) (hn : True) : PA K H0 (upd H L.pd (.dT (ps.map pairK))) p L tas T { st with pairs := ps } := by
  have z := h.nd
  simp only [List.nodup_cons, List.mem_cons, List.not_mem_nil, or_false, not_or] at z
  obtain ⟨⟨n_p_tl, n_p_fl, n_p_sl, n_p_ml, n_p_rl, n_p_rd, n_p_pd, n_p_sd⟩, ⟨n_tl_fl, n_tl_sl, n_tl_ml, n_tl_rl, n_tl_rd, n_tl_pd, n_tl_sd⟩, ⟨n_fl_sl, n_fl_ml, n_fl_rl, n_fl_rd, n_fl_pd, n_fl_sd⟩, ⟨n_sl_ml, n_sl_rl, n_sl_rd, n_sl_pd, n_sl_sd⟩, ⟨n_ml_rl, n_ml_rd, n_ml_pd, n_ml_sd⟩, ⟨n_rl_rd, n_rl_pd, n_rl_sd⟩, ⟨n_rd_pd, n_rd_sd⟩, n_pd_sd, _⟩ := z
  have ne_p : p ≠ L.pd := n_p_pd
  have ne_tl : L.tl ≠ L.pd := n_tl_pd
  have ne_fl : L.fl ≠ L.pd := n_fl_pd
  have ne_sl : L.sl ≠ L.pd := n_sl_pd
  have ne_ml : L.ml ≠ L.pd := n_ml_pd
  have ne_rl : L.rl ≠ L.pd := n_rl_pd
  have ne_rd : L.rd ≠ L.pd := n_rd_pd
  have ne_sd : L.sd ≠ L.pd := Ne.symm n_pd_sd
  have kt := keepT (o' := .dT (ps.map pairK)) e (fun xs q => by cases q)
  have kk := keepK (K := K) (o' := .dT (ps.map pairK)) e (fun C d fs q => by cases q)
  exact ⟨sameUpd h.same (h.new _ (by simp)), (let ⟨dx, q⟩ := h.ob; ⟨dx, (upd_ne ne_p).trans q⟩), (upd_ne ne_tl).trans h.tk, Paired.mapP h.tks fun a t q => kk a t q,
    (let ⟨fas, e1, e2⟩ := h.fa; ⟨fas, (upd_ne (ne_fl)).trans e1, e2.mono kt⟩),
    ((upd_ne (ne_sl)).trans h.si),
    ((upd_ne (ne_ml)).trans h.mo),
    (let ⟨ras, e1, e2⟩ := h.ro; ⟨ras, (upd_ne (ne_rl)).trans e1, Paired.mapP e2 fun _ _ q => kt _ _ q⟩),
    (let ⟨kvs, e1, e2⟩ := h.ru; ⟨kvs, (upd_ne (ne_rd)).trans e1, Paired.mapP e2 fun _ _ q => q.mono kt⟩),
    upd_same,
    ((upd_ne (ne_sd)).trans h.sp), h.nd, h.new⟩
theorem PA.set_sd (h : PA K H0 H p L tas T st) {kvs : List (Key × V)} {ps : List (Nat × Nat)} (e : H L.sd = some (.dK kvs)) (hn : True) : PA K H0 (upd H L.sd (.dK (ps.map spotK))) p L tas T { st with spots := ps } := by
  have z := h.nd
  simp only [List.nodup_cons, List.mem_cons, List.not_mem_nil, or_false, not_or] at z
  obtain ⟨⟨n_p_tl, n_p_fl, n_p_sl, n_p_ml, n_p_rl, n_p_rd, n_p_pd, n_p_sd⟩, ⟨n_tl_fl, n_tl_sl, n_tl_ml, n_tl_rl, n_tl_rd, n_tl_pd, n_tl_sd⟩, ⟨n_fl_sl, n_fl_ml, n_fl_rl, n_fl_rd, n_fl_pd, n_fl_sd⟩, ⟨n_sl_ml, n_sl_rl, n_sl_rd, n_sl_pd, n_sl_sd⟩, ⟨n_ml_rl, n_ml_rd, n_ml_pd, n_ml_sd⟩, ⟨n_rl_rd, n_rl_pd, n_rl_sd⟩, ⟨n_rd_pd, n_rd_sd⟩, n_pd_sd, _⟩ := z
  have ne_p : p ≠ L.sd := n_p_sd
  have ne_tl : L.tl ≠ L.sd := n_tl_sd
  have ne_fl : L.fl ≠ L.sd := n_fl_sd
  have ne_sl : L.sl ≠ L.sd := n_sl_sd
  have ne_ml : L.ml ≠ L.sd := n_ml_sd
  have ne_rl : L.rl ≠ L.sd := n_rl_sd
  have ne_rd : L.rd ≠ L.sd := n_rd_sd
  have ne_pd : L.pd ≠ L.sd := n_pd_sd
  have kt := keepT (o' := .dK (ps.map spotK)) e (fun xs q => by cases q)
  have kk := keepK (K := K) (o' := .dK (ps.map spotK)) e (fun C d fs q => by cases q)
  exact ⟨sameUpd h.same (h.new _ (by simp)), (let ⟨dx, q⟩ := h.ob; ⟨dx, (upd_ne ne_p).trans q⟩), (upd_ne ne_tl).trans h.tk, Paired.mapP h.tks fun a t q => kk a t q,
    (let ⟨fas, e1, e2⟩ := h.fa; ⟨fas, (upd_ne (ne_fl)).trans e1, e2.mono kt⟩),
    ((upd_ne (ne_sl)).trans h.si),
    ((upd_ne (ne_ml)).trans h.mo),
    (let ⟨ras, e1, e2⟩ := h.ro; ⟨ras, (upd_ne (ne_rl)).trans e1, Paired.mapP e2 fun _ _ q => kt _ _ q⟩),
    (let ⟨kvs, e1, e2⟩ := h.ru; ⟨kvs, (upd_ne (ne_rd)).trans e1, Paired.mapP e2 fun _ _ q => q.mono kt⟩),
    ((upd_ne (ne_pd)).trans h.pr),
    upd_same, h.nd, h.new⟩
end
end Sw

end

section
set_option maxRecDepth 100000
set_option maxHeartbeats 4000000
/-! the parser's small methods -/
namespace Sw
open PySem PySem.Spec PyProof.Rows L2 SwA
/-- a method of a class -/
structure MeT (K : PySem.W.Frag) (C m q : Str) (st : Stmt) : Prop where
  d : FD K (C, some m) m q st
  m : Meth K (He.ga K C) m (He.ma K (He.ga K C) m)
structure ParT (K : PySem.W.Frag) (mg : Str → Option Value) : Prop where
  l : LexT K mg
  par : MkC K mg "Parser" parN
  ne : He.ga K "Parser" ≠ He.ga K "Token"
  int : mg "int" = none
  tuple : mg "tuple" = none
  range : mg "range" = none
  init : FD K ("Parser", some "__init__") "__init__" "Parser.__init__" s_Parser_init
  peek : MeT K "Parser" "peek" "Parser.peek" s_Parser_peek
  fail : MeT K "Parser" "fail" "Parser.fail" s_Parser_fail
  found : MeT K "Parser" "found" "Parser.found" s_Parser_found
  take : MeT K "Parser" "take" "Parser.take" s_Parser_take
  take_word : MeT K "Parser" "take_word" "Parser.take_word" s_Parser_take_word
  take_keyword : MeT K "Parser" "take_keyword" "Parser.take_keyword" s_Parser_take_keyword
  parse_names : MeT K "Parser" "parse_names" "Parser.parse_names" s_Parser_parse_names
  number_of : MeT K "Parser" "number_of" "Parser.number_of" s_Parser_number_of
  tile_of : MeT K "Parser" "tile_of" "Parser.tile_of" s_Parser_tile_of
  parse_robot : MeT K "Parser" "parse_robot" "Parser.parse_robot" s_Parser_parse_robot
  parse_put : MeT K "Parser" "parse_put" "Parser.parse_put" s_Parser_parse_put
  parse_rule : MeT K "Parser" "parse_rule" "Parser.parse_rule" s_Parser_parse_rule
  parse_plan : MeT K "Parser" "parse_plan" "Parser.parse_plan" s_Parser_parse_plan
  MAX_TILES : ∃ t, mg "MAX_TILES" = some (.int 16 t)
  MAX_SIGNS : ∃ t, mg "MAX_SIGNS" = some (.int 4 t)
  MAX_MOODS : ∃ t, mg "MAX_MOODS" = some (.int 6 t)
  MAX_ROBOTS : ∃ t, mg "MAX_ROBOTS" = some (.int 3 t)
  WAYS : mg nWays = some (.ref (He.ga K nWays))
  ways : ∀ H : Hp, SqT K H (He.ga K nWays) (ways.map fun w => V.str (sx w))
  MOVES : mg "MOVES" = some (.ref (He.ga K "MOVES"))
  moves : ∀ H : Hp, SqT K H (He.ga K "MOVES") (moves.map fun w => V.str (sx w))
/-- a token of the list -/
def TI (tas : List Addr) (T : List Tk) (a : Addr) (t : Tk) : Prop := ∃ i : Nat, tas[i]? = some a ∧ T[i]? = some t
theorem Paired_get {α β : Type} {F : α → β → Prop} : ∀ {l : List α} {m : List β} {i : Nat} {a : α} {b : β}, Paired F l m → l[i]? = some a → m[i]? = some b → F a b
  | _, _, i, _, _, .nil, h, _ => by simp at h
  | _, _, 0, _, _, .cons x r, h, h2 => by simp at h h2; subst h; subst h2; exact x
  | _, _, i + 1, _, _, .cons x r, h, h2 => Paired_get r (by simpa using h) (by simpa using h2)
section
variable {K : PySem.W.Frag} {H0 H H' : Hp} {p : Addr} {L : PLoc} {tas : List Addr} {T : List Tk} {st : PSt}
theorem PA.get (h : PA K H0 H p L tas T st) {a : Addr} {t : Tk} (q : TI tas T a t) : TokAt K H a t := let ⟨_, e1, e2⟩ := q; Paired_get h.tks e1 e2
theorem PA.here (h : PA K H0 H p L tas T st) (hi : st.at_ < T.length) : ∃ a, tas[st.at_]? = some a ∧ TI tas T a (peek T st) := by
  have hl := h.tks.length
  have h2 : st.at_ < tas.length := by omega
  refine ⟨tas[st.at_], List.getElem?_eq_getElem h2, st.at_, List.getElem?_eq_getElem h2, ?_⟩
  unfold peek
  rw [List.getD_eq_getElem?_getD, List.getElem?_eq_getElem hi]
  rfl
end
theorem lp_tokens {L : PLoc} {n : Nat} : (parF L n).lookup ("tokens" : Str) = some (V.ref L.tl) := by kernel_rfl
theorem lp_at {L : PLoc} {n : Nat} : (parF L n).lookup ("at" : Str) = some (V.int n) := by kernel_rfl
theorem lp_faults {L : PLoc} {n : Nat} : (parF L n).lookup ("faults" : Str) = some (V.ref L.fl) := by kernel_rfl
theorem lp_signs {L : PLoc} {n : Nat} : (parF L n).lookup ("signs" : Str) = some (V.ref L.sl) := by kernel_rfl
theorem lp_moods {L : PLoc} {n : Nat} : (parF L n).lookup ("moods" : Str) = some (V.ref L.ml) := by kernel_rfl
theorem lp_robots {L : PLoc} {n : Nat} : (parF L n).lookup ("robots" : Str) = some (V.ref L.rl) := by kernel_rfl
theorem lp_rules {L : PLoc} {n : Nat} : (parF L n).lookup ("rules" : Str) = some (V.ref L.rd) := by kernel_rfl
theorem lp_pairs {L : PLoc} {n : Nat} : (parF L n).lookup ("pairs" : Str) = some (V.ref L.pd) := by kernel_rfl
theorem lp_spots {L : PLoc} {n : Nat} : (parF L n).lookup ("spots" : Str) = some (V.ref L.sd) := by kernel_rfl
theorem lp_no_peek {L : PLoc} {n : Nat} : (parF L n).lookup ("peek" : Str) = none := by kernel_rfl
theorem lp_no_fail {L : PLoc} {n : Nat} : (parF L n).lookup ("fail" : Str) = none := by kernel_rfl
theorem lp_no_found {L : PLoc} {n : Nat} : (parF L n).lookup ("found" : Str) = none := by kernel_rfl
theorem lp_no_take {L : PLoc} {n : Nat} : (parF L n).lookup ("take" : Str) = none := by kernel_rfl
theorem lp_no_take_word {L : PLoc} {n : Nat} : (parF L n).lookup ("take_word" : Str) = none := by kernel_rfl
theorem lp_no_take_keyword {L : PLoc} {n : Nat} : (parF L n).lookup ("take_keyword" : Str) = none := by kernel_rfl
theorem put_at {L : PLoc} {n : Nat} {v : Int} (m : Nat) (e : v = m) : putF "at" (.int v) (parF L n) = parF L m := by subst e; kernel_rfl
section
variable {P : Program} {w : World} {K : PySem.W.Frag} {mg : Str → Option Value} {base : Heap}
/-! ### peek, fail -/
def spPeek (K : PySem.W.Frag) : Sp := fun vs H Q _ => ∃ (H0 : Hp) (p : Addr) (L : PLoc) (tas : List Addr) (T : List Tk) (st : PSt), vs = [.ref p] ∧ PA K H0 H p L tas T st ∧ st.at_ < T.length ∧
  ∀ a, TI tas T a (peek T st) → Q (.ref a) H
theorem sc_peek : FnScope ["self"] ["self"] (defScope s_Parser_peek) := ⟨rfl, rfl, rfl, by decide +kernel, rfl, by decide +kernel, by decide +kernel⟩
theorem ok_peek (T : ParT K mg) : FnE P w K mg base CX0 1 ("Parser", some "peek") ["self"] (spPeek K) := by
  obtain ⟨fd, F⟩ := T.peek.d
  refine ⟨fd, F.ok sc_peek (fun vs H Q E h => ?_) (fun cdv A outer s H vs Q E hr h => ?_), F.bindsN fun _ _ _ _ _ _ us hl => match us, hl with | [_], _ => rfl, F.kp⟩
  · obtain ⟨H0, p, L, tas, Ts, st, rfl, _⟩ := h
    rfl
  · obtain ⟨H0, p, L, tas, Ts, st, rfl, hP, hi, k⟩ := h
    refine ⟨_, PSs.nox (pss_one (ps_ret (pe_ix ix_list (pe_fld (pv 0) rfl) (pe_fld (pv 0) rfl) (fun _ _ => rfl)))), ?_⟩
    obtain ⟨dx, ob⟩ := hP.ob
    obtain ⟨a, ha, hta⟩ := hP.here hi
    exact ⟨_, rfl, p, _, dx, _, _, rfl, ob, T.par.c, T.par.n _ (by simp), lp_tokens, _, rfl, p, _, dx, _, _, rfl, ob, T.par.c, T.par.n _ (by simp), lp_at, L.tl, _, _, _, rfl, rfl, SqL.of hP.tk, atI_nat (by rw [List.getElem?_map, ha]; rfl), k a hta⟩
def spFail (K : PySem.W.Frag) : Sp := fun vs H _ E => ∃ (H0 : Hp) (p : Addr) (L : PLoc) (tas : List Addr) (T : List Tk) (st : PSt), vs = [.ref p] ∧ PA K H0 H p L tas T st ∧ st.at_ < T.length ∧
  Syn K H0 E (failAt T st).1 (failAt T st).2
theorem sc_fail : FnScope ["self", "token"] ["self"] (defScope s_Parser_fail) := ⟨rfl, rfl, rfl, by decide +kernel, rfl, by decide +kernel, by decide +kernel⟩
theorem ok_fail (T : ParT K mg) : FnE P w K mg base (L2.CX P w) 3 ("Parser", some "fail") ["self"] (spFail K) := by
  obtain ⟨fd, F⟩ := T.fail.d
  obtain ⟨fdP, GP, bP, kP⟩ := ok_peek (P := P) (w := w) (base := base) T
  obtain ⟨fdS, GS, bS, kS⟩ := ok_syn (P := P) (w := w) (base := base) T.l.e
  refine ⟨fd, F.ok sc_fail (fun vs H Q E h => ?_) (fun cdv A outer s H vs Q E hr h => ?_), F.bindsN fun _ _ _ _ _ _ us hl => match us, hl with | [_], _ => rfl, F.kp⟩
  · obtain ⟨H0, p, L, tas, Ts, st, rfl, _⟩ := h
    rfl
  · obtain ⟨H0, p, L, tas, Ts, st, rfl, hP, hi, k⟩ := h
    have hr1 : Room 1 _ := hr.mono (by decide)
    refine ⟨_, (pss_cons (ps_set (i := 1) sc_fail.nd rfl (.inl rfl) (pe_meth0 (pv 0) T.par.c T.peek.m GP hr1 bP .nil pass0))
      (pss_one (ps_raise rfl (takes_of rfl rfl rfl rfl) (pmk_oex T.l.e.syn.o T.l.e.syn.i T.l.e.syn.t GS hr bS .nil pass0 rfl T.l.e.syn.g (pa_cons (pe_fld (pv 1) rfl) (pa_cons (pe_fld (pv 1) rfl) pa_nil)))))), ?_⟩
    obtain ⟨dx, ob⟩ := hP.ob
    refine ⟨_, rfl, p, dx, _, rfl, ob, lp_no_peek, H0, p, L, tas, Ts, st, rfl, hP, hi, fun a hta => ?_⟩
    obtain ⟨dt, ht⟩ := hP.get hta
    refine ⟨_, rfl, a, _, dt, _, _, rfl, ht, T.l.tok.c, T.l.tok.n _ (by simp), lk_line, _, rfl, a, _, dt, _, _, rfl, ht, T.l.tok.c, T.l.tok.n _ (by simp), lk_col, fault_at rfl (by simp) fun d H2 _ sm hx => ?_⟩
    exact k d H2 (hP.same.trans sm) hx
end
end Sw

end

section
set_option maxRecDepth 100000
set_option maxHeartbeats 4000000
/-! the parser's small methods, further -/
namespace Sw
open PySem PySem.Spec PyProof.Rows L2 SwA
/-- what a method's end asks: a value and the parser's next state, or a SyntaxFault -/
structure Res {α : Type} (K : PySem.W.Frag) (H0 : Hp) (p : Addr) (L : PLoc) (tas : List Addr) (T : List Tk) (r : PR α) (Q : VK) (E : XK) (ret : α → V → Prop) : Prop where
  ok : ∀ x s1, r = .ok (x, s1) → ∀ (v : V) (H' : Hp), ret x v → PA K H0 H' p L tas T s1 → Q v H'
  er : ∀ l c, r = .error (l, c) → Syn K H0 E l c
def retT (tas : List Addr) (T : List Tk) (t : Tk) (v : V) : Prop := ∃ a, v = .ref a ∧ TI tas T a t
def retU (_ : Unit) (v : V) : Prop := v = .non
def retN (n : Nat) (v : V) : Prop := v = .int n
theorem kd_inj : ∀ {a b : Kd}, a.str = b.str → a = b := by
  intro a b
  cases a <;> cases b <;> first | exact fun _ => rfl | exact fun h => absurd h (by decide +kernel)
section
variable {P : Program} {w : World} {K : PySem.W.Frag} {mg : Str → Option Value} {base : Heap}
/-! ### found -/
def spFound (K : PySem.W.Frag) : Sp := fun vs H Q _ => ∃ (H0 : Hp) (p : Addr) (L : PLoc) (tas : List Addr) (T : List Tk) (st : PSt) (reason : Cs) (a : Addr) (t : Tk), vs = [.ref p, sV reason, .ref a] ∧ PA K H0 H p L tas T st ∧
  TI tas T a t ∧ st.faults.length ≤ 1000000 ∧ ∀ H', PA K H0 H' p L tas T (st.found reason t) → Q .non H'
theorem sc_found : FnScope ["self", "reason", "token"] ["self", "reason", "token"] (defScope s_Parser_found) := ⟨rfl, rfl, rfl, by decide +kernel, rfl, by decide +kernel, by decide +kernel⟩
theorem ok_found (T : ParT K mg) : FnE P w K mg base CX0 1 ("Parser", some "found") ["self", "reason", "token"] (spFound K) := by
  obtain ⟨fd, F⟩ := T.found.d
  refine ⟨fd, F.ok sc_found (fun vs H Q E h => ?_) (fun cdv A outer s H vs Q E hr h => ?_), F.bindsN fun _ _ _ _ _ _ us hl => match us, hl with | [_, _, _], _ => rfl, F.kp⟩
  · obtain ⟨H0, p, L, tas, Ts, st, reason, a, t, rfl, _⟩ := h
    rfl
  · obtain ⟨H0, p, L, tas, Ts, st, reason, a, t, rfl, hP, hta, hz, k⟩ := h
    refine ⟨_, PSs.nox (pss_one (ps_expr (pe_bm PySem.F.plainAttrs_list PySem.F.slot_list_append PySem.F.type_list_append mt_append (pe_fld (pv 0) rfl)
      (pa_cons (pe_tup (pa_cons (pe_fld (pv 2) rfl) (pa_cons (pe_fld (pv 2) rfl) (pa_cons (pe_callB call_len_seq (by rfl) T.l.len boot_len (pa_cons (pe_fld (pv 0) rfl) pa_nil)) (pa_cons (pv 1) pa_nil))))) pa_nil)))), ?_⟩
    obtain ⟨dx, ob⟩ := hP.ob
    obtain ⟨dt, ht⟩ := hP.get hta
    obtain ⟨fas, hf, hfs⟩ := hP.fa
    refine ⟨_, rfl, p, _, dx, _, _, rfl, ob, T.par.c, T.par.n _ (by simp), lp_faults, .inl ⟨rfl, _, SqL.of hf⟩, ?_⟩
    refine ⟨_, rfl, a, _, dt, _, _, rfl, ht, T.l.tok.c, T.l.tok.n _ (by simp), lk_line, _, rfl, a, _, dt, _, _, rfl, ht, T.l.tok.c, T.l.tok.n _ (by simp), lk_col, _, rfl, p, _, dx, _, _, rfl, ob, T.par.c, T.par.n _ (by simp), lp_faults, L.fl, _, rfl, .inl (SqL.of hf), _, rfl,
      (by show 4 ≤ sizeLine; decide), fun tu ntu => ?_⟩
    have nf : L.fl ≠ tu := ne_of_none hf ntu
    have hlen : (fas.map V.ref).length < sizeLine := by
      rw [List.length_map, hfs.len, sizeLine_eq]
      omega
    refine ⟨L.fl, fas.map V.ref, .ref tu, rfl, rfl, by rw [upd_ne nf]; exact hf, hlen, ?_⟩
    have s1 : Same H (upd H tu (.tup [.int t.line, .int t.col, .int ((fas.map V.ref).length : Nat), sV reason])) := sameUpd (Same.refl H) ntu
    have hP1 := hP.mono s1
    obtain ⟨fas1, hf1, hfs1⟩ := hP1.fa
    have e1 : (fas.map V.ref ++ [V.ref tu]) = (fas ++ [tu]).map V.ref := by rw [List.map_append]; rfl
    rw [e1]
    refine k _ (hP1.set_fl (s1 _ _ hf) ?_)
    have z : fas.length = st.faults.length := hfs.len
    refine FaultsAt.snoc (hfs.mono fun b xs q => ?_) ?_
    · have q1 := s1 _ _ q
      rw [upd_ne (ne_of q1 (s1 _ _ hf) (by intro z; cases z))]
      exact q1
    · rw [upd_ne (Ne.symm nf), upd_same, List.length_map, z, Nat.zero_add]
/-! ### take, take_word, take_keyword -/
def spTake (K : PySem.W.Frag) : Sp := fun vs H Q E => ∃ (H0 : Hp) (p : Addr) (L : PLoc) (tas : List Addr) (T : List Tk) (st : PSt) (kd : Kd), vs = [.ref p, .str kd.str] ∧ PA K H0 H p L tas T st ∧ st.at_ < T.length ∧
  Res K H0 p L tas T (take T kd st) Q E (retT tas T)
def spTakeWord (K : PySem.W.Frag) : Sp := fun vs H Q E => ∃ (H0 : Hp) (p : Addr) (L : PLoc) (tas : List Addr) (T : List Tk) (st : PSt) (wd : Cs), vs = [.ref p, sV wd] ∧ PA K H0 H p L tas T st ∧ st.at_ < T.length ∧
  Res K H0 p L tas T (takeWord T wd st) Q E (retT tas T)
def spTakeKw (K : PySem.W.Frag) : Sp := fun vs H Q E => ∃ (H0 : Hp) (p : Addr) (L : PLoc) (tas : List Addr) (T : List Tk) (st : PSt) (b : Addr) (ws : List Cs), vs = [.ref p, .ref b] ∧ PA K H0 H p L tas T st ∧ st.at_ < T.length ∧
  SqT K H b (ws.map fun w => V.str (sx w)) ∧ Res K H0 p L tas T (takeKw T ws st) Q E (retT tas T)
theorem sc_take : FnScope ["self", "kind", "token"] ["self", "kind"] (defScope s_Parser_take) := ⟨rfl, rfl, rfl, by decide +kernel, rfl, by decide +kernel, by decide +kernel⟩
theorem sc_take_word : FnScope ["self", "word", "token"] ["self", "word"] (defScope s_Parser_take_word) := ⟨rfl, rfl, rfl, by decide +kernel, rfl, by decide +kernel, by decide +kernel⟩
theorem sc_take_keyword : FnScope ["self", "words", "token"] ["self", "words"] (defScope s_Parser_take_keyword) := ⟨rfl, rfl, rfl, by decide +kernel, rfl, by decide +kernel, by decide +kernel⟩
theorem ok_take (T : ParT K mg) : FnE P w K mg base (L2.CX P w) 4 ("Parser", some "take") ["self", "kind"] (spTake K) := by
  obtain ⟨fd, F⟩ := T.take.d
  obtain ⟨fdP, GP, bP, kP⟩ := ok_peek (P := P) (w := w) (base := base) T
  obtain ⟨fdS, GS, bS, kS⟩ := ok_fail (P := P) (w := w) (base := base) T
  refine ⟨fd, F.ok sc_take (fun vs H Q E h => ?_) (fun cdv A outer s H vs Q E hr h => ?_), F.bindsN fun _ _ _ _ _ _ us hl => match us, hl with | [_, _], _ => rfl, F.kp⟩
  · obtain ⟨H0, p, L, tas, Ts, st, kd, rfl, _⟩ := h
    rfl
  · obtain ⟨H0, p, L, tas, Ts, st, kd, rfl, hP, hi, R⟩ := h
    have hr1 : Room 1 _ := hr.mono (by decide)
    refine ⟨_, (pss_cons (ps_set (i := 2) sc_take.nd rfl (.inl rfl) (pe_meth0 (pv 0) T.par.c T.peek.m GP hr1 bP .nil pass0))
      (pss_cons (ps_if (pt_cmpR op_ne (pe_fld (pv 2) rfl) (pv 1) (nomark _)) (pss_one (ps_expr (pe_meth0 (pv 0) T.par.c T.fail.m GS hr bS .nil (passes_call (takes_of rfl rfl rfl rfl) (fun _ _ _ _ h => h))))) pss_nil)
      (pss_cons (ps_fldaug (pv 0) pe_int in_add) (pss_one (ps_ret (pv 2)))))), ?_⟩
    obtain ⟨dx, ob⟩ := hP.ob
    refine ⟨_, rfl, p, dx, _, rfl, ob, lp_no_peek, H0, p, L, tas, Ts, st, rfl, hP, hi, fun a hta => ?_⟩
    obtain ⟨dt, ht⟩ := hP.get hta
    refine ⟨_, rfl, a, _, dt, _, _, rfl, ht, T.l.tok.c, T.l.tok.n _ (by simp), lk_kind, _, rfl, rfl, _, rfl, ?_⟩
    refine ite2 (fun h => ?_) (fun h => ?_)
    · have h : (peek Ts st).kind ≠ kd := fun q => by
        rw [decide_eq_true (by rw [q])] at h
        exact absurd h (by decide)
      refine ⟨_, rfl, p, dx, _, rfl, ob, lp_no_fail, H0, p, L, tas, Ts, st, rfl, hP, hi, R.er _ _ ?_⟩
      unfold take
      rw [if_neg h]
    · have h : (peek Ts st).kind = kd := Decidable.byContradiction fun q => h (by
        rw [decide_eq_false fun z => q (kd_inj (V.str.inj z))]
        rfl)
      refine ⟨_, rfl, p, _, dx, _, _, rfl, ob, T.par.c, T.par.n _ (by simp), lp_at, _, _, rfl, rfl, dx, _, ob, (by show 9 < 1000; decide), ?_⟩
      rw [put_at (st.at_ + 1) (by simp)]
      refine ⟨_, rfl, R.ok _ _ (by unfold take; rw [if_pos h]; rfl) _ _ ⟨a, rfl, hta⟩ (hP.setAt T.ne ob)⟩
theorem ok_take_word (T : ParT K mg) : FnE P w K mg base (L2.CX P w) 4 ("Parser", some "take_word") ["self", "word"] (spTakeWord K) := by
  obtain ⟨fd, F⟩ := T.take_word.d
  obtain ⟨fdP, GP, bP, kP⟩ := ok_peek (P := P) (w := w) (base := base) T
  obtain ⟨fdS, GS, bS, kS⟩ := ok_fail (P := P) (w := w) (base := base) T
  refine ⟨fd, F.ok sc_take_word (fun vs H Q E h => ?_) (fun cdv A outer s H vs Q E hr h => ?_), F.bindsN fun _ _ _ _ _ _ us hl => match us, hl with | [_, _], _ => rfl, F.kp⟩
  · obtain ⟨H0, p, L, tas, Ts, st, kd, rfl, _⟩ := h
    rfl
  · obtain ⟨H0, p, L, tas, Ts, st, wd, rfl, hP, hi, R⟩ := h
    have hr1 : Room 1 _ := hr.mono (by decide)
    refine ⟨_, (pss_cons (ps_set (i := 2) sc_take_word.nd rfl (.inl rfl) (pe_meth0 (pv 0) T.par.c T.peek.m GP hr1 bP .nil pass0))
      (pss_cons (ps_if (pt_cmpR op_ne (pe_fld (pv 2) rfl) (pv 1) (nomark _)) (pss_one (ps_expr (pe_meth0 (pv 0) T.par.c T.fail.m GS hr bS .nil (passes_call (takes_of rfl rfl rfl rfl) (fun _ _ _ _ h => h))))) pss_nil)
      (pss_cons (ps_fldaug (pv 0) pe_int in_add) (pss_one (ps_ret (pv 2)))))), ?_⟩
    obtain ⟨dx, ob⟩ := hP.ob
    refine ⟨_, rfl, p, dx, _, rfl, ob, lp_no_peek, H0, p, L, tas, Ts, st, rfl, hP, hi, fun a hta => ?_⟩
    obtain ⟨dt, ht⟩ := hP.get hta
    refine ⟨_, rfl, a, _, dt, _, _, rfl, ht, T.l.tok.c, T.l.tok.n _ (by simp), lk_text, _, rfl, rfl, _, rfl, ?_⟩
    refine ite2 (fun h => ?_) (fun h => ?_)
    · have h : (peek Ts st).text ≠ wd := fun q => by
        rw [decide_eq_true (by rw [q])] at h
        exact absurd h (by decide)
      refine ⟨_, rfl, p, dx, _, rfl, ob, lp_no_fail, H0, p, L, tas, Ts, st, rfl, hP, hi, R.er _ _ ?_⟩
      unfold takeWord
      rw [if_neg h]
    · have h : (peek Ts st).text = wd := Decidable.byContradiction fun q => h (by
        rw [decide_eq_false fun z => q (sx_inj (V.str.inj z))]
        rfl)
      refine ⟨_, rfl, p, _, dx, _, _, rfl, ob, T.par.c, T.par.n _ (by simp), lp_at, _, _, rfl, rfl, dx, _, ob, (by show 9 < 1000; decide), ?_⟩
      rw [put_at (st.at_ + 1) (by simp)]
      refine ⟨_, rfl, R.ok _ _ (by unfold takeWord; rw [if_pos h]; rfl) _ _ ⟨a, rfl, hta⟩ (hP.setAt T.ne ob)⟩
theorem ok_take_keyword (T : ParT K mg) : FnE P w K mg base (L2.CX P w) 4 ("Parser", some "take_keyword") ["self", "words"] (spTakeKw K) := by
  obtain ⟨fd, F⟩ := T.take_keyword.d
  obtain ⟨fdP, GP, bP, kP⟩ := ok_peek (P := P) (w := w) (base := base) T
  obtain ⟨fdS, GS, bS, kS⟩ := ok_fail (P := P) (w := w) (base := base) T
  obtain ⟨t1, mKW⟩ := T.l.KEYWORD
  refine ⟨fd, F.ok sc_take_keyword (fun vs H Q E h => ?_) (fun cdv A outer s H vs Q E hr h => ?_), F.bindsN fun _ _ _ _ _ _ us hl => match us, hl with | [_, _], _ => rfl, F.kp⟩
  · obtain ⟨H0, p, L, tas, Ts, st, b, ws, rfl, _⟩ := h
    rfl
  · obtain ⟨H0, p, L, tas, Ts, st, b, ws, rfl, hP, hi, hb, R⟩ := h
    have hr1 : Room 1 _ := hr.mono (by decide)
    refine ⟨_, (pss_cons (ps_set (i := 2) sc_take_keyword.nd rfl (.inl rfl) (pe_meth0 (pv 0) T.par.c T.peek.m GP hr1 bP .nil pass0))
      (pss_cons (ps_if (PW.pt (pw_or (pt_cmpR op_ne (pe_fld (pv 2) rfl) (pe_glob (v := .str "keyword") rfl mKW ⟨_, rfl⟩) (nomark _)) (pw_or1 (pt_cmpR op_notIn_seq (pe_fld (pv 2) rfl) (pv 1) rfl))))
        (pss_one (ps_expr (pe_meth0 (pv 0) T.par.c T.fail.m GS hr bS .nil (passes_call (takes_of rfl rfl rfl rfl) (fun _ _ _ _ h => h))))) pss_nil)
      (pss_cons (ps_fldaug (pv 0) pe_int in_add) (pss_one (ps_ret (pv 2)))))), ?_⟩
    obtain ⟨dx, ob⟩ := hP.ob
    refine ⟨_, rfl, p, dx, _, rfl, ob, lp_no_peek, H0, p, L, tas, Ts, st, rfl, hP, hi, fun a hta => ?_⟩
    obtain ⟨dt, ht⟩ := hP.get hta
    have bad : ¬ ((peek Ts st).kind = .keyword ∧ (peek Ts st).text ∈ ws) → Syn K H0 E (failAt Ts st).1 (failAt Ts st).2 := fun q => R.er _ _ (by
      unfold takeKw
      rw [if_neg q])
    refine ⟨_, rfl, a, _, dt, _, _, rfl, ht, T.l.tok.c, T.l.tok.n _ (by simp), lk_kind, rfl, _, rfl, ?_⟩
    refine ite2 (fun h => ?_) (fun h => ?_)
    · have h : (peek Ts st).kind ≠ .keyword := fun q => by
        rw [decide_eq_true (by rw [q]; rfl)] at h
        exact absurd h (by decide)
      exact iteT ⟨_, rfl, p, dx, _, rfl, ob, lp_no_fail, H0, p, L, tas, Ts, st, rfl, hP, hi, bad fun q => h q.1⟩
    · have h : (peek Ts st).kind = .keyword := Decidable.byContradiction fun q => h (by
        show (!decide (V.str (peek Ts st).kind.str = V.str Kd.keyword.str)) = true
        rw [decide_eq_false fun z => q (kd_inj (b := .keyword) (V.str.inj z))]
        rfl)
      refine ⟨_, rfl, a, _, dt, _, _, rfl, ht, T.l.tok.c, T.l.tok.n _ (by simp), lk_text, _, rfl, b, _, rfl, .inr hb, rfl, flat_sx ws, _, rfl, ?_⟩
      rw [inV_sx]
      refine ite2 (fun h2 => ?_) (fun h2 => ?_)
      · have h2 : (peek Ts st).text ∉ ws := fun q => by
          rw [decide_eq_true q] at h2
          exact absurd h2 (by decide)
        exact ⟨_, rfl, p, dx, _, rfl, ob, lp_no_fail, H0, p, L, tas, Ts, st, rfl, hP, hi, bad fun q => h2 q.2⟩
      · have h2 : (peek Ts st).text ∈ ws := Decidable.byContradiction fun q => h2 (by
          rw [decide_eq_false q]
          rfl)
        refine ⟨_, rfl, p, _, dx, _, _, rfl, ob, T.par.c, T.par.n _ (by simp), lp_at, _, _, rfl, rfl, dx, _, ob, (by show 9 < 1000; decide), ?_⟩
        rw [put_at (st.at_ + 1) (by simp)]
        refine ⟨_, rfl, R.ok _ _ (by unfold takeKw; rw [if_pos ⟨h, h2⟩]; rfl) _ _ ⟨a, rfl, hta⟩ (hP.setAt T.ne ob)⟩
end
end Sw

end

section
set_option maxRecDepth 100000
set_option maxHeartbeats 4000000
/-! bounds along the mirror of the parser -/
namespace Sw
open PySem
structure GoodT (T : List Tk) : Prop where
  last : ∀ (i : Nat) t, T[i]? = some t → i + 1 = T.length → t.kind = .fin ∧ t.text = []
  ne : T ≠ []
  fin : ∀ (i : Nat) t, T[i]? = some t → t.kind = .fin → i + 1 = T.length
  num : ∀ t ∈ T, t.kind = .number → (1 ≤ t.text.length ∧ t.text.length ≤ 2) ∧ t.text.all isD = true
  len : T.length ≤ 100000
structure Bd (T : List Tk) (st : PSt) : Prop where
  at_ : st.at_ < T.length
  fa : st.faults.length ≤ 2 * st.at_
  si : st.signs.length ≤ 4
  mo : st.moods.length ≤ 6
  ro : st.robots.length ≤ st.at_
  ru : st.rules.length ≤ st.at_
  pr : st.pairs.length ≤ st.at_
  sp : st.spots.length ≤ st.at_
section
variable {T : List Tk} {st s1 : PSt}
theorem peek_get (h : st.at_ < T.length) : T[st.at_]? = some (peek T st) := by
  unfold peek
  rw [List.getD_eq_getElem?_getD, List.getElem?_eq_getElem h]
  rfl
theorem GoodT.more (G : GoodT T) (h : st.at_ < T.length) (hk : (peek T st).kind ≠ .fin) : st.at_ + 1 < T.length := by
  refine Nat.lt_of_le_of_ne h fun e => hk ?_
  exact (G.last _ _ (peek_get h) e).1
theorem take_ok {k : Kd} {t : Tk} (h : take T k st = .ok (t, s1)) : s1 = st.next ∧ t = peek T st ∧ t.kind = k := by
  unfold take at h
  split at h
  · rename_i q
    cases h
    exact ⟨rfl, rfl, q⟩
  · cases h
theorem takeWord_ok {wd : Cs} {t : Tk} (h : takeWord T wd st = .ok (t, s1)) : s1 = st.next ∧ t = peek T st ∧ t.text = wd := by
  unfold takeWord at h
  split at h
  · rename_i q
    cases h
    exact ⟨rfl, rfl, q⟩
  · cases h
theorem takeKw_ok {ws : List Cs} {t : Tk} (h : takeKw T ws st = .ok (t, s1)) : s1 = st.next ∧ t = peek T st ∧ t.kind = .keyword ∧ t.text ∈ ws := by
  unfold takeKw at h
  split at h
  · rename_i q
    cases h
    exact ⟨rfl, rfl, q.1, q.2⟩
  · cases h
theorem Bd.next (B : Bd T st) (h : st.at_ + 1 < T.length) : Bd T st.next := ⟨h, by have := B.fa; show st.faults.length ≤ 2 * (st.at_ + 1); omega, B.si, B.mo, by have := B.ro; show st.robots.length ≤ st.at_ + 1; omega, by have := B.ru; show st.rules.length ≤ st.at_ + 1; omega,
  by have := B.pr; show st.pairs.length ≤ st.at_ + 1; omega, by have := B.sp; show st.spots.length ≤ st.at_ + 1; omega⟩
/-- with room for one more fault -/
theorem Bd.next1 (B : Bd T st) (h : st.at_ + 1 < T.length) : Bd T st.next ∧ st.next.faults.length + 2 ≤ 2 * st.next.at_ := ⟨B.next h, by have := B.fa; show st.faults.length + 2 ≤ 2 * (st.at_ + 1); omega⟩
theorem Bd.found (B : Bd T st) {r : Cs} {t : Tk} (h : st.faults.length + 1 ≤ 2 * st.at_) : Bd T (st.found r t) := ⟨B.at_, by show (st.faults ++ [_]).length ≤ 2 * st.at_; simp; omega, B.si, B.mo, B.ro, B.ru, B.pr, B.sp⟩
theorem bd_take (G : GoodT T) (B : Bd T st) {k : Kd} {t : Tk} (h : take T k st = .ok (t, s1)) (hk : k ≠ .fin) : Bd T s1 ∧ s1.faults.length + 2 ≤ 2 * s1.at_ ∧ s1 = st.next ∧ t ∈ T := by
  obtain ⟨rfl, rfl, e⟩ := take_ok h
  have z := B.next1 (G.more B.at_ (by rw [e]; exact hk))
  exact ⟨z.1, z.2, rfl, List.mem_of_getElem? (peek_get B.at_)⟩
theorem bd_word (G : GoodT T) (B : Bd T st) {wd : Cs} {t : Tk} (h : takeWord T wd st = .ok (t, s1)) (hk : wd ≠ []) : Bd T s1 ∧ s1.faults.length + 2 ≤ 2 * s1.at_ ∧ s1 = st.next := by
  obtain ⟨rfl, rfl, e⟩ := takeWord_ok h
  have z := B.next1 (G.more B.at_ fun q => hk (by
    rw [← e]
    exact (G.last _ _ (peek_get B.at_) (G.fin _ _ (peek_get B.at_) q)).2))
  exact ⟨z.1, z.2, rfl⟩
theorem bd_kw (G : GoodT T) (B : Bd T st) {ws : List Cs} {t : Tk} (h : takeKw T ws st = .ok (t, s1)) : Bd T s1 ∧ s1.faults.length + 2 ≤ 2 * s1.at_ ∧ s1 = st.next := by
  obtain ⟨rfl, rfl, e, _⟩ := takeKw_ok h
  have z := B.next1 (G.more B.at_ (by rw [e]; decide))
  exact ⟨z.1, z.2, rfl⟩
theorem bd_number (B : Bd T st) {names : List Cs} {t : Tk} (h : st.faults.length + 1 ≤ 2 * st.at_) : Bd T (numberOf names t st).2 ∧ (numberOf names t st).2.at_ = st.at_ ∧ (numberOf names t st).2.faults.length ≤ st.faults.length + 1 := by
  unfold numberOf
  split
  · exact ⟨B, rfl, Nat.le_succ _⟩
  · exact ⟨B.found h, rfl, by show (st.faults ++ [_]).length ≤ _; simp⟩
theorem bd_tile (G : GoodT T) (B : Bd T st) {tiles n : Nat} (h : tileOf T tiles st = .ok (n, s1)) : Bd T s1 ∧ s1.faults.length + 1 ≤ 2 * s1.at_ ∧ s1.at_ = st.at_ + 1 ∧ s1.robots = st.robots ∧ s1.spots = st.spots := by
  unfold tileOf at h
  split at h
  · cases h
  · rename_i t s2 ht
    obtain ⟨B2, f2, rfl, hm⟩ := bd_take G B ht (by decide)
    cases h
    split
    · exact ⟨B2.found (by omega), by show (st.next.faults ++ [_]).length + 1 ≤ 2 * st.next.at_; simp; omega, rfl, rfl, rfl⟩
    · exact ⟨B2, by omega, rfl, rfl, rfl⟩
theorem more_spec (G : GoodT T) : ∀ (f : Nat) (st : PSt) (acc : List Tk), Bd T st → (∀ t ∈ acc, t.kind = .name) → acc.length + 1 ≤ st.at_ →
    Bd T (moreNames T f st acc).2 ∧ (∀ t ∈ (moreNames T f st acc).1, t.kind = .name) ∧ (moreNames T f st acc).1.length + 1 ≤ (moreNames T f st acc).2.at_ ∧ st.at_ ≤ (moreNames T f st acc).2.at_ ∧
    (moreNames T f st acc).2 = { st with at_ := (moreNames T f st acc).2.at_ } ∧ (moreNames T f st acc).1.length + st.at_ = acc.length + (moreNames T f st acc).2.at_
  | 0, st, acc, B, ha, hl => ⟨B, ha, hl, Nat.le_refl _, rfl, rfl⟩
  | f + 1, st, acc, B, ha, hl => by
    unfold moreNames
    split
    · rename_i hk
      have z := more_spec G f st.next (acc ++ [peek T st]) (B.next (G.more B.at_ (by rw [hk]; decide))) (by
        intro t ht
        rcases List.mem_append.mp ht with q | q
        · exact ha t q
        · have e : t = peek T st := by simpa using q
          rw [e]; exact hk) (by show (acc ++ [_]).length + 1 ≤ st.at_ + 1; simp; omega)
      obtain ⟨z1, z2, z3, z4, z5, z6⟩ := z
      refine ⟨z1, z2, z3, Nat.le_trans (Nat.le_succ _) z4, z5, ?_⟩
      have e : (acc ++ [peek T st]).length = acc.length + 1 := by simp
      have e2 : st.next.at_ = st.at_ + 1 := rfl
      rw [e, e2] at z6
      omega
    · exact ⟨B, ha, hl, Nat.le_refl _, rfl, rfl⟩
theorem add_spec (b : Bool) (st : PSt) (t : Tk) (hn : (st.names b).length ≤ mostOf b) : (addName b st t).at_ = st.at_ ∧ (addName b st t).faults.length ≤ st.faults.length + 1 ∧ ((addName b st t).names b).length ≤ mostOf b ∧
    (addName b st t).robots = st.robots ∧ (addName b st t).rules = st.rules ∧ (addName b st t).pairs = st.pairs ∧ (addName b st t).spots = st.spots ∧ (addName b st t).names (!b) = st.names (!b) := by
  unfold addName
  split
  · refine ⟨rfl, by simp [PSt.found], ?_, rfl, rfl, rfl, rfl, rfl⟩
    exact hn
  · split
    · refine ⟨rfl, by simp [PSt.found], ?_, rfl, rfl, rfl, rfl, rfl⟩
      exact hn
    · rename_i h
      cases b
      · refine ⟨rfl, Nat.le_succ _, ?_, rfl, rfl, rfl, rfl, rfl⟩
        have h2 : st.signs.length ≠ 4 := h
        have h3 : st.signs.length ≤ 4 := hn
        show (st.signs ++ [t.text]).length ≤ 4
        simp
        omega
      · refine ⟨rfl, Nat.le_succ _, ?_, rfl, rfl, rfl, rfl, rfl⟩
        have h2 : st.moods.length ≠ 6 := h
        have h3 : st.moods.length ≤ 6 := hn
        show (st.moods ++ [t.text]).length ≤ 6
        simp
        omega
theorem adds_spec (b : Bool) : ∀ (ts : List Tk) (st : PSt), (st.names b).length ≤ mostOf b → (ts.foldl (addName b) st).at_ = st.at_ ∧ (ts.foldl (addName b) st).faults.length ≤ st.faults.length + ts.length ∧
    ((ts.foldl (addName b) st).names b).length ≤ mostOf b ∧ (ts.foldl (addName b) st).robots = st.robots ∧ (ts.foldl (addName b) st).rules = st.rules ∧ (ts.foldl (addName b) st).pairs = st.pairs ∧
    (ts.foldl (addName b) st).spots = st.spots ∧ (ts.foldl (addName b) st).names (!b) = st.names (!b)
  | [], st, h => ⟨rfl, by simp, h, rfl, rfl, rfl, rfl, rfl⟩
  | t :: ts, st, h => by
    obtain ⟨a1, a2, a3, a4, a5, a6, a7, a8⟩ := add_spec b st t h
    obtain ⟨b1, b2, b3, b4, b5, b6, b7, b8⟩ := adds_spec b ts (addName b st t) a3
    rw [List.foldl_cons]
    refine ⟨b1.trans a1, ?_, b3, b4.trans a4, b5.trans a5, b6.trans a6, b7.trans a7, b8.trans a8⟩
    simp only [List.length_cons]
    omega
theorem wordOf_ne (b : Bool) : wordOf b ≠ [] := by cases b <;> decide
theorem Bd.names (B : Bd T st) (b : Bool) : (st.names b).length ≤ mostOf b := by
  cases b
  · exact B.si
  · exact B.mo
theorem bd_names (G : GoodT T) (B : Bd T st) {b : Bool} (h : parseNames T b st = .ok ((), s1)) : Bd T s1 := by
  unfold parseNames at h
  split at h
  · cases h
  · rename_i t0 s2 h2
    obtain ⟨B2, f2, rfl⟩ := bd_word G B h2 (wordOf_ne b)
    split at h
    · cases h
    · rename_i t s3 h3
      obtain ⟨B3, f3, rfl, _⟩ := bd_take G B2 h3 (by decide)
      have hk : t.kind = .name := (take_ok h3).2.2
      obtain ⟨z1, z2, z3, z4, z5, z6⟩ := more_spec G T.length st.next.next [t] B3 (by simp [hk]) (by show 1 + 1 ≤ st.at_ + 1 + 1; omega)
      split at h
      · cases h
      · rename_i t4 s4 h4
        cases h
        obtain ⟨B4, f4, rfl⟩ := bd_word G z1 h4 (by decide)
        obtain ⟨b1, b2, b3, b4, b5, b6, b7, b8⟩ := adds_spec b (moreNames T T.length st.next.next [t]).1 (moreNames T T.length st.next.next [t]).2.next (B4.names b)
        have e : (moreNames T T.length st.next.next [t]).2.next.at_ = (moreNames T T.length st.next.next [t]).2.at_ + 1 := rfl
        have e5 : (moreNames T T.length st.next.next [t]).2.next.faults = st.faults := by
          show (moreNames T T.length st.next.next [t]).2.faults = st.faults
          rw [z5]
          rfl
        have hf := B.fa
        have e6 : st.next.next.at_ = st.at_ + 2 := rfl
        refine ⟨by rw [b1]; exact B4.at_, ?_, ?_, ?_, by rw [b4, b1]; exact B4.ro, by rw [b5, b1]; exact B4.ru, by rw [b6, b1]; exact B4.pr, by rw [b7, b1]; exact B4.sp⟩
        · rw [b1, e]
          rw [e5] at b2
          rw [e6] at z6
          simp only [List.length_cons, List.length_nil] at z6
          omega
        · cases b
          · exact b3
          · rw [show (List.foldl (addName true) (moreNames T T.length st.next.next [t]).2.next (moreNames T T.length st.next.next [t]).1).signs = _ from b8]
            exact B4.si
        · cases b
          · rw [show (List.foldl (addName false) (moreNames T T.length st.next.next [t]).2.next (moreNames T T.length st.next.next [t]).1).moods = _ from b8]
            exact B4.mo
          · exact b3
theorem putA_len {κ α : Type} [DecidableEq κ] (l : List (κ × α)) (k : κ) (v : α) : (putA l k v).length ≤ l.length + 1 := by
  unfold putA
  split <;> simp
theorem bd_robot (G : GoodT T) (B : Bd T st) {tiles : Nat} (h : parseRobot T tiles st = .ok ((), s1)) : Bd T s1 ∧ st.at_ < s1.at_ := by
  unfold parseRobot at h
  split at h
  · cases h
  · rename_i kw s2 h2
    obtain ⟨B2, f2, rfl⟩ := bd_word G B h2 (by decide)
    have B3 : Bd T (if st.next.robots.length = 3 then st.next.found rRobots kw else st.next) := by
      split
      · exact B2.found (by omega)
      · exact B2
    have a3 : (if st.next.robots.length = 3 then st.next.found rRobots kw else st.next).at_ = st.at_ + 1 := by split <;> rfl
    have r3 : (if st.next.robots.length = 3 then st.next.found rRobots kw else st.next).robots = st.robots := by split <;> rfl
    split at h
    · cases h
    · rename_i n s4 h4
      obtain ⟨B4, f4, a4, r4, _⟩ := bd_tile G B3 h4
      split at h
      · cases h
      · rename_i wy s5 h5
        obtain ⟨B5, f5, rfl⟩ := bd_kw G B4 h5
        split at h
        · cases h
        · rename_i t6 s6 h6
          obtain ⟨B6, f6, rfl⟩ := bd_word G B5 h6 (by decide)
          cases h
          have e : s4.next.next.at_ = s4.at_ + 2 := rfl
          have hr : s4.next.next.robots = st.robots := r4.trans r3
          have hB := B.ro
          refine ⟨⟨B6.at_, B6.fa, B6.si, B6.mo, ?_, B6.ru, B6.pr, B6.sp⟩, ?_⟩
          · show (s4.next.next.robots ++ [_]).length ≤ s4.next.next.at_
            rw [hr, e]
            simp
            omega
          · show st.at_ < s4.next.next.at_
            omega
theorem bd_put (G : GoodT T) (B : Bd T st) {tiles : Nat} (h : parsePut T tiles st = .ok ((), s1)) : Bd T s1 ∧ st.at_ < s1.at_ := by
  unfold parsePut at h
  split at h
  · cases h
  · rename_i kw s2 h2
    obtain ⟨B2, f2, rfl⟩ := bd_word G B h2 (by decide)
    split at h
    · cases h
    · rename_i nm s3 h3
      obtain ⟨B3, f3, rfl, _⟩ := bd_take G B2 h3 (by decide)
      obtain ⟨B4, a4, f4⟩ := bd_number B3 (names := st.next.next.signs) (t := nm) (by omega)
      have sp4 : (numberOf st.next.next.signs nm st.next.next).2.spots = st.spots := by unfold numberOf; split <;> rfl
      split at h
      · cases h
      · rename_i n s5 h5
        obtain ⟨B5, f5, a5, r5, sp5⟩ := bd_tile G B4 h5
        split at h
        · cases h
        · rename_i t6 s6 h6
          obtain ⟨B6, f6, rfl⟩ := bd_word G B5 h6 (by decide)
          cases h
          have e : s5.next.at_ = s5.at_ + 1 := rfl
          have e2 : st.next.next.at_ = st.at_ + 2 := rfl
          have hs : s5.next.spots = st.spots := sp5.trans sp4
          have hB := B.sp
          have B7 : Bd T (if (s5.next.spots.any fun kv => decide (kv.1 = n)) = true then s5.next.found rAgain (peek T (numberOf st.next.next.signs nm st.next.next).2) else s5.next) := by
            split
            · exact B6.found (by omega)
            · exact B6
          have a7 : (if (s5.next.spots.any fun kv => decide (kv.1 = n)) = true then s5.next.found rAgain (peek T (numberOf st.next.next.signs nm st.next.next).2) else s5.next).at_ = s5.at_ + 1 := by split <;> rfl
          have s7 : (if (s5.next.spots.any fun kv => decide (kv.1 = n)) = true then s5.next.found rAgain (peek T (numberOf st.next.next.signs nm st.next.next).2) else s5.next).spots = st.spots := by split <;> exact hs
          refine ⟨⟨B7.at_, B7.fa, B7.si, B7.mo, B7.ro, B7.ru, B7.pr, ?_⟩, ?_⟩
          · refine Nat.le_trans (putA_len _ _ _) ?_
            rw [s7]
            show st.spots.length + 1 ≤ _
            rw [a7]
            omega
          · show st.at_ < _
            rw [a7]
            omega
theorem bd_rule (G : GoodT T) (B : Bd T st) (h : parseRule T st = .ok ((), s1)) : Bd T s1 ∧ st.at_ < s1.at_ := by
  unfold parseRule at h
  split at h
  · cases h
  rename_i kw s2 h2
  obtain ⟨B2, f2, rfl⟩ := bd_word G B h2 (by decide)
  split at h
  · cases h
  rename_i first s3 h3
  obtain ⟨B3, f3, rfl, _⟩ := bd_take G B2 h3 (by decide)
  obtain ⟨B3', a3', f3'⟩ := bd_number B3 (names := st.next.next.moods) (t := first) (by omega)
  have r3 : (numberOf st.next.next.moods first st.next.next).2.rules = st.rules ∧ (numberOf st.next.next.moods first st.next.next).2.pairs = st.pairs := by unfold numberOf; split <;> exact ⟨rfl, rfl⟩
  split at h
  · cases h
  rename_i second s4 h4
  obtain ⟨B4, f4, rfl, _⟩ := bd_take G B3' h4 (by decide)
  generalize hq4 : (numberOf st.next.next.moods first st.next.next).2.next = q4 at *
  have e4 : q4.at_ = st.at_ + 3 := by rw [← hq4]; show (numberOf st.next.next.moods first st.next.next).2.at_ + 1 = _; rw [a3']; rfl
  have r4 : q4.rules = st.rules ∧ q4.pairs = st.pairs := by rw [← hq4]; exact r3
  obtain ⟨B4', a4', f4'⟩ := bd_number B4 (names := q4.signs) (t := second) (by omega)
  have r4' : (numberOf q4.signs second q4).2.rules = st.rules ∧ (numberOf q4.signs second q4).2.pairs = st.pairs := by unfold numberOf; split <;> exact r4
  split at h
  · cases h
  rename_i t5 s5 h5
  obtain ⟨B5, f5, rfl⟩ := bd_word G B4' h5 (by decide)
  generalize hq5 : (numberOf q4.signs second q4).2.next = q5 at *
  have e5 : q5.at_ = st.at_ + 4 := by rw [← hq5]; show (numberOf q4.signs second q4).2.at_ + 1 = _; rw [a4', e4]
  have r5 : q5.rules = st.rules ∧ q5.pairs = st.pairs := by rw [← hq5]; exact r4'
  split at h
  · cases h
  rename_i lf s6 h6
  obtain ⟨B6, f6, rfl, _⟩ := bd_take G B5 h6 (by decide)
  obtain ⟨B6', a6', f6'⟩ := bd_number B6 (names := q5.next.signs) (t := lf) (by omega)
  have r6' : (numberOf q5.next.signs lf q5.next).2.rules = st.rules ∧ (numberOf q5.next.signs lf q5.next).2.pairs = st.pairs := by unfold numberOf; split <;> exact r5
  split at h
  · cases h
  rename_i mv s7 h7
  obtain ⟨B7, f7, rfl⟩ := bd_kw G B6' h7
  generalize hq7 : (numberOf q5.next.signs lf q5.next).2.next = q7 at *
  have e7 : q7.at_ = st.at_ + 6 := by rw [← hq7]; show (numberOf q5.next.signs lf q5.next).2.at_ + 1 = _; rw [a6']; show q5.at_ + 1 + 1 = _; rw [e5]
  have r7 : q7.rules = st.rules ∧ q7.pairs = st.pairs := by rw [← hq7]; exact r6'
  split at h
  · cases h
  rename_i la s8 h8
  obtain ⟨B8, f8, rfl, _⟩ := bd_take G B7 h8 (by decide)
  obtain ⟨B8', a8', f8'⟩ := bd_number B8 (names := q7.next.moods) (t := la) (by omega)
  have r8' : (numberOf q7.next.moods la q7.next).2.rules = st.rules ∧ (numberOf q7.next.moods la q7.next).2.pairs = st.pairs := by unfold numberOf; split <;> exact r7
  split at h
  · cases h
  rename_i t9 s9 h9
  obtain ⟨B9, f9, rfl⟩ := bd_word G B8' h9 (by decide)
  generalize hq9 : (numberOf q7.next.moods la q7.next).2.next = q9 at *
  have e9 : q9.at_ = st.at_ + 8 := by rw [← hq9]; show (numberOf q7.next.moods la q7.next).2.at_ + 1 = _; rw [a8']; show q7.at_ + 1 + 1 = _; rw [e7]
  have r9 : q9.rules = st.rules ∧ q9.pairs = st.pairs := by rw [← hq9]; exact r8'
  cases h
  have hB := B.ru
  have hB2 := B.pr
  generalize hz : (if (first.text, second.text) ∈ q9.pairs then q9.found rTwice kw else q9) = z
  have Bz : Bd T z := by
    rw [← hz]
    split
    · exact B9.found (by omega)
    · exact B9
  have az : z.at_ = st.at_ + 8 := by rw [← hz]; split <;> exact e9
  have rz : z.rules = st.rules ∧ z.pairs = st.pairs := by rw [← hz]; split <;> exact r9
  refine ⟨⟨Bz.at_, Bz.fa, Bz.si, Bz.mo, Bz.ro, ?_, ?_, Bz.sp⟩, by show st.at_ < z.at_; omega⟩
  · refine Nat.le_trans (putA_len _ _ _) ?_
    show z.rules.length + 1 ≤ z.at_
    rw [rz.1, az]
    omega
  · show (if (first.text, second.text) ∈ z.pairs then z.pairs else z.pairs ++ [(first.text, second.text)]).length ≤ z.at_
    rw [az]
    split
    · rw [rz.2]; omega
    · rw [rz.2]; simp; omega
theorem bd_stmt (G : GoodT T) (B : Bd T st) {tiles : Nat} (h : parseStmt T tiles st = .ok ((), s1)) : Bd T s1 ∧ st.at_ < s1.at_ := by
  unfold parseStmt at h
  split at h
  · exact bd_robot G B h
  split at h
  · exact bd_put G B h
  split at h
  · exact bd_rule G B h
  · cases h
end
end Sw

end

section
set_option maxRecDepth 100000
set_option maxHeartbeats 4000000
/-! number_of, tile_of, the names -/
namespace Sw
open PySem PySem.Spec PyProof.Rows L2 SwA
def PLoc.nm (L : PLoc) (b : Bool) : Addr := if b then L.ml else L.sl
theorem idx_spec : ∀ {l : List Cs} {w : Cs}, w ∈ l → l[l.idxOf w]? = some w ∧ ∀ (m : Nat) z, m < l.idxOf w → l[m]? = some z → z ≠ w
  | [], w, h => by cases h
  | a :: r, w, h => by
    by_cases e : a = w
    · subst e
      have z : (a :: r).idxOf a = 0 := by simp [List.idxOf_cons]
      rw [z]
      exact ⟨rfl, fun m z hm => absurd hm (Nat.not_lt_zero m)⟩
    · have z : (a :: r).idxOf w = r.idxOf w + 1 := by
        rw [List.idxOf_cons]
        have : (a == w) = false := by simpa using e
        rw [this]
        rfl
      have hr : w ∈ r := by
        rcases List.mem_cons.mp h with q | q
        · exact absurd q.symm e
        · exact q
      obtain ⟨h1, h2⟩ := idx_spec hr
      rw [z]
      refine ⟨by simpa using h1, fun m y hm hy => ?_⟩
      cases m with
      | zero =>
        have : a = y := by simpa using hy
        rw [← this]
        exact e
      | succ m => exact h2 m y (by omega) (by simpa using hy)
section
variable {K : PySem.W.Frag} {H0 H H' : Hp} {p : Addr} {L : PLoc} {tas : List Addr} {T : List Tk} {st : PSt}
theorem PA.nmH (h : PA K H0 H p L tas T st) (b : Bool) : H (L.nm b) = some (.lst ((st.names b).map sV)) := by
  cases b
  · exact h.si
  · exact h.mo
/-- an object beside the parser is kept in mind -/
theorem PA.frame (h : PA K H0 H p L tas T st) {q : Addr} {o : HO} (hq : H q = some o) (hne : q ∉ [p, L.tl, L.fl, L.sl, L.ml, L.rl, L.rd, L.pd, L.sd]) : PA K (upd H0 q o) H p L tas T st :=
  ⟨fun b u e => by
    by_cases hb : b = q
    · rw [hb, upd_same] at e
      cases e
      rw [hb]
      exact hq
    · rw [upd_ne hb] at e
      exact h.same _ _ e, h.ob, h.tk, h.tks, h.fa, h.si, h.mo, h.ro, h.ru, h.pr, h.sp, h.nd, fun a ha => by
    rw [upd_ne fun z => hne (by rw [← z]; exact ha)]
    exact h.new a ha⟩
theorem PA.unframe {q : Addr} {o : HO} (h : PA K (upd H0 q o) H p L tas T st) (nq : H0 q = none) : PA K H0 H p L tas T st ∧ H q = some o :=
  ⟨⟨(sameUpd (Same.refl H0) nq).trans h.same, h.ob, h.tk, h.tks, h.fa, h.si, h.mo, h.ro, h.ru, h.pr, h.sp, h.nd, fun a ha => (sameUpd (o := o) (Same.refl H0) nq).free (h.new a ha)⟩, h.same _ _ upd_same⟩
theorem PA.notin (h : PA K H0 H p L tas T st) {q : Addr} (hq : H q = none) : q ∉ [p, L.tl, L.fl, L.sl, L.ml, L.rl, L.rd, L.pd, L.sd] := by
  intro z
  simp only [List.mem_cons, List.not_mem_nil, or_false] at z
  obtain ⟨dx, ob⟩ := h.ob
  obtain ⟨fas, hf, _⟩ := h.fa
  obtain ⟨ras, hr, _⟩ := h.ro
  obtain ⟨kvs, hk, _⟩ := h.ru
  rcases z with z | z | z | z | z | z | z | z | z
  · rw [z, ob] at hq; cases hq
  · rw [z, h.tk] at hq; cases hq
  · rw [z, hf] at hq; cases hq
  · rw [z, h.si] at hq; cases hq
  · rw [z, h.mo] at hq; cases hq
  · rw [z, hr] at hq; cases hq
  · rw [z, hk] at hq; cases hq
  · rw [z, h.pr] at hq; cases hq
  · rw [z, h.sp] at hq; cases hq
/-- a list beside the parser is changed -/
theorem PA.updList (h : PA K H0 H p L tas T st) {q : Addr} {xs ys : List V} (hq : H q = some (.lst xs)) (nq : H0 q = none) (hne : q ∉ [p, L.tl, L.fl, L.sl, L.ml, L.rl, L.rd, L.pd, L.sd]) : PA K H0 (upd H q (.lst ys)) p L tas T st := by
  have ne : ∀ a ∈ [p, L.tl, L.fl, L.sl, L.ml, L.rl, L.rd, L.pd, L.sd], a ≠ q := fun a ha z => hne (by rw [← z]; exact ha)
  have kt := keepT (o' := .lst ys) hq (fun xs q => by cases q)
  have kk := keepK (K := K) (o' := .lst ys) hq (fun C d fs q => by cases q)
  exact ⟨sameUpd h.same nq, (let ⟨dx, e⟩ := h.ob; ⟨dx, (upd_ne (ne _ (by simp))).trans e⟩), (upd_ne (ne _ (by simp))).trans h.tk, Paired.mapP h.tks fun a t q => kk a t q,
    (let ⟨fas, e1, e2⟩ := h.fa; ⟨fas, (upd_ne (ne _ (by simp))).trans e1, e2.mono kt⟩), (upd_ne (ne _ (by simp))).trans h.si, (upd_ne (ne _ (by simp))).trans h.mo,
    (let ⟨ras, e1, e2⟩ := h.ro; ⟨ras, (upd_ne (ne _ (by simp))).trans e1, Paired.mapP e2 fun _ _ q => kt _ _ q⟩),
    (let ⟨kvs, e1, e2⟩ := h.ru; ⟨kvs, (upd_ne (ne _ (by simp))).trans e1, Paired.mapP e2 fun _ _ q => q.mono kt⟩), (upd_ne (ne _ (by simp))).trans h.pr, (upd_ne (ne _ (by simp))).trans h.sp, h.nd, h.new⟩
end
theorem lp_no_number_of {L : PLoc} {n : Nat} : (parF L n).lookup ("number_of" : Str) = none := by kernel_rfl
theorem lp_no_tile_of {L : PLoc} {n : Nat} : (parF L n).lookup ("tile_of" : Str) = none := by kernel_rfl
theorem e_unknown : ("unknown" : Str) = sx rUnknown := by decide +kernel
theorem e_tile : ("tile" : Str) = sx rTile := by decide +kernel
theorem e_duplicate : ("duplicate" : Str) = sx rDuplicate := by decide +kernel
theorem e_semi : (";" : Str) = sx wSemi := by decide +kernel
theorem e_robot : ("robot" : Str) = sx wRobot := by decide +kernel
theorem e_robots : ("robots" : Str) = sx rRobots := by decide +kernel
theorem e_right : ("right" : Str) = sx wRight := by decide +kernel
theorem e_put : ("put" : Str) = sx wPut := by decide +kernel
theorem e_again : ("again" : Str) = sx rAgain := by decide +kernel
theorem e_when : ("when" : Str) = sx wWhen := by decide +kernel
theorem e_leave : ("leave" : Str) = sx wLeave := by decide +kernel
theorem e_twice : ("twice" : Str) = sx rTwice := by decide +kernel
theorem e_corridor : ("corridor" : Str) = sx wCorridor := by decide +kernel
theorem e_signs : ("signs" : Str) = sx wSigns := by decide +kernel
theorem e_moods : ("moods" : Str) = sx wMoods := by decide +kernel
section
variable {P : Program} {w : World} {K : PySem.W.Frag} {mg : Str → Option Value} {base : Heap}
def spNumberOf (K : PySem.W.Frag) : Sp := fun vs H Q _ => ∃ (H0 : Hp) (p : Addr) (L : PLoc) (tas : List Addr) (T : List Tk) (st : PSt) (b : Bool) (a : Addr) (t : Tk), vs = [.ref p, .ref (L.nm b), .ref a] ∧ PA K H0 H p L tas T st ∧
  TI tas T a t ∧ st.faults.length ≤ 1000000 ∧ ∀ H', PA K H0 H' p L tas T (numberOf (st.names b) t st).2 → Q (.int (numberOf (st.names b) t st).1) H'
theorem sc_number_of : FnScope ["self", "names", "token"] ["self", "names", "token"] (defScope s_Parser_number_of) := ⟨rfl, rfl, rfl, by decide +kernel, rfl, by decide +kernel, by decide +kernel⟩
theorem ok_number_of (T : ParT K mg) : FnE P w K mg base CX0 2 ("Parser", some "number_of") ["self", "names", "token"] (spNumberOf K) := by
  obtain ⟨fd, F⟩ := T.number_of.d
  obtain ⟨fdF, GF, bF, kF⟩ := ok_found (P := P) (w := w) (base := base) T
  refine ⟨fd, F.ok sc_number_of (fun vs H Q E h => ?_) (fun cdv A outer s H vs Q E hr h => ?_), F.bindsN fun _ _ _ _ _ _ us hl => match us, hl with | [_, _, _], _ => rfl, F.kp⟩
  · obtain ⟨H0, p, L, tas, Ts, st, b, a, t, rfl, _⟩ := h
    rfl
  · obtain ⟨H0, p, L, tas, Ts, st, b, a, t, rfl, hP, hta, hz, k⟩ := h
    refine ⟨_, PSs.nox (pss_cons (ps_if (pt_cmpR op_in_seq (pe_fld (pv 2) rfl) (pv 1) rfl)
        (pss_one (ps_ret (pe_bm PySem.F.plainAttrs_list PySem.F.slot_list_index PySem.F.type_list_index mt_index (pv 1) (pa_cons (pe_fld (pv 2) rfl) pa_nil)))) pss_nil)
      (pss_cons (ps_expr (pe_meth (pv 0) T.par.c T.found.m GF hr bF .nil pass0 (pa_cons pe_str (pa_cons (pv 2) pa_nil)))) (pss_one (ps_ret pe_int)))), ?_⟩
    obtain ⟨dx, ob⟩ := hP.ob
    obtain ⟨dt, ht⟩ := hP.get hta
    have hn := hP.nmH b
    refine ⟨_, rfl, a, _, dt, _, _, rfl, ht, T.l.tok.c, T.l.tok.n _ (by simp), lk_text, _, rfl, L.nm b, _, rfl, .inl (SqL.of hn), rfl, flat_sx _, _, rfl, ?_⟩
    rw [inV_sx]
    refine ite2 (fun h => ?_) (fun h => ?_)
    · have h : t.text ∈ st.names b := of_decide_eq_true h
      obtain ⟨i1, i2⟩ := idx_spec h
      have k1 := k H (by unfold numberOf; rw [if_pos h]; exact hP)
      have e : (numberOf (st.names b) t st).1 = (st.names b).idxOf t.text := by unfold numberOf; rw [if_pos h]
      rw [e] at k1
      refine ⟨_, rfl, .inl ⟨rfl, _, SqL.of hn⟩, _, rfl, a, _, dt, _, _, rfl, ht, T.l.tok.c, T.l.tok.n _ (by simp), lk_text, L.nm b, _, _, (st.names b).idxOf t.text, sV t.text, rfl, rfl, SqL.of hn, rfl, flat_sx _, by rw [List.getElem?_map, i1]; rfl, by rw [eq_str_sx]; exact decide_eq_true rfl, fun m z' hm hz' => ?_, k1⟩
      rw [List.getElem?_map] at hz'
      cases q : (st.names b)[m]? with
      | none => rw [q] at hz'; cases hz'
      | some y =>
        rw [q] at hz'
        cases hz'
        rw [eq_str_sx]
        exact decide_eq_false (i2 m y hm q)
    · have h : t.text ∉ st.names b := fun q => h (decide_eq_true q)
      refine ⟨_, rfl, p, dx, _, rfl, ob, lp_no_found, _, rfl, H0, p, L, tas, Ts, st, rUnknown, a, t, by rw [e_unknown]; rfl, hP, hta, hz, fun H' hP' => ?_⟩
      have k1 := k H' (by unfold numberOf; rw [if_neg h]; exact hP')
      have e : (numberOf (st.names b) t st).1 = 0 := by unfold numberOf; rw [if_neg h]
      rw [e] at k1
      exact k1
def spTileOf (K : PySem.W.Frag) : Sp := fun vs H Q E => ∃ (H0 : Hp) (p : Addr) (L : PLoc) (tas : List Addr) (T : List Tk) (st : PSt) (tiles : Nat), vs = [.ref p, .int tiles] ∧ PA K H0 H p L tas T st ∧ GoodT T ∧ st.at_ < T.length ∧ st.faults.length ≤ 1000000 ∧
  Res K H0 p L tas T (tileOf T tiles st) Q E retN
theorem sc_tile_of : FnScope ["self", "tiles", "token"] ["self", "tiles"] (defScope s_Parser_tile_of) := ⟨rfl, rfl, rfl, by decide +kernel, rfl, by decide +kernel, by decide +kernel⟩
theorem TI.mem {tas : List Addr} {T : List Tk} {a : Addr} {t : Tk} (h : TI tas T a t) : t ∈ T := let ⟨_, _, e⟩ := h; List.mem_of_getElem? e
theorem int_sx {w : Cs} (h : w.all isD = true) (h1 : 1 ≤ w.length) (h2 : w.length ≤ 2) : intText? (sx w) = some (numVal w : Int) := by
  have e : (sx w).cps.toList = w := rfl
  have z := PySem.intText_digits (x := sx w) (by
    rw [e]
    intro c hc
    have q := List.all_eq_true.mp h c hc
    unfold isD at q
    rw [Bool.and_eq_true] at q
    exact ⟨Nat.le_of_ble_eq_true q.1, Nat.le_of_ble_eq_true q.2⟩) (by rw [e]; intro q; rw [q] at h1; simp at h1) (by rw [len_sx]; omega)
  rw [e] at z
  exact z
theorem ok_tile_of (T : ParT K mg) : FnE P w K mg base (L2.CX P w) 5 ("Parser", some "tile_of") ["self", "tiles"] (spTileOf K) := by
  obtain ⟨fd, F⟩ := T.tile_of.d
  obtain ⟨fdF, GF, bF, kF⟩ := ok_found (P := P) (w := w) (base := base) T
  obtain ⟨fdT, GT, bT, kT⟩ := ok_take (P := P) (w := w) (base := base) T
  obtain ⟨t1, mNUM⟩ := T.l.NUMBER
  refine ⟨fd, F.ok sc_tile_of (fun vs H Q E h => ?_) (fun cdv A outer s H vs Q E hr h => ?_), F.bindsN fun _ _ _ _ _ _ us hl => match us, hl with | [_, _], _ => rfl, F.kp⟩
  · obtain ⟨H0, p, L, tas, Ts, st, tiles, rfl, _⟩ := h
    rfl
  · obtain ⟨H0, p, L, tas, Ts, st, tiles, rfl, hP, hG, hi, hz, R⟩ := h
    have hr1 : Room 1 _ := hr.mono (by decide)
    refine ⟨_, (pss_cons (ps_set (i := 2) sc_tile_of.nd rfl (.inl rfl) (pe_meth (pv 0) T.par.c T.take.m GT hr bT .nil (passes_call (takes_of rfl rfl rfl rfl) (fun _ _ _ _ h => h)) (pa_cons (pe_glob (v := .str "number") rfl mNUM ⟨_, rfl⟩) pa_nil)))
      (pss_cons (ps_if (pt_cmpR op_ge (pe_callTy call_int_str (by rfl) T.int (by decide +kernel) (pa_cons (pe_fld (pv 2) rfl) pa_nil)) (pv 1) (nomark _))
        (pss_one (ps_expr (pe_meth (pv 0) T.par.c T.found.m GF hr1 bF .nil pass0 (pa_cons pe_str (pa_cons (pv 2) pa_nil))))) pss_nil)
      (pss_one (ps_ret (pe_callTy call_int_str (by rfl) T.int (by decide +kernel) (pa_cons (pe_fld (pv 2) rfl) pa_nil)))))), ?_⟩
    obtain ⟨dx, ob⟩ := hP.ob
    refine ⟨_, rfl, p, dx, _, rfl, ob, lp_no_take, H0, p, L, tas, Ts, st, .number, rfl, hP, hi, ⟨fun t s1 ht v H1 hv hP1 => ?_, fun l c he => R.er l c (by simp only [tileOf, he])⟩⟩
    obtain ⟨a, rfl, hta⟩ := hv
    have hk := (take_ok ht).2.2
    have hs1 := (take_ok ht).1
    obtain ⟨⟨n1, n2⟩, n3⟩ := hG.num t hta.mem hk
    have hint := int_sx n3 n1 n2
    obtain ⟨dt, htk⟩ := hP1.get hta
    obtain ⟨dx1, ob1⟩ := hP1.ob
    refine ⟨_, rfl, a, _, dt, _, _, rfl, htk, T.l.tok.c, T.l.tok.n _ (by simp), lk_text, _, _, rfl, hint, by rw [len_sx]; omega, _, rfl, _, _, rfl, rfl, _, rfl, ?_⟩
    refine ite2 (fun h => ?_) (fun h => ?_)
    · have h := of_decide_eq_true h
      refine ⟨_, rfl, p, dx1, _, rfl, ob1, lp_no_found, _, rfl, H0, p, L, tas, Ts, s1, rTile, a, t, by rw [e_tile]; rfl, hP1, hta, by rw [hs1]; exact hz, fun H2 hP2 => ?_⟩
      obtain ⟨dt2, htk2⟩ := hP2.get hta
      refine ⟨_, rfl, a, _, dt2, _, _, rfl, htk2, T.l.tok.c, T.l.tok.n _ (by simp), lk_text, _, _, rfl, hint, by rw [len_sx]; omega, ?_⟩
      exact R.ok (numVal t.text) _ (by simp only [tileOf, ht, if_pos (show tiles ≤ numVal t.text by omega)]) _ _ rfl hP2
    · have h : ¬ (tiles : Int) ≤ (numVal t.text : Nat) := fun q => h (decide_eq_true q)
      refine ⟨_, rfl, a, _, dt, _, _, rfl, htk, T.l.tok.c, T.l.tok.n _ (by simp), lk_text, _, _, rfl, hint, by rw [len_sx]; omega, ?_⟩
      exact R.ok (numVal t.text) _ (by simp only [tileOf, ht, if_neg (show ¬ tiles ≤ numVal t.text by omega)]) _ _ rfl hP1
end
end Sw

end

section
set_option maxRecDepth 100000
set_option maxHeartbeats 4000000
/-! parse_names -/
namespace Sw
open PySem PySem.Spec PyProof.Rows L2 SwA
theorem Paired_idx {α β : Type} {F : α → β → Prop} : ∀ {l : List α} {m : List β} {i : Nat} {a : α}, Paired F l m → l[i]? = some a → ∃ b, m[i]? = some b ∧ F a b
  | _, _, i, _, .nil, h => by simp at h
  | _, _, 0, _, .cons x r, h => by simp at h; subst h; exact ⟨_, rfl, x⟩
  | _, _, i + 1, _, .cons x r, h => by
    obtain ⟨b, e, f⟩ := Paired_idx r (i := i) (by simpa using h)
    exact ⟨b, by simpa using e, f⟩
section
variable {P : Program} {w : World} {K : PySem.W.Frag} {mg : Str → Option Value} {base : Heap}
def spParseNames (K : PySem.W.Frag) : Sp := fun vs H Q E => ∃ (H0 : Hp) (p : Addr) (L : PLoc) (tas : List Addr) (T : List Tk) (st : PSt) (b : Bool), vs = [.ref p, sV (wordOf b), .ref (L.nm b), .int (mostOf b)] ∧ PA K H0 H p L tas T st ∧ GoodT T ∧ Bd T st ∧
  Res K H0 p L tas T (parseNames T b st) Q E retU
theorem sc_parse_names : FnScope ["self", "word", "names", "most", "tokens", "token"] ["self", "word", "names", "most"] (defScope s_Parser_parse_names) := ⟨rfl, rfl, rfl, by decide +kernel, rfl, by decide +kernel, by decide +kernel⟩
theorem ok_parse_names (T : ParT K mg) : FnE P w K mg base (L2.CX P w) 5 ("Parser", some "parse_names") ["self", "word", "names", "most"] (spParseNames K) := by
  obtain ⟨fd, F⟩ := T.parse_names.d
  obtain ⟨fdP, GP, bP, kP⟩ := ok_peek (P := P) (w := w) (base := base) T
  obtain ⟨fdF, GF, bF, kF⟩ := ok_found (P := P) (w := w) (base := base) T
  obtain ⟨fdT, GT, bT, kT⟩ := ok_take (P := P) (w := w) (base := base) T
  obtain ⟨fdW, GW, bW, kW⟩ := ok_take_word (P := P) (w := w) (base := base) T
  obtain ⟨t1, mNAME⟩ := T.l.NAME
  refine ⟨fd, F.ok sc_parse_names (fun vs H Q E h => ?_) (fun cdv A outer s H vs Q E hr h => ?_), F.bindsN fun _ _ _ _ _ _ us hl => match us, hl with | [_, _, _, _], _ => rfl, F.kp⟩
  · obtain ⟨H0, p, L, tas, Ts, st, b, rfl, _⟩ := h
    rfl
  · obtain ⟨H0, p, L, tas, Ts, st, b, rfl, hP, hG, hB, R⟩ := h
    have hr1 : Room 1 _ := hr.mono (by decide)
    refine ⟨_, (pss_cons (ps_expr (pe_meth (pv 0) T.par.c T.take_word.m GW hr bW .nil (passes_call (takes_of rfl rfl rfl rfl) (fun _ _ _ _ h => h)) (pa_cons (pv 1) pa_nil)))
      (pss_cons (ps_set (i := 4) sc_parse_names.nd rfl (.inl rfl) (pe_lst (pa_cons (pe_meth (pv 0) T.par.c T.take.m GT hr bT .nil (passes_call (takes_of rfl rfl rfl rfl) (fun _ _ _ _ h => h)) (pa_cons (pe_glob (v := .str "name") rfl mNAME ⟨_, rfl⟩) pa_nil)) pa_nil)))
      (pss_cons (ps_while (passes_of rfl) (pt_cmpR op_eq (pe_fld (pe_meth0 (pv 0) T.par.c T.peek.m GP hr1 bP .nil pass0) rfl) (pe_glob (v := .str "name") rfl mNAME ⟨_, rfl⟩) (nomark _))
        (pss_one (ps_expr (pe_bm PySem.F.plainAttrs_list PySem.F.slot_list_append PySem.F.type_list_append mt_append (pv 4) (pa_cons (pe_meth (pv 0) T.par.c T.take.m GT hr bT .nil (passes_call (takes_of rfl rfl rfl rfl) (fun _ _ _ _ h => h)) (pa_cons (pe_glob (v := .str "name") rfl mNAME ⟨_, rfl⟩) pa_nil)) pa_nil)))))
      (pss_cons (ps_expr (pe_meth (pv 0) T.par.c T.take_word.m GW hr bW .nil (passes_call (takes_of rfl rfl rfl rfl) (fun _ _ _ _ h => h)) (pa_cons pe_str pa_nil)))
      (pss_one (ps_for (passes_of rfl) rfl (pi_list (pv 4)) (pg_name (i := 5) sc_parse_names.nd rfl (.inl rfl))
        (pss_one (ps_if (pt_cmpR op_in_seq (pe_fld (pv 5) rfl) (pv 2) rfl)
          (pss_one (ps_expr (pe_meth (pv 0) T.par.c T.found.m GF hr1 bF .nil pass0 (pa_cons pe_str (pa_cons (pv 5) pa_nil)))))
          (pss_one (ps_if (pt_cmpR op_eq (pe_callB call_len_seq (by rfl) T.l.len boot_len (pa_cons (pv 2) pa_nil)) (pv 3) (nomark _))
            (pss_one (ps_expr (pe_meth (pv 0) T.par.c T.found.m GF hr1 bF .nil pass0 (pa_cons (pv 1) (pa_cons (pv 5) pa_nil)))))
            (pss_one (ps_expr (pe_bm PySem.F.plainAttrs_list PySem.F.slot_list_append PySem.F.type_list_append mt_append (pv 2) (pa_cons (pe_fld (pv 5) rfl) pa_nil)))))))))))))), ?_⟩
    obtain ⟨dx, ob⟩ := hP.ob
    refine ⟨_, rfl, p, dx, _, rfl, ob, lp_no_take_word, _, rfl, H0, p, L, tas, Ts, st, wordOf b, rfl, hP, hB.at_, ⟨fun t0 s1 h1 v H1 hv hP1 => ?_, fun l c he => R.er l c (by simp only [parseNames, he])⟩⟩
    clear hv
    obtain ⟨B1, f1, e1⟩ := bd_word hG hB h1 (wordOf_ne b)
    obtain ⟨dx1, ob1⟩ := hP1.ob
    refine ⟨_, rfl, p, dx1, _, rfl, ob1, lp_no_take, H0, p, L, tas, Ts, s1, .name, rfl, hP1, B1.at_, ⟨fun t s2 h2 v H2 hv hP2 => ?_, fun l c he => R.er l c (by simp only [parseNames, h1, he])⟩⟩
    obtain ⟨a, rfl, hta⟩ := hv
    obtain ⟨B2, f2, e2, _⟩ := bd_take hG B1 h2 (by decide)
    have hk2 := (take_ok h2).2.2
    refine ⟨(by show 1 ≤ sizeLine; decide), fun q nq => ?_⟩
    have hne := hP2.notin nq
    have nq0 : H0 q = none := hP2.same.free nq
    have hP2' := hP2.mono (sameUpd (o := .lst [.ref a]) (Same.refl H2) nq)
    have as2 : 2 ≤ s2.at_ := by
      rw [e2, e1]
      show 2 ≤ st.at_ + 1 + 1
      omega
    refine ⟨fun m σ H => ∃ (f : Nat) (acc : List Tk) (aas : List Addr) (s : PSt), m + s.at_ = Ts.length ∧ σ = [some (.ref p), some (sV (wordOf b)), some (.ref (L.nm b)), some (.int (mostOf b)), some (.ref q), none] ∧
      H q = some (.lst (aas.map V.ref)) ∧ Paired (TI tas Ts) aas acc ∧ PA K H0 H p L tas Ts s ∧ Bd Ts s ∧ Ts.length ≤ f + s.at_ ∧ moreNames Ts Ts.length s2 [t] = moreNames Ts f s acc ∧ acc.length + 1 ≤ s.at_,
      ⟨Ts.length - s2.at_, Ts.length, [t], [a], s2, Nat.sub_add_cancel (Nat.le_of_lt B2.at_), rfl, upd_same, .cons hta .nil, hP2', B2, Nat.le_add_right _ _, rfl, as2⟩, ?_⟩
    rintro m σ H3 ⟨f, acc, aas, s, hm, rfl, hq, hpa, hP3, B3, hf, hmn, hac⟩
    obtain ⟨dx3, ob3⟩ := hP3.ob
    have hlen := hG.len
    have B3at := B3.at_
    refine ⟨_, rfl, p, dx3, _, rfl, ob3, lp_no_peek, H0, p, L, tas, Ts, s, rfl, hP3, B3.at_, fun a3 hta3 => ?_⟩
    obtain ⟨dt3, ht3⟩ := hP3.get hta3
    refine ⟨a3, _, dt3, _, _, rfl, ht3, T.l.tok.c, T.l.tok.n _ (by simp), lk_kind, rfl, _, rfl, ?_⟩
    obtain ⟨f', rfl⟩ : ∃ f', f = f' + 1 := ⟨f - 1, by omega⟩
    refine ite2 (fun h => ?_) (fun h => ?_)
    · have h : (peek Ts s).kind = .name := kd_inj (b := .name) (V.str.inj (of_decide_eq_true h))
      refine ⟨_, fun _ _ n => n, ?_⟩
      refine ⟨_, rfl, .inl ⟨rfl, _, SqL.of hq⟩, _, rfl, p, dx3, _, rfl, ob3, lp_no_take, upd H0 q (.lst (aas.map V.ref)), p, L, tas, Ts, s, .name, rfl, hP3.frame hq hne, B3.at_, ⟨fun t' s' h' v H' hv hP' => ?_, fun l c he => ?_⟩⟩
      · obtain ⟨a', rfl, hta'⟩ := hv
        obtain ⟨hP'', hq'⟩ := hP'.unframe nq0
        obtain ⟨B', f'', e', _⟩ := bd_take hG B3 h' (by decide)
        have ht' := (take_ok h').2.1
        have hlt : (aas.map V.ref).length < sizeLine := by
          rw [List.length_map, hpa.length, sizeLine_eq]
          omega
        have ea : s'.at_ = s.at_ + 1 := by rw [e']; rfl
        refine ⟨q, _, _, rfl, rfl, hq', hlt, m - 1, by omega, f', acc ++ [t'], aas ++ [a'], s', by omega, rfl, by rw [upd_same, List.map_append]; rfl, Paired_snoc hpa hta', hP''.updList hq' nq0 hne, B', by omega, ?_, by simp; omega⟩
        rw [hmn]
        conv => lhs; unfold moreNames
        rw [if_pos h, e', ht']
      · exfalso
        unfold take at he
        rw [if_pos h] at he
        cases he
    · have h : ¬ (peek Ts s).kind = .name := fun q => h (decide_eq_true (by rw [q]; rfl))
      have hmn2 : moreNames Ts Ts.length s2 [t] = (acc, s) := by
        rw [hmn]
        unfold moreNames
        rw [if_neg h]
      have em1 : (moreNames Ts Ts.length s2 [t]).1 = acc := by rw [hmn2]
      have em2 : (moreNames Ts Ts.length s2 [t]).2 = s := by rw [hmn2]
      refine ⟨_, rfl, p, dx3, _, rfl, ob3, lp_no_take_word, upd H0 q (.lst (aas.map V.ref)), p, L, tas, Ts, s, wSemi, by rw [e_semi]; rfl, hP3.frame hq hne, B3.at_, ⟨fun t4 s4 h4 v H4 hv hP4 => ?_, fun l c he => ?_⟩⟩
      · clear hv
        obtain ⟨hP4', hq4⟩ := hP4.unframe nq0
        obtain ⟨B4, f4, e4⟩ := bd_word hG B3 h4 (by decide)
        have hfin : parseNames Ts b st = .ok ((), acc.foldl (addName b) s4) := by
          simp only [parseNames, h1, h2, em1, em2, h4]
        refine ⟨_, rfl, q, rfl, ⟨_, SqL.of hq4⟩, for_list (K := K) (a := q) (xs := aas.map V.ref) (fun i σ H => ∃ o5 : Option V, σ = [some (.ref p), some (sV (wordOf b)), some (.ref (L.nm b)), some (.int (mostOf b)), some (.ref q), o5] ∧
          H q = some (.lst (aas.map V.ref)) ∧ PA K H0 H p L tas Ts ((acc.take i).foldl (addName b) s4)) ⟨none, rfl, hq4, hP4'⟩ (fun i σ H _ hh => ?_) ?_ ?_⟩
        · obtain ⟨o5, rfl, hq5, _⟩ := hh
          exact SqL.of hq5
        · rintro i x σ H5 hx ⟨o5, rfl, hq5, hP5⟩
          rw [List.getElem?_map] at hx
          cases hai : aas[i]? with
          | none => rw [hai] at hx; cases hx
          | some ai =>
            rw [hai] at hx
            cases hx
            obtain ⟨ti, hti, hTI⟩ := Paired_idx hpa hai
            have hstep : (acc.take (i + 1)).foldl (addName b) s4 = addName b ((acc.take i).foldl (addName b) s4) ti := by
              rw [List.take_succ, hti, List.foldl_append]
              rfl
            rw [hstep]
            obtain ⟨c1, c2, c3, _⟩ := adds_spec b (acc.take i) s4 (B4.names b)
            generalize hs5 : (acc.take i).foldl (addName b) s4 = s5 at *
            have hfl : s5.faults.length ≤ 1000000 := by
              have z1 := B4.fa
              have z2 := B4.at_
              have z3 : (acc.take i).length ≤ acc.length := by rw [List.length_take]; omega
              omega
            obtain ⟨dx5, ob5⟩ := hP5.ob
            obtain ⟨dt5, ht5⟩ := hP5.get hTI
            have hn5 := hP5.nmH b
            refine ⟨_, rfl, ai, _, dt5, _, _, rfl, ht5, T.l.tok.c, T.l.tok.n _ (by simp), lk_text, _, rfl, L.nm b, _, rfl, .inl (SqL.of hn5), rfl, flat_sx _, _, rfl, ?_⟩
            rw [inV_sx]
            refine ite2 (fun h => ?_) (fun h => ?_)
            · have h : ti.text ∈ s5.names b := of_decide_eq_true h
              refine ⟨_, rfl, p, dx5, _, rfl, ob5, lp_no_found, _, rfl, upd H0 q (.lst (aas.map V.ref)), p, L, tas, Ts, s5, rDuplicate, ai, ti, by rw [e_duplicate]; rfl, hP5.frame hq5 hne, hTI, hfl, fun H6 hP6 => ?_⟩
              obtain ⟨hP6', hq6⟩ := hP6.unframe nq0
              refine ⟨_, rfl, hq6, ?_⟩
              unfold addName
              rw [if_pos h]
              exact hP6'
            · have h : ti.text ∉ s5.names b := fun q => h (decide_eq_true q)
              refine ⟨_, rfl, L.nm b, _, rfl, .inl (SqL.of hn5), _, rfl, rfl, _, rfl, ?_⟩
              rw [List.length_map]
              refine ite2 (fun h2 => ?_) (fun h2 => ?_)
              · have h2 : (s5.names b).length = mostOf b := by
                  have z := V.int.inj (of_decide_eq_true h2)
                  exact Int.ofNat_inj.mp z
                refine ⟨_, rfl, p, dx5, _, rfl, ob5, lp_no_found, _, rfl, _, rfl, upd H0 q (.lst (aas.map V.ref)), p, L, tas, Ts, s5, wordOf b, ai, ti, rfl, hP5.frame hq5 hne, hTI, hfl, fun H6 hP6 => ?_⟩
                obtain ⟨hP6', hq6⟩ := hP6.unframe nq0
                refine ⟨_, rfl, hq6, ?_⟩
                unfold addName
                rw [if_neg h, if_pos h2]
                exact hP6'
              · have h2 : ¬ (s5.names b).length = mostOf b := fun q => h2 (decide_eq_true (by rw [q]))
                have hlt : ((s5.names b).map sV).length < sizeLine := by
                  rw [List.length_map, sizeLine_eq]
                  have : mostOf b ≤ 6 := by cases b <;> decide
                  omega
                have hqn : q ≠ L.nm b := fun z => hne (by
                  rw [z]
                  cases b
                  · simp [PLoc.nm]
                  · simp [PLoc.nm])
                refine ⟨_, rfl, .inl ⟨rfl, _, SqL.of hn5⟩, _, rfl, ai, _, dt5, _, _, rfl, ht5, T.l.tok.c, T.l.tok.n _ (by simp), lk_text, L.nm b, _, _, rfl, rfl, hn5, hlt, ?_⟩
                have em : ((s5.names b).map sV ++ [sV ti.text]) = (s5.names b ++ [ti.text]).map sV := by rw [List.map_append]; rfl
                refine ⟨_, rfl, by rw [upd_ne hqn]; exact hq5, ?_⟩
                rw [em]
                unfold addName
                rw [if_neg h, if_neg h2]
                cases b
                · exact hP5.set_sl hn5 trivial
                · exact hP5.set_ml hn5 trivial
        · rintro σ H6 ⟨o5, rfl, hq6, hP6⟩
          rw [List.length_map] at hP6
          have ea : aas.length = acc.length := hpa.length
          rw [ea, List.take_length] at hP6
          exact R.ok () _ hfin _ _ rfl hP6
      · refine (R.er l c ?_).mono (sameUpd (Same.refl H0) nq0)
        simp only [parseNames, h1, h2, em2, he]
end
end Sw

end

section
set_option maxRecDepth 100000
set_option maxHeartbeats 4000000
/-! parse_robot, parse_put, parse_rule -/
namespace Sw
open PySem PySem.Spec PyProof.Rows L2 SwA
/-! ### the dicts -/
theorem key_inl {a b : Nat} : ((.inl (a : Int) : Key) = .inl (b : Int)) ↔ a = b := ⟨fun h => by injection h with h; omega, fun h => by rw [h]⟩
theorem keyT_inj {a b : Nat × Nat} : keyT a = keyT b ↔ a = b := by
  constructor
  · intro h
    unfold keyT at h
    injection h with h1 h2
    injection h2 with h2 _
    have e1 := key_inl.mp h1
    have e2 := key_inl.mp h2
    exact Prod.ext e1 e2
  · intro h; rw [h]
theorem pairK_inj {a b : Cs × Cs} : (pairK a).1 = (pairK b).1 ↔ a = b := by
  constructor
  · intro h
    unfold pairK at h
    injection h with h1 h2
    injection h2 with h2 _
    injection h1 with h1
    injection h2 with h2
    exact Prod.ext (sx_inj h1) (sx_inj h2)
  · intro h; rw [h]
theorem spots_any (l : List (Nat × Nat)) (n : Nat) : (valV (l.map spotK) (.inl (n : Int) : Key)).isSome = l.any fun kv => decide (kv.1 = n) := by
  rw [← valV_any]
  rw [List.any_map]
  congr 1
  funext kv
  show decide ((.inl (kv.1 : Int) : Key) = .inl (n : Int)) = decide (kv.1 = n)
  rw [Bool.eq_iff_iff, decide_eq_true_iff, decide_eq_true_iff, key_inl]
theorem spots_put (l : List (Nat × Nat)) (n v : Nat) : putK (l.map spotK) (.inl (n : Int) : Key) (.int v) = (putA l n v).map spotK := by
  unfold putK putA
  rw [valV_any, spots_any]
  split
  · rw [List.map_map, List.map_map]
    refine List.map_congr_left fun kv _ => ?_
    show (if (spotK kv).1 = .inl (n : Int) then ((spotK kv).1, V.int v) else spotK kv) = spotK (if kv.1 = n then (kv.1, v) else kv)
    by_cases e : kv.1 = n
    · rw [if_pos e, if_pos (by show (.inl (kv.1 : Int) : Key) = _; rw [e])]
      rfl
    · rw [if_neg e, if_neg (show ¬ (spotK kv).1 = .inl (n : Int) from fun q => e (key_inl.mp q))]
  · rw [List.map_append]
    rfl
theorem pairs_some (l : List (Cs × Cs)) (q : Cs × Cs) : (valV (l.map pairK) (pairK q).1).isSome = decide (q ∈ l) := by
  rw [← valV_any, List.any_map]
  rw [Bool.eq_iff_iff, List.any_eq_true, decide_eq_true_iff]
  constructor
  · rintro ⟨x, hx, e⟩
    have e := of_decide_eq_true e
    have e2 : (pairK x).1 = (pairK q).1 := e
    rw [pairK_inj] at e2
    rw [← e2]
    exact hx
  · intro h
    exact ⟨q, h, decide_eq_true rfl⟩
theorem pairs_put (l : List (Cs × Cs)) (q : Cs × Cs) : putK (l.map pairK) (pairK q).1 (.bl true) = (if q ∈ l then l else l ++ [q]).map pairK := by
  unfold putK
  rw [valV_any, pairs_some]
  by_cases h : q ∈ l
  · rw [if_pos (decide_eq_true h), if_pos h, List.map_map]
    refine List.map_congr_left fun x _ => ?_
    show (if (pairK x).1 = (pairK q).1 then ((pairK x).1, V.bl true) else pairK x) = pairK x
    split <;> rfl
  · rw [if_neg (fun z => h (of_decide_eq_true z)), if_neg h, List.map_append]
    rfl
theorem rules_any {H : Hp} {k : Nat × Nat} : ∀ {rs : List ((Nat × Nat) × Rule)} {kvs : List (List Key × V)}, Paired (RuleAt H) rs kvs → (kvs.any fun kv => decide (kv.1 = keyT k)) = rs.any fun kv => decide (kv.1 = k)
  | _, _, .nil => rfl
  | _, _, .cons (a := r) (b := kv) h t => by
    rw [List.any_cons, List.any_cons, rules_any t]
    congr 1
    rw [h.1, Bool.eq_iff_iff, decide_eq_true_iff, decide_eq_true_iff, keyT_inj]
theorem rules_put {H : Hp} {k : Nat × Nat} {r : Rule} {t : Addr} (ht : H t = some (.tup [.int r.left, sV r.move, .int r.later])) {rs : List ((Nat × Nat) × Rule)} {kvs : List (List Key × V)} (h : Paired (RuleAt H) rs kvs) :
    Paired (RuleAt H) (putA rs k r) (putK kvs (keyT k) (.ref t)) := by
  unfold putA putK
  rw [rules_any h]
  split
  · rename_i hany
    clear hany
    induction h with
    | nil => exact .nil
    | @cons r0 kv l m h t ih =>
      refine .cons ?_ ih
      dsimp only
      by_cases e : r0.1 = k
      · rw [if_pos e, if_pos (by rw [h.1, e])]
        exact ⟨h.1, _, rfl, ht⟩
      · rw [if_neg e, if_neg (by rw [h.1]; exact fun q => e (keyT_inj.mp q))]
        exact h
  · exact Paired_snoc h ⟨rfl, t, rfl, ht⟩
theorem Paired_len {α β : Type} {F : α → β → Prop} {l : List α} {m : List β} (h : Paired F l m) : l.length = m.length := h.length
theorem lp_no_parse_names {L : PLoc} {n : Nat} : (parF L n).lookup ("parse_names" : Str) = none := by kernel_rfl
theorem lp_no_parse_robot {L : PLoc} {n : Nat} : (parF L n).lookup ("parse_robot" : Str) = none := by kernel_rfl
theorem lp_no_parse_put {L : PLoc} {n : Nat} : (parF L n).lookup ("parse_put" : Str) = none := by kernel_rfl
theorem lp_no_parse_rule {L : PLoc} {n : Nat} : (parF L n).lookup ("parse_rule" : Str) = none := by kernel_rfl
theorem lp_no_parse_plan {L : PLoc} {n : Nat} : (parF L n).lookup ("parse_plan" : Str) = none := by kernel_rfl
section
variable {P : Program} {w : World} {K : PySem.W.Frag} {mg : Str → Option Value} {base : Heap}
def spParseRobot (K : PySem.W.Frag) : Sp := fun vs H Q E => ∃ (H0 : Hp) (p : Addr) (L : PLoc) (tas : List Addr) (T : List Tk) (st : PSt) (tiles : Nat), vs = [.ref p, .int tiles] ∧ PA K H0 H p L tas T st ∧ GoodT T ∧ Bd T st ∧
  Res K H0 p L tas T (parseRobot T tiles st) Q E retU
theorem sc_parse_robot : FnScope ["self", "tiles", "keyword", "tile", "way"] ["self", "tiles"] (defScope s_Parser_parse_robot) := ⟨rfl, rfl, rfl, by decide +kernel, rfl, by decide +kernel, by decide +kernel⟩
theorem ok_parse_robot (T : ParT K mg) : FnE P w K mg base (L2.CX P w) 6 ("Parser", some "parse_robot") ["self", "tiles"] (spParseRobot K) := by
  obtain ⟨fd, F⟩ := T.parse_robot.d
  obtain ⟨fdF, GF, bF, kF⟩ := ok_found (P := P) (w := w) (base := base) T
  obtain ⟨fdT, GT, bT, kT⟩ := ok_tile_of (P := P) (w := w) (base := base) T
  obtain ⟨fdW, GW, bW, kW⟩ := ok_take_word (P := P) (w := w) (base := base) T
  obtain ⟨fdK, GK, bK, kK⟩ := ok_take_keyword (P := P) (w := w) (base := base) T
  obtain ⟨t1, mMAX⟩ := T.MAX_ROBOTS
  refine ⟨fd, F.ok sc_parse_robot (fun vs H Q E h => ?_) (fun cdv A outer s H vs Q E hr h => ?_), F.bindsN fun _ _ _ _ _ _ us hl => match us, hl with | [_, _], _ => rfl, F.kp⟩
  · obtain ⟨H0, p, L, tas, Ts, st, tiles, rfl, _⟩ := h
    rfl
  · obtain ⟨H0, p, L, tas, Ts, st, tiles, rfl, hP, hG, hB, R⟩ := h
    have hr1 : Room 1 _ := hr.mono (by decide)
    have hr4 : Room 4 _ := hr.mono (by decide)
    refine ⟨_, (pss_cons (ps_set (i := 2) sc_parse_robot.nd rfl (.inl rfl) (pe_meth (pv 0) T.par.c T.take_word.m GW hr4 bW .nil (passes_call (takes_of rfl rfl rfl rfl) (fun _ _ _ _ h => h)) (pa_cons pe_str pa_nil)))
      (C8.pss_cut (ps_if (pt_cmpR op_eq (pe_callB call_len_seq (by rfl) T.l.len boot_len (pa_cons (pe_fld (pv 0) rfl) pa_nil)) (pe_glob (v := .int 3) rfl mMAX ⟨_, rfl⟩) (nomark _))
        (pss_one (ps_expr (pe_meth (pv 0) T.par.c T.found.m GF hr1 bF .nil pass0 (pa_cons pe_str (pa_cons (pv 2) pa_nil))))) pss_nil)
      (pss_cons (ps_set (i := 3) sc_parse_robot.nd rfl (.inl rfl) (pe_meth (pv 0) T.par.c T.tile_of.m GT hr bT .nil (passes_call (takes_of rfl rfl rfl rfl) (fun _ _ _ _ h => h)) (pa_cons (pv 1) pa_nil)))
      (pss_cons (ps_set (i := 4) sc_parse_robot.nd rfl (.inl rfl) (pe_meth (pv 0) T.par.c T.take_keyword.m GK hr4 bK .nil (passes_call (takes_of rfl rfl rfl rfl) (fun _ _ _ _ h => h)) (pa_cons (pe_glob (v := .ref (He.ga K nWays)) rfl T.WAYS rfl) pa_nil)))
      (pss_cons (ps_expr (pe_meth (pv 0) T.par.c T.take_word.m GW hr4 bW .nil (passes_call (takes_of rfl rfl rfl rfl) (fun _ _ _ _ h => h)) (pa_cons pe_str pa_nil)))
      (pss_one (ps_expr (pe_bm PySem.F.plainAttrs_list PySem.F.slot_list_append PySem.F.type_list_append mt_append (pe_fld (pv 0) rfl)
        (pa_cons (pe_tup (pa_cons (pv 3) (pa_cons (pe_cmpR op_eq (pe_fld (pv 4) rfl) pe_str (nomark _)) pa_nil))) pa_nil))))))))), ?_⟩
    obtain ⟨dx, ob⟩ := hP.ob
    refine ⟨_, rfl, p, dx, _, rfl, ob, lp_no_take_word, H0, p, L, tas, Ts, st, wRobot, by rw [e_robot]; rfl, hP, hB.at_, ⟨fun kw s1 h1 v H1 hv hP1 => ?_, fun l c he => R.er l c (by simp only [parseRobot, he])⟩⟩
    obtain ⟨a1, rfl, hta1⟩ := hv
    obtain ⟨B1, f1, e1⟩ := bd_word hG hB h1 (by decide)
    have hlen := hG.len
    have hat := B1.at_
    have hB1f := B1.fa
    obtain ⟨ras, hra, hras⟩ := hP1.ro
    obtain ⟨dx1, ob1⟩ := hP1.ob
    have B2 : Bd Ts (if s1.robots.length = 3 then s1.found rRobots kw else s1) := by
      split
      · exact B1.found (by omega)
      · exact B1
    refine ⟨fun σ' H' => σ' = [some (.ref p), some (.int tiles), some (.ref a1), none, none] ∧ PA K H0 H' p L tas Ts (if s1.robots.length = 3 then s1.found rRobots kw else s1), ?_, ?_⟩
    · refine ⟨_, rfl, p, _, dx1, _, _, rfl, ob1, T.par.c, T.par.n _ (by simp), lp_robots, L.rl, _, rfl, .inl (SqL.of hra), rfl, _, rfl, ?_⟩
      rw [List.length_map, hras.length]
      refine ite2 (fun h => ?_) (fun h => ?_)
      · have h : s1.robots.length = 3 := Int.ofNat_inj.mp (V.int.inj (of_decide_eq_true h))
        refine ⟨_, rfl, p, dx1, _, rfl, ob1, lp_no_found, _, rfl, H0, p, L, tas, Ts, s1, rRobots, a1, kw, by rw [e_robots]; rfl, hP1, hta1, by omega, fun H2 hP2 => ⟨rfl, ?_⟩⟩
        rw [if_pos h]
        exact hP2
      · have h : ¬ s1.robots.length = 3 := fun q => h (decide_eq_true (by rw [q]; rfl))
        refine ⟨rfl, ?_⟩
        rw [if_neg h]
        exact hP1
    · rintro σ' H2 ⟨rfl, hP2⟩
      generalize hs2 : (if s1.robots.length = 3 then s1.found rRobots kw else s1) = s2 at *
      obtain ⟨dx2, ob2⟩ := hP2.ob
      have B2f := B2.fa
      have B2a := B2.at_
      refine ⟨_, rfl, p, dx2, _, rfl, ob2, lp_no_tile_of, _, rfl, H0, p, L, tas, Ts, s2, tiles, rfl, hP2, hG, B2.at_, by omega, ⟨fun n s3 h3 v H3 hv hP3 => ?_, fun l c he => R.er l c (by simp only [parseRobot, h1, hs2, he])⟩⟩
      obtain rfl : v = .int n := hv
      obtain ⟨B3, f3, a3, r3, _⟩ := bd_tile hG B2 h3
      obtain ⟨dx3, ob3⟩ := hP3.ob
      refine ⟨_, rfl, p, dx3, _, rfl, ob3, lp_no_take_keyword, H0, p, L, tas, Ts, s3, He.ga K nWays, ways, rfl, hP3, B3.at_, T.ways H3, ⟨fun wy s4 h4 v H4 hv hP4 => ?_, fun l c he => R.er l c (by simp only [parseRobot, h1, hs2, h3, he])⟩⟩
      obtain ⟨a4, rfl, hta4⟩ := hv
      obtain ⟨B4, f4, e4⟩ := bd_kw hG B3 h4
      obtain ⟨dx4, ob4⟩ := hP4.ob
      refine ⟨_, rfl, p, dx4, _, rfl, ob4, lp_no_take_word, H0, p, L, tas, Ts, s4, wSemi, by rw [e_semi]; rfl, hP4, B4.at_, ⟨fun t5 s5 h5 v H5 hv hP5 => ?_, fun l c he => R.er l c (by simp only [parseRobot, h1, hs2, h3, h4, he])⟩⟩
      clear hv
      obtain ⟨B5, f5, e5⟩ := bd_word hG B4 h5 (by decide)
      obtain ⟨dx5, ob5⟩ := hP5.ob
      obtain ⟨dt, ht⟩ := hP5.get hta4
      obtain ⟨ras5, hra5, hras5⟩ := hP5.ro
      have B5r := B5.ro
      have B5a := B5.at_
      refine ⟨_, rfl, p, _, dx5, _, _, rfl, ob5, T.par.c, T.par.n _ (by simp), lp_robots, .inl ⟨rfl, _, SqL.of hra5⟩, _, rfl, _, rfl, a4, _, dt, _, _, rfl, ht, T.l.tok.c, T.l.tok.n _ (by simp), lk_text, rfl, (by show 2 ≤ sizeLine; decide), fun tu ntu => ?_⟩
      have nrl : L.rl ≠ tu := ne_of_none hra5 ntu
      have ed : decide (V.str (sx wy.text) = V.str "right") = decide (wy.text = wRight) := by
        rw [e_right, Bool.eq_iff_iff, decide_eq_true_iff, decide_eq_true_iff]
        exact ⟨fun q => sx_inj (V.str.inj q), fun q => by rw [q]⟩
      rw [ed]
      refine ⟨L.rl, _, _, rfl, rfl, by rw [upd_ne nrl]; exact hra5, by rw [List.length_map, hras5.length, sizeLine_eq]; omega, ?_⟩
      have sm := sameUpd (o := .tup [.int n, .bl (decide (wy.text = wRight))]) (Same.refl H5) ntu
      have hP6 := hP5.mono sm
      have em : (ras5.map V.ref ++ [V.ref tu]) = (ras5 ++ [tu]).map V.ref := by rw [List.map_append]; rfl
      rw [em]
      have hP7 := hP6.set_rl (ras := ras5 ++ [tu]) (rs := s5.robots ++ [(n, decide (wy.text = wRight))]) (sm _ _ hra5) (Paired_snoc (Paired.mapP hras5 fun a r q => keepT (sm _ _ hra5) (fun xs q => by cases q) _ _ (sm _ _ q)) (by
        show (upd _ L.rl _) tu = _
        rw [upd_ne (Ne.symm nrl), upd_same]))
      exact R.ok () _ (by simp only [parseRobot, h1, hs2, h3, h4, h5]) _ _ rfl hP7
end
end Sw

end

section
set_option maxRecDepth 100000
set_option maxHeartbeats 4000000
/-! parse_put, parse_rule -/
namespace Sw
open PySem PySem.Spec PyProof.Rows L2 SwA
section
variable {P : Program} {w : World} {K : PySem.W.Frag} {mg : Str → Option Value} {base : Heap}
def spParsePut (K : PySem.W.Frag) : Sp := fun vs H Q E => ∃ (H0 : Hp) (p : Addr) (L : PLoc) (tas : List Addr) (T : List Tk) (st : PSt) (tiles : Nat), vs = [.ref p, .int tiles] ∧ PA K H0 H p L tas T st ∧ GoodT T ∧ Bd T st ∧
  Res K H0 p L tas T (parsePut T tiles st) Q E retU
theorem sc_parse_put : FnScope ["self", "tiles", "sign", "token", "tile"] ["self", "tiles"] (defScope s_Parser_parse_put) := ⟨rfl, rfl, rfl, by decide +kernel, rfl, by decide +kernel, by decide +kernel⟩
theorem ok_parse_put (T : ParT K mg) : FnE P w K mg base (L2.CX P w) 6 ("Parser", some "parse_put") ["self", "tiles"] (spParsePut K) := by
  obtain ⟨fd, F⟩ := T.parse_put.d
  obtain ⟨fdP, GP, bP, kP⟩ := ok_peek (P := P) (w := w) (base := base) T
  obtain ⟨fdF, GF, bF, kF⟩ := ok_found (P := P) (w := w) (base := base) T
  obtain ⟨fdN, GN, bN, kN⟩ := ok_number_of (P := P) (w := w) (base := base) T
  obtain ⟨fdA, GA, bA, kA⟩ := ok_take (P := P) (w := w) (base := base) T
  obtain ⟨fdT, GT, bT, kT⟩ := ok_tile_of (P := P) (w := w) (base := base) T
  obtain ⟨fdW, GW, bW, kW⟩ := ok_take_word (P := P) (w := w) (base := base) T
  obtain ⟨t1, mNAME⟩ := T.l.NAME
  refine ⟨fd, F.ok sc_parse_put (fun vs H Q E h => ?_) (fun cdv A outer s H vs Q E hr h => ?_), F.bindsN fun _ _ _ _ _ _ us hl => match us, hl with | [_, _], _ => rfl, F.kp⟩
  · obtain ⟨H0, p, L, tas, Ts, st, tiles, rfl, _⟩ := h
    rfl
  · obtain ⟨H0, p, L, tas, Ts, st, tiles, rfl, hP, hG, hB, R⟩ := h
    have hr1 : Room 1 _ := hr.mono (by decide)
    have hr2 : Room 2 _ := hr.mono (by decide)
    have hr4 : Room 4 _ := hr.mono (by decide)
    have hu := hu_of hr
    refine ⟨_, (pss_cons (ps_expr (pe_meth (pv 0) T.par.c T.take_word.m GW hr4 bW .nil (passes_call (takes_of rfl rfl rfl rfl) (fun _ _ _ _ h => h)) (pa_cons pe_str pa_nil)))
      (pss_cons (ps_set (i := 2) sc_parse_put.nd rfl (.inl rfl) (pe_meth (pv 0) T.par.c T.number_of.m GN hr2 bN .nil pass0 (pa_cons (pe_fld (pv 0) rfl)
        (pa_cons (pe_meth (pv 0) T.par.c T.take.m GA hr4 bA .nil (passes_call (takes_of rfl rfl rfl rfl) (fun _ _ _ _ h => h)) (pa_cons (pe_glob (v := .str "name") rfl mNAME ⟨_, rfl⟩) pa_nil)) pa_nil))))
      (pss_cons (ps_set (i := 3) sc_parse_put.nd rfl (.inl rfl) (pe_meth0 (pv 0) T.par.c T.peek.m GP hr1 bP .nil pass0))
      (pss_cons (ps_set (i := 4) sc_parse_put.nd rfl (.inl rfl) (pe_meth (pv 0) T.par.c T.tile_of.m GT hr bT .nil (passes_call (takes_of rfl rfl rfl rfl) (fun _ _ _ _ h => h)) (pa_cons (pv 1) pa_nil)))
      (pss_cons (ps_expr (pe_meth (pv 0) T.par.c T.take_word.m GW hr4 bW .nil (passes_call (takes_of rfl rfl rfl rfl) (fun _ _ _ _ h => h)) (pa_cons pe_str pa_nil)))
      (C8.pss_cut (ps_if (pt_cmp (pc_din hu (pv 4) (pe_fld (pv 0) rfl)))
        (pss_one (ps_expr (pe_meth (pv 0) T.par.c T.found.m GF hr1 bF .nil pass0 (pa_cons pe_str (pa_cons (pv 3) pa_nil))))) pss_nil)
      (pss_one (ps_dput hu (pe_fld (pv 0) rfl) (pv 4) (pv 2) rfl)))))))), ?_⟩
    obtain ⟨dx, ob⟩ := hP.ob
    have hlen := hG.len
    refine ⟨_, rfl, p, dx, _, rfl, ob, lp_no_take_word, H0, p, L, tas, Ts, st, wPut, by rw [e_put]; rfl, hP, hB.at_, ⟨fun kw s1 h1 v H1 hv hP1 => ?_, fun l c he => R.er l c (by simp only [parsePut, he])⟩⟩
    clear hv
    obtain ⟨B1, f1, e1⟩ := bd_word hG hB h1 (by decide)
    obtain ⟨dx1, ob1⟩ := hP1.ob
    have B1a := B1.at_
    refine ⟨_, rfl, p, dx1, _, rfl, ob1, lp_no_number_of, _, rfl, p, _, dx1, _, _, rfl, ob1, T.par.c, T.par.n _ (by simp), lp_signs, _, rfl, p, dx1, _, rfl, ob1, lp_no_take, H0, p, L, tas, Ts, s1, .name, rfl, hP1, B1.at_,
      ⟨fun nm s2 h2 v H2 hv hP2 => ?_, fun l c he => R.er l c (by simp only [parsePut, h1, he])⟩⟩
    obtain ⟨a2, rfl, hta2⟩ := hv
    obtain ⟨B2, f2, e2, _⟩ := bd_take hG B1 h2 (by decide)
    have B2f := B2.fa
    have B2a := B2.at_
    refine ⟨H0, p, L, tas, Ts, s2, false, a2, nm, rfl, hP2, hta2, by omega, fun H3 hP3 => ?_⟩
    have en : (s2.names false) = s2.signs := rfl
    rw [en] at hP3
    rw [en]
    obtain ⟨B3, a3, f3⟩ := bd_number B2 (names := s2.signs) (t := nm) (by omega)
    generalize hs3 : (numberOf s2.signs nm s2).2 = s3 at *
    generalize hn3 : (numberOf s2.signs nm s2).1 = n3 at *
    obtain ⟨dx3, ob3⟩ := hP3.ob
    refine ⟨_, rfl, p, dx3, _, rfl, ob3, lp_no_peek, H0, p, L, tas, Ts, s3, rfl, hP3, B3.at_, fun a4 hta4 => ?_⟩
    have B3f := B3.fa
    have B3a := B3.at_
    refine ⟨_, rfl, p, dx3, _, rfl, ob3, lp_no_tile_of, _, rfl, H0, p, L, tas, Ts, s3, tiles, rfl, hP3, hG, B3.at_, by omega, ⟨fun n s5 h5 v H5 hv hP5 => ?_, fun l c he => R.er l c (by simp only [parsePut, h1, h2, hs3, he])⟩⟩
    obtain rfl : v = .int n := hv
    obtain ⟨B5, f5, a5, r5, sp5⟩ := bd_tile hG B3 h5
    obtain ⟨dx5, ob5⟩ := hP5.ob
    refine ⟨_, rfl, p, dx5, _, rfl, ob5, lp_no_take_word, H0, p, L, tas, Ts, s5, wSemi, by rw [e_semi]; rfl, hP5, B5.at_, ⟨fun t6 s6 h6 v H6 hv hP6 => ?_, fun l c he => R.er l c (by simp only [parsePut, h1, h2, hs3, h5, he])⟩⟩
    clear hv
    obtain ⟨B6, f6, e6⟩ := bd_word hG B5 h6 (by decide)
    obtain ⟨dx6, ob6⟩ := hP6.ob
    have B6f := B6.fa
    have B6a := B6.at_
    have hfin : parsePut Ts tiles st = .ok ((), { (if (s6.spots.any fun kv => decide (kv.1 = n)) = true then s6.found rAgain (peek Ts s3) else s6) with
        spots := putA (if (s6.spots.any fun kv => decide (kv.1 = n)) = true then s6.found rAgain (peek Ts s3) else s6).spots n n3 }) := by
      simp only [parsePut, h1, h2, hs3, h5, h6, hn3]
    refine ⟨fun σ' H' => σ' = [some (.ref p), some (.int tiles), some (.int n3), some (.ref a4), some (.int n)] ∧ PA K H0 H' p L tas Ts (if (s6.spots.any fun kv => decide (kv.1 = n)) = true then s6.found rAgain (peek Ts s3) else s6), ?_, ?_⟩
    · refine ⟨_, rfl, _, rfl, p, _, dx6, _, _, rfl, ob6, T.par.c, T.par.n _ (by simp), lp_spots, L.sd, _, rfl, DGet.k (k := Sum.inl (n : Int)) hP6.sp, _, rfl, ?_⟩
      rw [spots_any]
      refine ite2 (fun h => ?_) (fun h => ?_)
      · refine ⟨_, rfl, p, dx6, _, rfl, ob6, lp_no_found, _, rfl, H0, p, L, tas, Ts, s6, rAgain, a4, _, by rw [e_again]; rfl, hP6, hta4, by omega, fun H7 hP7 => ⟨rfl, ?_⟩⟩
        rw [if_pos h]
        exact hP7
      · refine ⟨rfl, ?_⟩
        rw [if_neg h]
        exact hP6
    · rintro σ' H7 ⟨rfl, hP7⟩
      have hsp : (if (s6.spots.any fun kv => decide (kv.1 = n)) = true then s6.found rAgain (peek Ts s3) else s6).spots = s6.spots := by split <;> rfl
      generalize hs7 : (if (s6.spots.any fun kv => decide (kv.1 = n)) = true then s6.found rAgain (peek Ts s3) else s6) = s7 at *
      obtain ⟨dx7, ob7⟩ := hP7.ob
      have B6s := B6.sp
      refine ⟨_, rfl, _, rfl, p, _, dx7, _, _, rfl, ob7, T.par.c, T.par.n _ (by simp), lp_spots, _, rfl, L.sd, _, rfl, DPut.k (k := Sum.inl (n : Int)) hP7.sp (by rw [List.length_map, hsp, sizeLine_eq]; omega), ?_⟩
      rw [spots_put]
      exact R.ok () _ hfin _ _ rfl (hP7.set_sd hP7.sp trivial)
def spParseRule (K : PySem.W.Frag) : Sp := fun vs H Q E => ∃ (H0 : Hp) (p : Addr) (L : PLoc) (tas : List Addr) (T : List Tk) (st : PSt), vs = [.ref p] ∧ PA K H0 H p L tas T st ∧ GoodT T ∧ Bd T st ∧
  Res K H0 p L tas T (parseRule T st) Q E retU
theorem sc_parse_rule : FnScope ["self", "keyword", "first", "mood", "second", "sign", "left", "move", "later"] ["self"] (defScope s_Parser_parse_rule) := ⟨rfl, rfl, rfl, by decide +kernel, rfl, by decide +kernel, by decide +kernel⟩
theorem ok_parse_rule (T : ParT K mg) : FnE P w K mg base (L2.CX P w) 6 ("Parser", some "parse_rule") ["self"] (spParseRule K) := by
  obtain ⟨fd, F⟩ := T.parse_rule.d
  obtain ⟨fdF, GF, bF, kF⟩ := ok_found (P := P) (w := w) (base := base) T
  obtain ⟨fdN, GN, bN, kN⟩ := ok_number_of (P := P) (w := w) (base := base) T
  obtain ⟨fdA, GA, bA, kA⟩ := ok_take (P := P) (w := w) (base := base) T
  obtain ⟨fdW, GW, bW, kW⟩ := ok_take_word (P := P) (w := w) (base := base) T
  obtain ⟨fdK, GK, bK, kK⟩ := ok_take_keyword (P := P) (w := w) (base := base) T
  obtain ⟨t1, mNAME⟩ := T.l.NAME
  refine ⟨fd, F.ok sc_parse_rule (fun vs H Q E h => ?_) (fun cdv A outer s H vs Q E hr h => ?_), F.bindsN fun _ _ _ _ _ _ us hl => match us, hl with | [_], _ => rfl, F.kp⟩
  · obtain ⟨H0, p, L, tas, Ts, st, rfl, _⟩ := h
    rfl
  · obtain ⟨H0, p, L, tas, Ts, st, rfl, hP, hG, hB, R⟩ := h
    have hr1 : Room 1 _ := hr.mono (by decide)
    have hr2 : Room 2 _ := hr.mono (by decide)
    have hr4 : Room 4 _ := hr.mono (by decide)
    have hu := hu_of hr
    refine ⟨_, (pss_cons (ps_set (i := 1) sc_parse_rule.nd rfl (.inl rfl) (pe_meth (pv 0) T.par.c T.take_word.m GW hr4 bW .nil (passes_call (takes_of rfl rfl rfl rfl) (fun _ _ _ _ h => h)) (pa_cons pe_str pa_nil)))
      (pss_cons (ps_set (i := 2) sc_parse_rule.nd rfl (.inl rfl) (pe_meth (pv 0) T.par.c T.take.m GA hr4 bA .nil (passes_call (takes_of rfl rfl rfl rfl) (fun _ _ _ _ h => h)) (pa_cons (pe_glob (v := .str "name") rfl mNAME ⟨_, rfl⟩) pa_nil)))
      (pss_cons (ps_set (i := 3) sc_parse_rule.nd rfl (.inl rfl) (pe_meth (pv 0) T.par.c T.number_of.m GN hr2 bN .nil pass0 (pa_cons (pe_fld (pv 0) rfl) (pa_cons (pv 2) pa_nil))))
      (pss_cons (ps_set (i := 4) sc_parse_rule.nd rfl (.inl rfl) (pe_meth (pv 0) T.par.c T.take.m GA hr4 bA .nil (passes_call (takes_of rfl rfl rfl rfl) (fun _ _ _ _ h => h)) (pa_cons (pe_glob (v := .str "name") rfl mNAME ⟨_, rfl⟩) pa_nil)))
      (pss_cons (ps_set (i := 5) sc_parse_rule.nd rfl (.inl rfl) (pe_meth (pv 0) T.par.c T.number_of.m GN hr2 bN .nil pass0 (pa_cons (pe_fld (pv 0) rfl) (pa_cons (pv 4) pa_nil))))
      (pss_cons (ps_expr (pe_meth (pv 0) T.par.c T.take_word.m GW hr4 bW .nil (passes_call (takes_of rfl rfl rfl rfl) (fun _ _ _ _ h => h)) (pa_cons pe_str pa_nil)))
      (pss_cons (ps_set (i := 6) sc_parse_rule.nd rfl (.inl rfl) (pe_meth (pv 0) T.par.c T.number_of.m GN hr2 bN .nil pass0 (pa_cons (pe_fld (pv 0) rfl)
        (pa_cons (pe_meth (pv 0) T.par.c T.take.m GA hr4 bA .nil (passes_call (takes_of rfl rfl rfl rfl) (fun _ _ _ _ h => h)) (pa_cons (pe_glob (v := .str "name") rfl mNAME ⟨_, rfl⟩) pa_nil)) pa_nil))))
      (pss_cons (ps_set (i := 7) sc_parse_rule.nd rfl (.inl rfl) (pe_meth (pv 0) T.par.c T.take_keyword.m GK hr4 bK .nil (passes_call (takes_of rfl rfl rfl rfl) (fun _ _ _ _ h => h)) (pa_cons (pe_glob (v := .ref (He.ga K "MOVES")) rfl T.MOVES rfl) pa_nil)))
      (pss_cons (ps_set (i := 8) sc_parse_rule.nd rfl (.inl rfl) (pe_meth (pv 0) T.par.c T.number_of.m GN hr2 bN .nil pass0 (pa_cons (pe_fld (pv 0) rfl)
        (pa_cons (pe_meth (pv 0) T.par.c T.take.m GA hr4 bA .nil (passes_call (takes_of rfl rfl rfl rfl) (fun _ _ _ _ h => h)) (pa_cons (pe_glob (v := .str "name") rfl mNAME ⟨_, rfl⟩) pa_nil)) pa_nil))))
      (pss_cons (ps_expr (pe_meth (pv 0) T.par.c T.take_word.m GW hr4 bW .nil (passes_call (takes_of rfl rfl rfl rfl) (fun _ _ _ _ h => h)) (pa_cons pe_str pa_nil)))
      (C8.pss_cut (ps_if (pt_cmp (pc_din hu (pe_tup (pa_cons (pe_fld (pv 2) rfl) (pa_cons (pe_fld (pv 4) rfl) pa_nil))) (pe_fld (pv 0) rfl)))
        (pss_one (ps_expr (pe_meth (pv 0) T.par.c T.found.m GF hr1 bF .nil pass0 (pa_cons pe_str (pa_cons (pv 1) pa_nil))))) pss_nil)
      (pss_cons (ps_dput hu (pe_fld (pv 0) rfl) (pe_tup (pa_cons (pe_fld (pv 2) rfl) (pa_cons (pe_fld (pv 4) rfl) pa_nil))) pe_bl rfl)
      (pss_one (ps_dput hu (pe_fld (pv 0) rfl) (pe_tup (pa_cons (pv 3) (pa_cons (pv 5) pa_nil))) (pe_tup (pa_cons (pv 6) (pa_cons (pe_fld (pv 7) rfl) (pa_cons (pv 8) pa_nil)))) rfl)))))))))))))), ?_⟩
    obtain ⟨dx, ob⟩ := hP.ob
    have hlen := hG.len
    refine ⟨_, rfl, p, dx, _, rfl, ob, lp_no_take_word, H0, p, L, tas, Ts, st, wWhen, by rw [e_when]; rfl, hP, hB.at_, ⟨fun kw s1 h1 v H1 hv hP1 => ?_, fun l c he => R.er l c (by simp only [parseRule, he])⟩⟩
    obtain ⟨akw, rfl, htakw⟩ := hv
    obtain ⟨B1, f1, e1⟩ := bd_word hG hB h1 (by decide)
    obtain ⟨dx1, ob1⟩ := hP1.ob
    refine ⟨_, rfl, p, dx1, _, rfl, ob1, lp_no_take, H0, p, L, tas, Ts, s1, .name, rfl, hP1, B1.at_, ⟨fun first s2 h2 v H2 hv hP2 => ?_, fun l c he => R.er l c (by simp only [parseRule, h1, he])⟩⟩
    obtain ⟨af, rfl, htaf⟩ := hv
    obtain ⟨B2, f2, e2, _⟩ := bd_take hG B1 h2 (by decide)
    obtain ⟨dx2, ob2⟩ := hP2.ob
    have B2f := B2.fa
    have B2a := B2.at_
    refine ⟨_, rfl, p, dx2, _, rfl, ob2, lp_no_number_of, _, rfl, p, _, dx2, _, _, rfl, ob2, T.par.c, T.par.n _ (by simp), lp_moods, _, rfl, H0, p, L, tas, Ts, s2, true, af, first, rfl, hP2, htaf, by omega, fun H3 hP3 => ?_⟩
    have en2 : (s2.names true) = s2.moods := rfl
    rw [en2] at hP3
    rw [en2]
    obtain ⟨B3, a3, f3⟩ := bd_number B2 (names := s2.moods) (t := first) (by omega)
    generalize hs3 : (numberOf s2.moods first s2).2 = s3 at *
    generalize hmood : (numberOf s2.moods first s2).1 = mood at *
    obtain ⟨dx3, ob3⟩ := hP3.ob
    refine ⟨_, rfl, p, dx3, _, rfl, ob3, lp_no_take, H0, p, L, tas, Ts, s3, .name, rfl, hP3, B3.at_, ⟨fun second s4 h4 v H4 hv hP4 => ?_, fun l c he => R.er l c (by simp only [parseRule, h1, h2, hs3, he])⟩⟩
    obtain ⟨as, rfl, htas⟩ := hv
    obtain ⟨B4, f4, e4, _⟩ := bd_take hG B3 h4 (by decide)
    obtain ⟨dx4, ob4⟩ := hP4.ob
    have B4f := B4.fa
    have B4a := B4.at_
    refine ⟨_, rfl, p, dx4, _, rfl, ob4, lp_no_number_of, _, rfl, p, _, dx4, _, _, rfl, ob4, T.par.c, T.par.n _ (by simp), lp_signs, _, rfl, H0, p, L, tas, Ts, s4, false, as, second, rfl, hP4, htas, by omega, fun H5 hP5 => ?_⟩
    have en4 : (s4.names false) = s4.signs := rfl
    rw [en4] at hP5
    rw [en4]
    obtain ⟨B5, a5, f5⟩ := bd_number B4 (names := s4.signs) (t := second) (by omega)
    generalize hs5 : (numberOf s4.signs second s4).2 = s5 at *
    generalize hsign : (numberOf s4.signs second s4).1 = sign at *
    obtain ⟨dx5, ob5⟩ := hP5.ob
    refine ⟨_, rfl, p, dx5, _, rfl, ob5, lp_no_take_word, H0, p, L, tas, Ts, s5, wLeave, by rw [e_leave]; rfl, hP5, B5.at_, ⟨fun t6 s6 h6 v H6 hv hP6 => ?_, fun l c he => R.er l c (by simp only [parseRule, h1, h2, hs3, h4, hs5, he])⟩⟩
    clear hv
    obtain ⟨B6, f6, e6⟩ := bd_word hG B5 h6 (by decide)
    obtain ⟨dx6, ob6⟩ := hP6.ob
    refine ⟨_, rfl, p, dx6, _, rfl, ob6, lp_no_number_of, _, rfl, p, _, dx6, _, _, rfl, ob6, T.par.c, T.par.n _ (by simp), lp_signs, _, rfl, p, dx6, _, rfl, ob6, lp_no_take, H0, p, L, tas, Ts, s6, .name, rfl, hP6, B6.at_,
      ⟨fun lf s7 h7 v H7 hv hP7 => ?_, fun l c he => R.er l c (by simp only [parseRule, h1, h2, hs3, h4, hs5, h6, he])⟩⟩
    obtain ⟨alf, rfl, htalf⟩ := hv
    obtain ⟨B7, f7, e7, _⟩ := bd_take hG B6 h7 (by decide)
    have B7f := B7.fa
    have B7a := B7.at_
    refine ⟨H0, p, L, tas, Ts, s7, false, alf, lf, rfl, hP7, htalf, by omega, fun H8 hP8 => ?_⟩
    have en7 : (s7.names false) = s7.signs := rfl
    rw [en7] at hP8
    rw [en7]
    obtain ⟨B8, a8, f8⟩ := bd_number B7 (names := s7.signs) (t := lf) (by omega)
    generalize hs8 : (numberOf s7.signs lf s7).2 = s8 at *
    generalize hleft : (numberOf s7.signs lf s7).1 = left at *
    obtain ⟨dx8, ob8⟩ := hP8.ob
    refine ⟨_, rfl, p, dx8, _, rfl, ob8, lp_no_take_keyword, H0, p, L, tas, Ts, s8, He.ga K "MOVES", moves, rfl, hP8, B8.at_, T.moves H8, ⟨fun mv s9 h9 v H9 hv hP9 => ?_, fun l c he => R.er l c (by simp only [parseRule, h1, h2, hs3, h4, hs5, h6, h7, hs8, he])⟩⟩
    obtain ⟨amv, rfl, htamv⟩ := hv
    obtain ⟨B9, f9, e9⟩ := bd_kw hG B8 h9
    obtain ⟨dx9, ob9⟩ := hP9.ob
    refine ⟨_, rfl, p, dx9, _, rfl, ob9, lp_no_number_of, _, rfl, p, _, dx9, _, _, rfl, ob9, T.par.c, T.par.n _ (by simp), lp_moods, _, rfl, p, dx9, _, rfl, ob9, lp_no_take, H0, p, L, tas, Ts, s9, .name, rfl, hP9, B9.at_,
      ⟨fun la s10 h10 v H10 hv hP10 => ?_, fun l c he => R.er l c (by simp only [parseRule, h1, h2, hs3, h4, hs5, h6, h7, hs8, h9, he])⟩⟩
    obtain ⟨ala, rfl, htala⟩ := hv
    obtain ⟨B10, f10, e10, _⟩ := bd_take hG B9 h10 (by decide)
    have B10f := B10.fa
    have B10a := B10.at_
    refine ⟨H0, p, L, tas, Ts, s10, true, ala, la, rfl, hP10, htala, by omega, fun H11 hP11 => ?_⟩
    have en10 : (s10.names true) = s10.moods := rfl
    rw [en10] at hP11
    rw [en10]
    obtain ⟨B11, a11, f11⟩ := bd_number B10 (names := s10.moods) (t := la) (by omega)
    generalize hs11 : (numberOf s10.moods la s10).2 = s11 at *
    generalize hlater : (numberOf s10.moods la s10).1 = later at *
    obtain ⟨dx11, ob11⟩ := hP11.ob
    refine ⟨_, rfl, p, dx11, _, rfl, ob11, lp_no_take_word, H0, p, L, tas, Ts, s11, wSemi, by rw [e_semi]; rfl, hP11, B11.at_, ⟨fun t12 s12 h12 v H12 hv hP12 => ?_, fun l c he => R.er l c (by simp only [parseRule, h1, h2, hs3, h4, hs5, h6, h7, hs8, h9, h10, hs11, he])⟩⟩
    clear hv
    obtain ⟨B12, f12, e12⟩ := bd_word hG B11 h12 (by decide)
    have B12f := B12.fa
    have B12a := B12.at_
    have B12p := B12.pr
    have B12r := B12.ru
    have hfin := fun (r : PR Unit) (e : parseRule Ts st = r) => e
    obtain ⟨dx12, ob12⟩ := hP12.ob
    obtain ⟨dtf, htf⟩ := hP12.get htaf
    obtain ⟨dts, hts⟩ := hP12.get htas
    generalize hz : (if (first.text, second.text) ∈ s12.pairs then s12.found rTwice kw else s12) = z
    have hfin : parseRule Ts st = .ok ((), { ({ z with pairs := if (first.text, second.text) ∈ z.pairs then z.pairs else z.pairs ++ [(first.text, second.text)] } : PSt) with
        rules := putA z.rules (mood, sign) ⟨left, mv.text, later⟩ }) := by
      simp only [parseRule, h1, h2, hs3, h4, hs5, h6, h7, hs8, h9, h10, hs11, h12, hmood, hsign, hleft, hlater, hz]
    have zp : z.pairs = s12.pairs ∧ z.rules = s12.rules := by rw [← hz]; split <;> exact ⟨rfl, rfl⟩
    refine ⟨fun σ' H' => σ' = [some (.ref p), some (.ref akw), some (.ref af), some (.int mood), some (.ref as), some (.int sign), some (.int left), some (.ref amv), some (.int later)] ∧ PA K H0 H' p L tas Ts z, ?_, ?_⟩
    · refine ⟨_, rfl, af, _, dtf, _, _, rfl, htf, T.l.tok.c, T.l.tok.n _ (by simp), lk_text, _, rfl, as, _, dts, _, _, rfl, hts, T.l.tok.c, T.l.tok.n _ (by simp), lk_text, (by show 2 ≤ sizeLine; decide), fun tu ntu => ?_⟩
      have sm := sameUpd (o := .tup [sV first.text, sV second.text]) (Same.refl H12) ntu
      have hP13 := hP12.mono sm
      refine ⟨_, rfl, p, _, dx12, _, _, rfl, sm _ _ ob12, T.par.c, T.par.n _ (by simp), lp_pairs, L.pd, _, rfl, DGet.t (k := (pairK (first.text, second.text)).1) hP13.pr upd_same, _, rfl, ?_⟩
      rw [pairs_some]
      refine ite2 (fun h => ?_) (fun h => ?_)
      · have h := of_decide_eq_true h
        refine ⟨_, rfl, p, dx12, _, rfl, sm _ _ ob12, lp_no_found, _, rfl, H0, p, L, tas, Ts, s12, rTwice, akw, kw, by rw [e_twice]; rfl, hP13, htakw, by omega, fun H14 hP14 => ⟨rfl, ?_⟩⟩
        rw [← hz, if_pos h]
        exact hP14
      · have h : ¬ (first.text, second.text) ∈ s12.pairs := fun q => h (decide_eq_true q)
        refine ⟨rfl, ?_⟩
        rw [← hz, if_neg h]
        exact hP13
    · rintro σ' H13 ⟨rfl, hP13⟩
      obtain ⟨dx13, ob13⟩ := hP13.ob
      obtain ⟨dtf, htf⟩ := hP13.get htaf
      obtain ⟨dts, hts⟩ := hP13.get htas
      refine ⟨_, rfl, p, _, dx13, _, _, rfl, ob13, T.par.c, T.par.n _ (by simp), lp_pairs, _, rfl, af, _, dtf, _, _, rfl, htf, T.l.tok.c, T.l.tok.n _ (by simp), lk_text, _, rfl, as, _, dts, _, _, rfl, hts, T.l.tok.c, T.l.tok.n _ (by simp), lk_text, (by show 2 ≤ sizeLine; decide), fun tu ntu => ?_⟩
      have sm := sameUpd (o := .tup [sV first.text, sV second.text]) (Same.refl H13) ntu
      have hP14 := hP13.mono sm
      refine ⟨L.pd, _, rfl, DPut.t (k := (pairK (first.text, second.text)).1) hP14.pr upd_same (by rw [List.length_map, zp.1, sizeLine_eq]; omega), ?_⟩
      rw [pairs_put]
      have hP15 := hP14.set_pd (ps := if (first.text, second.text) ∈ z.pairs then z.pairs else z.pairs ++ [(first.text, second.text)]) hP14.pr trivial
      generalize hH15 : upd (upd H13 tu (.tup [sV first.text, sV second.text])) L.pd (.dT ((if (first.text, second.text) ∈ z.pairs then z.pairs else z.pairs ++ [(first.text, second.text)]).map pairK)) = H15 at *
      obtain ⟨dx15, ob15⟩ := hP15.ob
      obtain ⟨dtm, htm⟩ := hP15.get htamv
      refine ⟨_, rfl, _, rfl, amv, _, dtm, _, _, rfl, htm, T.l.tok.c, T.l.tok.n _ (by simp), lk_text, _, rfl, (by show 3 ≤ sizeLine; decide), fun tv ntv => ?_⟩
      have sm2 := sameUpd (o := .tup [.int left, sV mv.text, .int later]) (Same.refl H15) ntv
      refine ⟨_, rfl, p, _, dx15, _, _, rfl, sm2 _ _ ob15, T.par.c, T.par.n _ (by simp), lp_rules, _, rfl, _, rfl, (by show 2 ≤ sizeLine; decide), fun tk ntk => ?_⟩
      have sm3 := sm2.trans (sameUpd (o := .tup [.int mood, .int sign]) (Same.refl _) ntk)
      have hP16 := hP15.mono sm3
      obtain ⟨kvs, hkv, hkvs⟩ := hP16.ru
      have htv : (upd (upd H15 tv (.tup [.int left, sV mv.text, .int later])) tk (.tup [.int mood, .int sign])) tv = some (.tup [.int left, sV mv.text, .int later]) := by
        rw [upd_ne (ne_of_none upd_same ntk), upd_same]
      have hkl : z.rules.length = kvs.length := hkvs.length
      refine ⟨L.rd, _, rfl, DPut.t (k := keyT (mood, sign)) hkv upd_same (by rw [← hkl, zp.2, sizeLine_eq]; omega), ?_⟩
      refine R.ok () _ hfin _ _ rfl (hP16.set_rd hkv ?_)
      have z1 := rules_put (k := (mood, sign)) (r := ⟨left, mv.text, later⟩) htv hkvs
      exact Paired.mapP z1 fun r kv q => q.mono (keepT hkv fun xs q => by cases q)
end
end Sw

end

section
set_option maxRecDepth 100000
set_option maxHeartbeats 4000000
/-! Parser.__init__ -/
namespace Sw
open PySem PySem.Spec PyProof.Rows L2 SwA
theorem put_par (L : PLoc) : putF "spots" (.ref L.sd) (putF "pairs" (.ref L.pd) (putF "rules" (.ref L.rd) (putF "robots" (.ref L.rl) (putF "moods" (.ref L.ml) (putF "signs" (.ref L.sl) (putF "faults" (.ref L.fl) (putF "at" (.int 0) (putF "tokens" (.ref L.tl) [])))))))) = parF L 0 := by kernel_rfl
section
variable {P : Program} {w : World} {K : PySem.W.Frag} {mg : Str → Option Value} {base : Heap}
def spParInit (K : PySem.W.Frag) : Sp := fun vs H Q _ => ∃ (H0 : Hp) (p dx tl : Addr) (tas : List Addr) (T : List Tk), vs = [.ref p, .ref tl] ∧ H p = some (.ins (He.ga K "Parser") dx []) ∧ H tl = some (.lst (tas.map V.ref)) ∧ TksAt K H tas T ∧
  Same H0 H ∧ H0 p = none ∧ H0 tl = none ∧ ∀ (L : PLoc) (H' : Hp), PA K H0 H' p L tas T st0 → Q .non H'
theorem sc_par_init : FnScope ["self", "tokens"] ["self", "tokens"] (defScope s_Parser_init) := ⟨rfl, rfl, rfl, by decide +kernel, rfl, by decide +kernel, by decide +kernel⟩
theorem ok_par_init (T : ParT K mg) : FnE P w K mg base CX0 1 ("Parser", some "__init__") ["self", "tokens"] (spParInit K) := by
  obtain ⟨fd, F⟩ := T.init
  refine ⟨fd, F.ok sc_par_init (fun vs H Q E h => ?_) (fun cdv A outer s H vs Q E hr h => ?_), F.bindsN fun _ _ _ _ _ _ us hl => match us, hl with | [_, _], _ => rfl, F.kp⟩
  · obtain ⟨H0, p, dx, tl, tas, Ts, rfl, _⟩ := h
    rfl
  · obtain ⟨H0, p, dx, tl, tas, Ts, rfl, hp, htl, htk, sm, n0p, n0t, k⟩ := h
    refine ⟨_, PSs.nox (pss_cons (ps_fld (pv 0) (pv 1) rfl) (pss_cons (ps_fld (pv 0) pe_int rfl) (pss_cons (ps_fld (pv 0) (pe_lst pa_nil) rfl) (pss_cons (ps_fld (pv 0) (pe_lst pa_nil) rfl) (pss_cons (ps_fld (pv 0) (pe_lst pa_nil) rfl)
      (pss_cons (ps_fld (pv 0) (pe_lst pa_nil) rfl) (pss_cons (ps_fld (pv 0) pe_dnewT rfl) (pss_cons (ps_fld (pv 0) pe_dnewT rfl) (pss_one (ps_fld (pv 0) pe_dnewK rfl)))))))))), ?_⟩
    have kk0 : ∀ (Hc : Hp) (fs fs' : List (Str × V)), Hc p = some (.ins (He.ga K "Parser") dx fs) → TksAt K Hc tas Ts → TksAt K (upd Hc p (.ins (He.ga K "Parser") dx fs')) tas Ts := fun Hc fs fs' e h => Paired.mapP h fun a t q => keepK (K := K) e (fun C d gs z => by cases z; exact T.ne) a t q
    have ptl : tl ≠ p := ne_of htl hp (by intro z; cases z)
    refine ⟨_, rfl, _, rfl, p, _, dx, _, rfl, hp, T.par.c, T.par.n _ (by simp), lnZ ln0, ?_⟩
    refine ⟨_, rfl, p, _, dx, _, rfl, upd_same, T.par.c, T.par.n _ (by simp), lnZ (lnS ln0), ?_⟩
    rw [upd_upd]
    have at_p := @upd_same H p (.ins (He.ga K "Parser") dx (putF "at" (.int 0) (putF "tokens" (.ref tl) [])))
    have at_tl : (upd H p (.ins (He.ga K "Parser") dx (putF "at" (.int 0) (putF "tokens" (.ref tl) [])))) tl = some (.lst (tas.map V.ref)) := by rw [upd_ne ptl]; exact htl
    have tks := kk0 H _ (putF "at" (.int 0) (putF "tokens" (.ref tl) [])) hp htk
    have sm1 : Same H0 (upd H p (.ins (He.ga K "Parser") dx (putF "at" (.int 0) (putF "tokens" (.ref tl) [])))) := sameUpd sm n0p
    generalize upd H p (.ins (He.ga K "Parser") dx (putF "at" (.int 0) (putF "tokens" (.ref tl) []))) = H2 at *
    refine ⟨(by show 0 ≤ sizeLine; decide), fun fl n_fl => ?_⟩
    have n0_fl : H0 fl = none := sm1.free n_fl
    have p_fl : p ≠ fl := ne_of_none at_p n_fl
    have tl_fl : tl ≠ fl := ne_of_none at_tl n_fl
    refine ⟨_, rfl, p, _, dx, _, rfl, (upd_ne p_fl).trans at_p, T.par.c, T.par.n _ (by simp), lnZ (lnS (lnS ln0)), ?_⟩
    replace tks := kk0 _ _ (putF "faults" (.ref fl) (putF "at" (.int 0) (putF "tokens" (.ref tl) []))) ((upd_ne (o := .lst []) p_fl).trans at_p) (tks.same (sameUpd (o := .lst []) (Same.refl _) n_fl))
    replace at_p := @upd_same (upd H2 fl (.lst [])) p (.ins (He.ga K "Parser") dx (putF "faults" (.ref fl) (putF "at" (.int 0) (putF "tokens" (.ref tl) []))))
    replace at_tl := ((upd_ne (H := upd H2 fl (.lst [])) (o := .ins (He.ga K "Parser") dx (putF "faults" (.ref fl) (putF "at" (.int 0) (putF "tokens" (.ref tl) [])))) ptl).trans (upd_ne (o := .lst []) tl_fl)).trans at_tl
    have at_fl : (upd (upd H2 fl (.lst [])) p (.ins (He.ga K "Parser") dx (putF "faults" (.ref fl) (putF "at" (.int 0) (putF "tokens" (.ref tl) []))))) fl = some (.lst []) := (upd_ne (Ne.symm p_fl)).trans upd_same
    replace sm1 : Same H0 (upd (upd H2 fl (.lst [])) p (.ins (He.ga K "Parser") dx (putF "faults" (.ref fl) (putF "at" (.int 0) (putF "tokens" (.ref tl) []))))) := sameUpd (sameUpd sm1 n0_fl) n0p
    generalize upd (upd H2 fl (.lst [])) p (.ins (He.ga K "Parser") dx (putF "faults" (.ref fl) (putF "at" (.int 0) (putF "tokens" (.ref tl) [])))) = H3 at *
    refine ⟨(by show 0 ≤ sizeLine; decide), fun sl n_sl => ?_⟩
    have n0_sl : H0 sl = none := sm1.free n_sl
    have p_sl : p ≠ sl := ne_of_none at_p n_sl
    have tl_sl : tl ≠ sl := ne_of_none at_tl n_sl
    have fl_sl : fl ≠ sl := ne_of_none at_fl n_sl
    refine ⟨_, rfl, p, _, dx, _, rfl, (upd_ne p_sl).trans at_p, T.par.c, T.par.n _ (by simp), lnZ (lnS (lnS (lnS ln0))), ?_⟩
    replace tks := kk0 _ _ (putF "signs" (.ref sl) (putF "faults" (.ref fl) (putF "at" (.int 0) (putF "tokens" (.ref tl) [])))) ((upd_ne (o := .lst []) p_sl).trans at_p) (tks.same (sameUpd (o := .lst []) (Same.refl _) n_sl))
    replace at_p := @upd_same (upd H3 sl (.lst [])) p (.ins (He.ga K "Parser") dx (putF "signs" (.ref sl) (putF "faults" (.ref fl) (putF "at" (.int 0) (putF "tokens" (.ref tl) [])))))
    replace at_tl := ((upd_ne (H := upd H3 sl (.lst [])) (o := .ins (He.ga K "Parser") dx (putF "signs" (.ref sl) (putF "faults" (.ref fl) (putF "at" (.int 0) (putF "tokens" (.ref tl) []))))) ptl).trans (upd_ne (o := .lst []) tl_sl)).trans at_tl
    replace at_fl := ((upd_ne (H := upd H3 sl (.lst [])) (o := .ins (He.ga K "Parser") dx (putF "signs" (.ref sl) (putF "faults" (.ref fl) (putF "at" (.int 0) (putF "tokens" (.ref tl) []))))) (Ne.symm p_fl)).trans (upd_ne (o := .lst []) fl_sl)).trans at_fl
    have at_sl : (upd (upd H3 sl (.lst [])) p (.ins (He.ga K "Parser") dx (putF "signs" (.ref sl) (putF "faults" (.ref fl) (putF "at" (.int 0) (putF "tokens" (.ref tl) [])))))) sl = some (.lst []) := (upd_ne (Ne.symm p_sl)).trans upd_same
    replace sm1 : Same H0 (upd (upd H3 sl (.lst [])) p (.ins (He.ga K "Parser") dx (putF "signs" (.ref sl) (putF "faults" (.ref fl) (putF "at" (.int 0) (putF "tokens" (.ref tl) [])))))) := sameUpd (sameUpd sm1 n0_sl) n0p
    generalize upd (upd H3 sl (.lst [])) p (.ins (He.ga K "Parser") dx (putF "signs" (.ref sl) (putF "faults" (.ref fl) (putF "at" (.int 0) (putF "tokens" (.ref tl) []))))) = H4 at *
    refine ⟨(by show 0 ≤ sizeLine; decide), fun ml n_ml => ?_⟩
    have n0_ml : H0 ml = none := sm1.free n_ml
    have p_ml : p ≠ ml := ne_of_none at_p n_ml
    have tl_ml : tl ≠ ml := ne_of_none at_tl n_ml
    have fl_ml : fl ≠ ml := ne_of_none at_fl n_ml
    have sl_ml : sl ≠ ml := ne_of_none at_sl n_ml
    refine ⟨_, rfl, p, _, dx, _, rfl, (upd_ne p_ml).trans at_p, T.par.c, T.par.n _ (by simp), lnZ (lnS (lnS (lnS (lnS ln0)))), ?_⟩
    replace tks := kk0 _ _ (putF "moods" (.ref ml) (putF "signs" (.ref sl) (putF "faults" (.ref fl) (putF "at" (.int 0) (putF "tokens" (.ref tl) []))))) ((upd_ne (o := .lst []) p_ml).trans at_p) (tks.same (sameUpd (o := .lst []) (Same.refl _) n_ml))
    replace at_p := @upd_same (upd H4 ml (.lst [])) p (.ins (He.ga K "Parser") dx (putF "moods" (.ref ml) (putF "signs" (.ref sl) (putF "faults" (.ref fl) (putF "at" (.int 0) (putF "tokens" (.ref tl) []))))))
    replace at_tl := ((upd_ne (H := upd H4 ml (.lst [])) (o := .ins (He.ga K "Parser") dx (putF "moods" (.ref ml) (putF "signs" (.ref sl) (putF "faults" (.ref fl) (putF "at" (.int 0) (putF "tokens" (.ref tl) [])))))) ptl).trans (upd_ne (o := .lst []) tl_ml)).trans at_tl
    replace at_fl := ((upd_ne (H := upd H4 ml (.lst [])) (o := .ins (He.ga K "Parser") dx (putF "moods" (.ref ml) (putF "signs" (.ref sl) (putF "faults" (.ref fl) (putF "at" (.int 0) (putF "tokens" (.ref tl) [])))))) (Ne.symm p_fl)).trans (upd_ne (o := .lst []) fl_ml)).trans at_fl
    replace at_sl := ((upd_ne (H := upd H4 ml (.lst [])) (o := .ins (He.ga K "Parser") dx (putF "moods" (.ref ml) (putF "signs" (.ref sl) (putF "faults" (.ref fl) (putF "at" (.int 0) (putF "tokens" (.ref tl) [])))))) (Ne.symm p_sl)).trans (upd_ne (o := .lst []) sl_ml)).trans at_sl
    have at_ml : (upd (upd H4 ml (.lst [])) p (.ins (He.ga K "Parser") dx (putF "moods" (.ref ml) (putF "signs" (.ref sl) (putF "faults" (.ref fl) (putF "at" (.int 0) (putF "tokens" (.ref tl) []))))))) ml = some (.lst []) := (upd_ne (Ne.symm p_ml)).trans upd_same
    replace sm1 : Same H0 (upd (upd H4 ml (.lst [])) p (.ins (He.ga K "Parser") dx (putF "moods" (.ref ml) (putF "signs" (.ref sl) (putF "faults" (.ref fl) (putF "at" (.int 0) (putF "tokens" (.ref tl) []))))))) := sameUpd (sameUpd sm1 n0_ml) n0p
    generalize upd (upd H4 ml (.lst [])) p (.ins (He.ga K "Parser") dx (putF "moods" (.ref ml) (putF "signs" (.ref sl) (putF "faults" (.ref fl) (putF "at" (.int 0) (putF "tokens" (.ref tl) [])))))) = H5 at *
    refine ⟨(by show 0 ≤ sizeLine; decide), fun rl n_rl => ?_⟩
    have n0_rl : H0 rl = none := sm1.free n_rl
    have p_rl : p ≠ rl := ne_of_none at_p n_rl
    have tl_rl : tl ≠ rl := ne_of_none at_tl n_rl
    have fl_rl : fl ≠ rl := ne_of_none at_fl n_rl
    have sl_rl : sl ≠ rl := ne_of_none at_sl n_rl
    have ml_rl : ml ≠ rl := ne_of_none at_ml n_rl
    refine ⟨_, rfl, p, _, dx, _, rfl, (upd_ne p_rl).trans at_p, T.par.c, T.par.n _ (by simp), lnZ (lnS (lnS (lnS (lnS (lnS ln0))))), ?_⟩
    replace tks := kk0 _ _ (putF "robots" (.ref rl) (putF "moods" (.ref ml) (putF "signs" (.ref sl) (putF "faults" (.ref fl) (putF "at" (.int 0) (putF "tokens" (.ref tl) [])))))) ((upd_ne (o := .lst []) p_rl).trans at_p) (tks.same (sameUpd (o := .lst []) (Same.refl _) n_rl))
    replace at_p := @upd_same (upd H5 rl (.lst [])) p (.ins (He.ga K "Parser") dx (putF "robots" (.ref rl) (putF "moods" (.ref ml) (putF "signs" (.ref sl) (putF "faults" (.ref fl) (putF "at" (.int 0) (putF "tokens" (.ref tl) [])))))))
    replace at_tl := ((upd_ne (H := upd H5 rl (.lst [])) (o := .ins (He.ga K "Parser") dx (putF "robots" (.ref rl) (putF "moods" (.ref ml) (putF "signs" (.ref sl) (putF "faults" (.ref fl) (putF "at" (.int 0) (putF "tokens" (.ref tl) []))))))) ptl).trans (upd_ne (o := .lst []) tl_rl)).trans at_tl
    replace at_fl := ((upd_ne (H := upd H5 rl (.lst [])) (o := .ins (He.ga K "Parser") dx (putF "robots" (.ref rl) (putF "moods" (.ref ml) (putF "signs" (.ref sl) (putF "faults" (.ref fl) (putF "at" (.int 0) (putF "tokens" (.ref tl) []))))))) (Ne.symm p_fl)).trans (upd_ne (o := .lst []) fl_rl)).trans at_fl
    replace at_sl := ((upd_ne (H := upd H5 rl (.lst [])) (o := .ins (He.ga K "Parser") dx (putF "robots" (.ref rl) (putF "moods" (.ref ml) (putF "signs" (.ref sl) (putF "faults" (.ref fl) (putF "at" (.int 0) (putF "tokens" (.ref tl) []))))))) (Ne.symm p_sl)).trans (upd_ne (o := .lst []) sl_rl)).trans at_sl
    replace at_ml := ((upd_ne (H := upd H5 rl (.lst [])) (o := .ins (He.ga K "Parser") dx (putF "robots" (.ref rl) (putF "moods" (.ref ml) (putF "signs" (.ref sl) (putF "faults" (.ref fl) (putF "at" (.int 0) (putF "tokens" (.ref tl) []))))))) (Ne.symm p_ml)).trans (upd_ne (o := .lst []) ml_rl)).trans at_ml
    have at_rl : (upd (upd H5 rl (.lst [])) p (.ins (He.ga K "Parser") dx (putF "robots" (.ref rl) (putF "moods" (.ref ml) (putF "signs" (.ref sl) (putF "faults" (.ref fl) (putF "at" (.int 0) (putF "tokens" (.ref tl) [])))))))) rl = some (.lst []) := (upd_ne (Ne.symm p_rl)).trans upd_same
    replace sm1 : Same H0 (upd (upd H5 rl (.lst [])) p (.ins (He.ga K "Parser") dx (putF "robots" (.ref rl) (putF "moods" (.ref ml) (putF "signs" (.ref sl) (putF "faults" (.ref fl) (putF "at" (.int 0) (putF "tokens" (.ref tl) [])))))))) := sameUpd (sameUpd sm1 n0_rl) n0p
    generalize upd (upd H5 rl (.lst [])) p (.ins (He.ga K "Parser") dx (putF "robots" (.ref rl) (putF "moods" (.ref ml) (putF "signs" (.ref sl) (putF "faults" (.ref fl) (putF "at" (.int 0) (putF "tokens" (.ref tl) []))))))) = H6 at *
    intro rd n_rd
    have n0_rd : H0 rd = none := sm1.free n_rd
    have p_rd : p ≠ rd := ne_of_none at_p n_rd
    have tl_rd : tl ≠ rd := ne_of_none at_tl n_rd
    have fl_rd : fl ≠ rd := ne_of_none at_fl n_rd
    have sl_rd : sl ≠ rd := ne_of_none at_sl n_rd
    have ml_rd : ml ≠ rd := ne_of_none at_ml n_rd
    have rl_rd : rl ≠ rd := ne_of_none at_rl n_rd
    refine ⟨_, rfl, p, _, dx, _, rfl, (upd_ne p_rd).trans at_p, T.par.c, T.par.n _ (by simp), lnZ (lnS (lnS (lnS (lnS (lnS (lnS ln0)))))), ?_⟩
    replace tks := kk0 _ _ (putF "rules" (.ref rd) (putF "robots" (.ref rl) (putF "moods" (.ref ml) (putF "signs" (.ref sl) (putF "faults" (.ref fl) (putF "at" (.int 0) (putF "tokens" (.ref tl) []))))))) ((upd_ne (o := .dT []) p_rd).trans at_p) (tks.same (sameUpd (o := .dT []) (Same.refl _) n_rd))
    replace at_p := @upd_same (upd H6 rd (.dT [])) p (.ins (He.ga K "Parser") dx (putF "rules" (.ref rd) (putF "robots" (.ref rl) (putF "moods" (.ref ml) (putF "signs" (.ref sl) (putF "faults" (.ref fl) (putF "at" (.int 0) (putF "tokens" (.ref tl) []))))))))
    replace at_tl := ((upd_ne (H := upd H6 rd (.dT [])) (o := .ins (He.ga K "Parser") dx (putF "rules" (.ref rd) (putF "robots" (.ref rl) (putF "moods" (.ref ml) (putF "signs" (.ref sl) (putF "faults" (.ref fl) (putF "at" (.int 0) (putF "tokens" (.ref tl) [])))))))) ptl).trans (upd_ne (o := .dT []) tl_rd)).trans at_tl
    replace at_fl := ((upd_ne (H := upd H6 rd (.dT [])) (o := .ins (He.ga K "Parser") dx (putF "rules" (.ref rd) (putF "robots" (.ref rl) (putF "moods" (.ref ml) (putF "signs" (.ref sl) (putF "faults" (.ref fl) (putF "at" (.int 0) (putF "tokens" (.ref tl) [])))))))) (Ne.symm p_fl)).trans (upd_ne (o := .dT []) fl_rd)).trans at_fl
    replace at_sl := ((upd_ne (H := upd H6 rd (.dT [])) (o := .ins (He.ga K "Parser") dx (putF "rules" (.ref rd) (putF "robots" (.ref rl) (putF "moods" (.ref ml) (putF "signs" (.ref sl) (putF "faults" (.ref fl) (putF "at" (.int 0) (putF "tokens" (.ref tl) [])))))))) (Ne.symm p_sl)).trans (upd_ne (o := .dT []) sl_rd)).trans at_sl
    replace at_ml := ((upd_ne (H := upd H6 rd (.dT [])) (o := .ins (He.ga K "Parser") dx (putF "rules" (.ref rd) (putF "robots" (.ref rl) (putF "moods" (.ref ml) (putF "signs" (.ref sl) (putF "faults" (.ref fl) (putF "at" (.int 0) (putF "tokens" (.ref tl) [])))))))) (Ne.symm p_ml)).trans (upd_ne (o := .dT []) ml_rd)).trans at_ml
    replace at_rl := ((upd_ne (H := upd H6 rd (.dT [])) (o := .ins (He.ga K "Parser") dx (putF "rules" (.ref rd) (putF "robots" (.ref rl) (putF "moods" (.ref ml) (putF "signs" (.ref sl) (putF "faults" (.ref fl) (putF "at" (.int 0) (putF "tokens" (.ref tl) [])))))))) (Ne.symm p_rl)).trans (upd_ne (o := .dT []) rl_rd)).trans at_rl
    have at_rd : (upd (upd H6 rd (.dT [])) p (.ins (He.ga K "Parser") dx (putF "rules" (.ref rd) (putF "robots" (.ref rl) (putF "moods" (.ref ml) (putF "signs" (.ref sl) (putF "faults" (.ref fl) (putF "at" (.int 0) (putF "tokens" (.ref tl) []))))))))) rd = some (.dT []) := (upd_ne (Ne.symm p_rd)).trans upd_same
    replace sm1 : Same H0 (upd (upd H6 rd (.dT [])) p (.ins (He.ga K "Parser") dx (putF "rules" (.ref rd) (putF "robots" (.ref rl) (putF "moods" (.ref ml) (putF "signs" (.ref sl) (putF "faults" (.ref fl) (putF "at" (.int 0) (putF "tokens" (.ref tl) []))))))))) := sameUpd (sameUpd sm1 n0_rd) n0p
    generalize upd (upd H6 rd (.dT [])) p (.ins (He.ga K "Parser") dx (putF "rules" (.ref rd) (putF "robots" (.ref rl) (putF "moods" (.ref ml) (putF "signs" (.ref sl) (putF "faults" (.ref fl) (putF "at" (.int 0) (putF "tokens" (.ref tl) [])))))))) = H7 at *
    intro pd n_pd
    have n0_pd : H0 pd = none := sm1.free n_pd
    have p_pd : p ≠ pd := ne_of_none at_p n_pd
    have tl_pd : tl ≠ pd := ne_of_none at_tl n_pd
    have fl_pd : fl ≠ pd := ne_of_none at_fl n_pd
    have sl_pd : sl ≠ pd := ne_of_none at_sl n_pd
    have ml_pd : ml ≠ pd := ne_of_none at_ml n_pd
    have rl_pd : rl ≠ pd := ne_of_none at_rl n_pd
    have rd_pd : rd ≠ pd := ne_of_none at_rd n_pd
    refine ⟨_, rfl, p, _, dx, _, rfl, (upd_ne p_pd).trans at_p, T.par.c, T.par.n _ (by simp), lnZ (lnS (lnS (lnS (lnS (lnS (lnS (lnS ln0))))))), ?_⟩
    replace tks := kk0 _ _ (putF "pairs" (.ref pd) (putF "rules" (.ref rd) (putF "robots" (.ref rl) (putF "moods" (.ref ml) (putF "signs" (.ref sl) (putF "faults" (.ref fl) (putF "at" (.int 0) (putF "tokens" (.ref tl) [])))))))) ((upd_ne (o := .dT []) p_pd).trans at_p) (tks.same (sameUpd (o := .dT []) (Same.refl _) n_pd))
    replace at_p := @upd_same (upd H7 pd (.dT [])) p (.ins (He.ga K "Parser") dx (putF "pairs" (.ref pd) (putF "rules" (.ref rd) (putF "robots" (.ref rl) (putF "moods" (.ref ml) (putF "signs" (.ref sl) (putF "faults" (.ref fl) (putF "at" (.int 0) (putF "tokens" (.ref tl) [])))))))))
    replace at_tl := ((upd_ne (H := upd H7 pd (.dT [])) (o := .ins (He.ga K "Parser") dx (putF "pairs" (.ref pd) (putF "rules" (.ref rd) (putF "robots" (.ref rl) (putF "moods" (.ref ml) (putF "signs" (.ref sl) (putF "faults" (.ref fl) (putF "at" (.int 0) (putF "tokens" (.ref tl) []))))))))) ptl).trans (upd_ne (o := .dT []) tl_pd)).trans at_tl
    replace at_fl := ((upd_ne (H := upd H7 pd (.dT [])) (o := .ins (He.ga K "Parser") dx (putF "pairs" (.ref pd) (putF "rules" (.ref rd) (putF "robots" (.ref rl) (putF "moods" (.ref ml) (putF "signs" (.ref sl) (putF "faults" (.ref fl) (putF "at" (.int 0) (putF "tokens" (.ref tl) []))))))))) (Ne.symm p_fl)).trans (upd_ne (o := .dT []) fl_pd)).trans at_fl
    replace at_sl := ((upd_ne (H := upd H7 pd (.dT [])) (o := .ins (He.ga K "Parser") dx (putF "pairs" (.ref pd) (putF "rules" (.ref rd) (putF "robots" (.ref rl) (putF "moods" (.ref ml) (putF "signs" (.ref sl) (putF "faults" (.ref fl) (putF "at" (.int 0) (putF "tokens" (.ref tl) []))))))))) (Ne.symm p_sl)).trans (upd_ne (o := .dT []) sl_pd)).trans at_sl
    replace at_ml := ((upd_ne (H := upd H7 pd (.dT [])) (o := .ins (He.ga K "Parser") dx (putF "pairs" (.ref pd) (putF "rules" (.ref rd) (putF "robots" (.ref rl) (putF "moods" (.ref ml) (putF "signs" (.ref sl) (putF "faults" (.ref fl) (putF "at" (.int 0) (putF "tokens" (.ref tl) []))))))))) (Ne.symm p_ml)).trans (upd_ne (o := .dT []) ml_pd)).trans at_ml
    replace at_rl := ((upd_ne (H := upd H7 pd (.dT [])) (o := .ins (He.ga K "Parser") dx (putF "pairs" (.ref pd) (putF "rules" (.ref rd) (putF "robots" (.ref rl) (putF "moods" (.ref ml) (putF "signs" (.ref sl) (putF "faults" (.ref fl) (putF "at" (.int 0) (putF "tokens" (.ref tl) []))))))))) (Ne.symm p_rl)).trans (upd_ne (o := .dT []) rl_pd)).trans at_rl
    replace at_rd := ((upd_ne (H := upd H7 pd (.dT [])) (o := .ins (He.ga K "Parser") dx (putF "pairs" (.ref pd) (putF "rules" (.ref rd) (putF "robots" (.ref rl) (putF "moods" (.ref ml) (putF "signs" (.ref sl) (putF "faults" (.ref fl) (putF "at" (.int 0) (putF "tokens" (.ref tl) []))))))))) (Ne.symm p_rd)).trans (upd_ne (o := .dT []) rd_pd)).trans at_rd
    have at_pd : (upd (upd H7 pd (.dT [])) p (.ins (He.ga K "Parser") dx (putF "pairs" (.ref pd) (putF "rules" (.ref rd) (putF "robots" (.ref rl) (putF "moods" (.ref ml) (putF "signs" (.ref sl) (putF "faults" (.ref fl) (putF "at" (.int 0) (putF "tokens" (.ref tl) [])))))))))) pd = some (.dT []) := (upd_ne (Ne.symm p_pd)).trans upd_same
    replace sm1 : Same H0 (upd (upd H7 pd (.dT [])) p (.ins (He.ga K "Parser") dx (putF "pairs" (.ref pd) (putF "rules" (.ref rd) (putF "robots" (.ref rl) (putF "moods" (.ref ml) (putF "signs" (.ref sl) (putF "faults" (.ref fl) (putF "at" (.int 0) (putF "tokens" (.ref tl) [])))))))))) := sameUpd (sameUpd sm1 n0_pd) n0p
    generalize upd (upd H7 pd (.dT [])) p (.ins (He.ga K "Parser") dx (putF "pairs" (.ref pd) (putF "rules" (.ref rd) (putF "robots" (.ref rl) (putF "moods" (.ref ml) (putF "signs" (.ref sl) (putF "faults" (.ref fl) (putF "at" (.int 0) (putF "tokens" (.ref tl) []))))))))) = H8 at *
    intro sd n_sd
    have n0_sd : H0 sd = none := sm1.free n_sd
    have p_sd : p ≠ sd := ne_of_none at_p n_sd
    have tl_sd : tl ≠ sd := ne_of_none at_tl n_sd
    have fl_sd : fl ≠ sd := ne_of_none at_fl n_sd
    have sl_sd : sl ≠ sd := ne_of_none at_sl n_sd
    have ml_sd : ml ≠ sd := ne_of_none at_ml n_sd
    have rl_sd : rl ≠ sd := ne_of_none at_rl n_sd
    have rd_sd : rd ≠ sd := ne_of_none at_rd n_sd
    have pd_sd : pd ≠ sd := ne_of_none at_pd n_sd
    refine ⟨_, rfl, p, _, dx, _, rfl, (upd_ne p_sd).trans at_p, T.par.c, T.par.n _ (by simp), lnZ (lnS (lnS (lnS (lnS (lnS (lnS (lnS (lnS ln0)))))))), ?_⟩
    replace tks := kk0 _ _ (putF "spots" (.ref sd) (putF "pairs" (.ref pd) (putF "rules" (.ref rd) (putF "robots" (.ref rl) (putF "moods" (.ref ml) (putF "signs" (.ref sl) (putF "faults" (.ref fl) (putF "at" (.int 0) (putF "tokens" (.ref tl) []))))))))) ((upd_ne (o := .dK []) p_sd).trans at_p) (tks.same (sameUpd (o := .dK []) (Same.refl _) n_sd))
    replace at_p := @upd_same (upd H8 sd (.dK [])) p (.ins (He.ga K "Parser") dx (putF "spots" (.ref sd) (putF "pairs" (.ref pd) (putF "rules" (.ref rd) (putF "robots" (.ref rl) (putF "moods" (.ref ml) (putF "signs" (.ref sl) (putF "faults" (.ref fl) (putF "at" (.int 0) (putF "tokens" (.ref tl) []))))))))))
    replace at_tl := ((upd_ne (H := upd H8 sd (.dK [])) (o := .ins (He.ga K "Parser") dx (putF "spots" (.ref sd) (putF "pairs" (.ref pd) (putF "rules" (.ref rd) (putF "robots" (.ref rl) (putF "moods" (.ref ml) (putF "signs" (.ref sl) (putF "faults" (.ref fl) (putF "at" (.int 0) (putF "tokens" (.ref tl) [])))))))))) ptl).trans (upd_ne (o := .dK []) tl_sd)).trans at_tl
    replace at_fl := ((upd_ne (H := upd H8 sd (.dK [])) (o := .ins (He.ga K "Parser") dx (putF "spots" (.ref sd) (putF "pairs" (.ref pd) (putF "rules" (.ref rd) (putF "robots" (.ref rl) (putF "moods" (.ref ml) (putF "signs" (.ref sl) (putF "faults" (.ref fl) (putF "at" (.int 0) (putF "tokens" (.ref tl) [])))))))))) (Ne.symm p_fl)).trans (upd_ne (o := .dK []) fl_sd)).trans at_fl
    replace at_sl := ((upd_ne (H := upd H8 sd (.dK [])) (o := .ins (He.ga K "Parser") dx (putF "spots" (.ref sd) (putF "pairs" (.ref pd) (putF "rules" (.ref rd) (putF "robots" (.ref rl) (putF "moods" (.ref ml) (putF "signs" (.ref sl) (putF "faults" (.ref fl) (putF "at" (.int 0) (putF "tokens" (.ref tl) [])))))))))) (Ne.symm p_sl)).trans (upd_ne (o := .dK []) sl_sd)).trans at_sl
    replace at_ml := ((upd_ne (H := upd H8 sd (.dK [])) (o := .ins (He.ga K "Parser") dx (putF "spots" (.ref sd) (putF "pairs" (.ref pd) (putF "rules" (.ref rd) (putF "robots" (.ref rl) (putF "moods" (.ref ml) (putF "signs" (.ref sl) (putF "faults" (.ref fl) (putF "at" (.int 0) (putF "tokens" (.ref tl) [])))))))))) (Ne.symm p_ml)).trans (upd_ne (o := .dK []) ml_sd)).trans at_ml
    replace at_rl := ((upd_ne (H := upd H8 sd (.dK [])) (o := .ins (He.ga K "Parser") dx (putF "spots" (.ref sd) (putF "pairs" (.ref pd) (putF "rules" (.ref rd) (putF "robots" (.ref rl) (putF "moods" (.ref ml) (putF "signs" (.ref sl) (putF "faults" (.ref fl) (putF "at" (.int 0) (putF "tokens" (.ref tl) [])))))))))) (Ne.symm p_rl)).trans (upd_ne (o := .dK []) rl_sd)).trans at_rl
    replace at_rd := ((upd_ne (H := upd H8 sd (.dK [])) (o := .ins (He.ga K "Parser") dx (putF "spots" (.ref sd) (putF "pairs" (.ref pd) (putF "rules" (.ref rd) (putF "robots" (.ref rl) (putF "moods" (.ref ml) (putF "signs" (.ref sl) (putF "faults" (.ref fl) (putF "at" (.int 0) (putF "tokens" (.ref tl) [])))))))))) (Ne.symm p_rd)).trans (upd_ne (o := .dK []) rd_sd)).trans at_rd
    replace at_pd := ((upd_ne (H := upd H8 sd (.dK [])) (o := .ins (He.ga K "Parser") dx (putF "spots" (.ref sd) (putF "pairs" (.ref pd) (putF "rules" (.ref rd) (putF "robots" (.ref rl) (putF "moods" (.ref ml) (putF "signs" (.ref sl) (putF "faults" (.ref fl) (putF "at" (.int 0) (putF "tokens" (.ref tl) [])))))))))) (Ne.symm p_pd)).trans (upd_ne (o := .dK []) pd_sd)).trans at_pd
    have at_sd : (upd (upd H8 sd (.dK [])) p (.ins (He.ga K "Parser") dx (putF "spots" (.ref sd) (putF "pairs" (.ref pd) (putF "rules" (.ref rd) (putF "robots" (.ref rl) (putF "moods" (.ref ml) (putF "signs" (.ref sl) (putF "faults" (.ref fl) (putF "at" (.int 0) (putF "tokens" (.ref tl) []))))))))))) sd = some (.dK []) := (upd_ne (Ne.symm p_sd)).trans upd_same
    replace sm1 : Same H0 (upd (upd H8 sd (.dK [])) p (.ins (He.ga K "Parser") dx (putF "spots" (.ref sd) (putF "pairs" (.ref pd) (putF "rules" (.ref rd) (putF "robots" (.ref rl) (putF "moods" (.ref ml) (putF "signs" (.ref sl) (putF "faults" (.ref fl) (putF "at" (.int 0) (putF "tokens" (.ref tl) []))))))))))) := sameUpd (sameUpd sm1 n0_sd) n0p
    generalize upd (upd H8 sd (.dK [])) p (.ins (He.ga K "Parser") dx (putF "spots" (.ref sd) (putF "pairs" (.ref pd) (putF "rules" (.ref rd) (putF "robots" (.ref rl) (putF "moods" (.ref ml) (putF "signs" (.ref sl) (putF "faults" (.ref fl) (putF "at" (.int 0) (putF "tokens" (.ref tl) [])))))))))) = H9 at *
    refine k ⟨tl, fl, sl, ml, rl, rd, pd, sd⟩ H9 ⟨sm1, ⟨dx, at_p.trans (congrArg (fun z => some (HO.ins (He.ga K "Parser") dx z)) (put_par ⟨tl, fl, sl, ml, rl, rd, pd, sd⟩))⟩, at_tl, tks, ⟨[], at_fl, trivial⟩, at_sl, at_ml, ⟨[], at_rl, .nil⟩, ⟨[], at_rd, .nil⟩, at_pd, at_sd, ?_, ?_⟩
    · simp only [List.nodup_cons, List.mem_cons, List.not_mem_nil, or_false, not_or]
      exact ⟨⟨Ne.symm ptl, p_fl, p_sl, p_ml, p_rl, p_rd, p_pd, p_sd⟩, ⟨tl_fl, tl_sl, tl_ml, tl_rl, tl_rd, tl_pd, tl_sd⟩, ⟨fl_sl, fl_ml, fl_rl, fl_rd, fl_pd, fl_sd⟩, ⟨sl_ml, sl_rl, sl_rd, sl_pd, sl_sd⟩, ⟨ml_rl, ml_rd, ml_pd, ml_sd⟩, ⟨rl_rd, rl_pd, rl_sd⟩, ⟨rd_pd, rd_sd⟩, pd_sd, not_false, List.nodup_nil⟩
    · intro a ha
      simp only [List.mem_cons, List.not_mem_nil, or_false] at ha
      rcases ha with rfl | rfl | rfl | rfl | rfl | rfl | rfl | rfl | rfl <;> assumption
end
end Sw

end

section
set_option maxRecDepth 100000
set_option maxHeartbeats 4000000
/-! parse_plan, load -/
namespace Sw
open PySem PySem.Spec PyProof.Rows L2 SwA
structure LoadT (K : PySem.W.Frag) (mg : Str → Option Value) : Prop where
  p : ParT K mg
  plan : MkC K mg "Plan" planF
  d_plan : FD K ("Plan", some "__init__") "__init__" "Plan.__init__" s_Plan_init
  d_load : FD K ("load", none) "load" "load" s_load
  g_load : mg "load" = some (.ref (He.ga K "load"))
/-- a plan's object -/
def PlanAt (K : PySem.W.Frag) (H : Hp) (a : Addr) (pl : Plan) : Prop := ∃ (dx sa ma fa ra rd : Addr) (ras : List Addr),
  H a = some (.ins (He.ga K "Plan") dx [("signs", .ref sa), ("moods", .ref ma), ("floor", .ref fa), ("robots", .ref ra), ("rules", .ref rd)]) ∧ TupN H sa (pl.signs.map sV) ∧ TupN H ma (pl.moods.map sV) ∧
  H fa = some (.tup (pl.floor.map fun n : Nat => V.int n)) ∧ H ra = some (.tup (ras.map V.ref)) ∧ Paired (RobAt H) ras pl.robots ∧ RulesAt H rd pl.rules
theorem PlanAt.same {K : PySem.W.Frag} {H H' : Hp} {a : Addr} {pl : Plan} (s : Same H H') (h : PlanAt K H a pl) : PlanAt K H' a pl := by
  obtain ⟨dx, sa, ma, fa, ra, rd, ras, e1, e2, e3, e4, e5, e6, kvs, e7, e8⟩ := h
  exact ⟨dx, sa, ma, fa, ra, rd, ras, s _ _ e1, e2.mono fun _ z => s _ _ z, e3.mono fun _ z => s _ _ z, s _ _ e4, s _ _ e5, Paired.mapP e6 fun _ _ q => s _ _ q, kvs, s _ _ e7, Paired.mapP e8 fun _ _ q => q.mono fun _ _ z => s _ _ z⟩
theorem put_plan (a b c d e : V) : putF "rules" e (putF "robots" d (putF "floor" c (putF "moods" b (putF "signs" a [])))) = ([("signs", a), ("moods", b), ("floor", c), ("robots", d), ("rules", e)] : List (Str × V)) := by kernel_rfl
theorem spots_get (l : List (Nat × Nat)) (i : Nat) : (valV (l.map spotK) (.inl ((0 : Int) + (i : Nat)) : Key)).getD (.int 0) = .int ((getA l i).getD 0 : Nat) := by
  rw [Int.zero_add]
  induction l with
  | nil => rfl
  | cons a r ih =>
    by_cases e : a.1 = i
    · rw [List.map_cons, valV_pos (show (spotK a).1 = .inl (i : Int) by show (.inl (a.1 : Int) : Key) = _; rw [e])]
      unfold getA
      rw [List.find?_cons, decide_eq_true e]
      rfl
    · rw [List.map_cons, valV_neg (show ¬ (spotK a).1 = .inl (i : Int) from fun q => e (key_inl.mp q)), ih]
      unfold getA
      rw [List.find?_cons, decide_eq_false e]
/-! ### the tokens are good -/
theorem mem_tw {p : Nat → Bool} {x : Nat} : ∀ {l : Cs}, x ∈ l.takeWhile p → p x = true
  | [], h => by cases h
  | c :: r, h => by
    cases e : p c with
    | false => rw [List.takeWhile_cons, e] at h; cases h
    | true =>
      rw [List.takeWhile_cons, e] at h
      rcases List.mem_cons.mp h with q | q
      · rw [q]; exact e
      · exact mem_tw q
theorem readTok_kind {line col : Nat} {rest : Cs} {t : Tk} (h : readTok line col rest = some t) : t.kind ≠ .fin ∧ (t.kind = .number → (1 ≤ t.text.length ∧ t.text.length ≤ 2) ∧ t.text.all isD = true) := by
  unfold readTok at h
  split at h
  · cases h
  · rename_i c r
    split at h
    · cases h
      exact ⟨(fun q => by cases q), (fun q => by cases q)⟩
    · split at h
      · rename_i hd
        split at h
        · cases h
        · rename_i hn
          cases h
          refine ⟨(fun q => by cases q), fun _ => ⟨⟨?_, by show ((c :: r).takeWhile isD).length ≤ 2; omega⟩, ?_⟩⟩
          · simp [List.takeWhile_cons, hd]
          · rw [List.all_eq_true]
            intro x hx
            exact mem_tw hx
      · split at h
        · cases h
          exact ⟨(fun q => by cases q), (fun q => by cases q)⟩
        · split at h
          · cases h
            exact ⟨(fun q => by cases q), (fun q => by cases q)⟩
          · cases h
def TkG (t : Tk) : Prop := t.kind ≠ .fin ∧ (t.kind = .number → (1 ≤ t.text.length ∧ t.text.length ≤ 2) ∧ t.text.all isD = true)
theorem lexRow_good (line : Nat) : ∀ (f col : Nat) (rest : Cs) (ts : List Tk), lexRow line f col rest = .ok ts → (∀ t ∈ ts, TkG t) ∧ ts.length ≤ rest.length
  | f, col, [], ts, h => by
    have e : ts = [] := by cases f <;> (injection h with h; exact h.symm)
    subst e
    exact ⟨by simp, Nat.le_refl _⟩
  | 0, col, c :: r, ts, h => by
    injection h with h
    subst h
    exact ⟨by simp, Nat.zero_le _⟩
  | f + 1, col, c :: r, ts, h => by
    unfold lexRow at h
    split at h
    · have z := lexRow_good line f (col + 1) r ts h
      exact ⟨z.1, Nat.le_succ_of_le z.2⟩
    · split at h
      · cases h
      · rename_i t ht
        split at h
        · cases h
        · rename_i us hu
          cases h
          have z := lexRow_good line f _ _ us hu
          have l := readTok_len ht
          rw [List.length_drop] at z
          refine ⟨fun x hx => ?_, ?_⟩
          · rcases List.mem_cons.mp hx with q | q
            · rw [q]; exact readTok_kind ht
            · exact z.1 x q
          · simp only [List.length_cons] at z l ⊢
            omega
theorem lexRows_good : ∀ (rows : List Cs) (line : Nat) (ts : List Tk), lexRows line rows = .ok ts → (∀ t ∈ ts, TkG t) ∧ ts.length ≤ (rows.map List.length).sum
  | [], line, ts, h => by
    injection h with h
    subst h
    exact ⟨by simp, by simp⟩
  | row :: rest, line, ts, h => by
    unfold lexRows at h
    split at h
    · cases h
    · rename_i us hu
      split at h
      · cases h
      · rename_i vs hv
        cases h
        have z1 := lexRow_good line _ _ _ us hu
        have z2 := lexRows_good rest (line + 1) vs hv
        refine ⟨fun x hx => ?_, ?_⟩
        · rcases List.mem_append.mp hx with q | q
          · exact z1.1 x q
          · exact z2.1 x q
        · rw [List.length_append, List.map_cons, List.sum_cons]
          omega
theorem tokenize_good {text : Cs} {T : List Tk} (hl : text.length ≤ 90000) (h : tokenize text = .ok T) : GoodT T := by
  unfold tokenize at h
  split at h
  · cases h
  · rename_i ts ht
    cases h
    obtain ⟨g, gl⟩ := lexRows_good _ _ _ ht
    have gl2 := Nat.le_trans gl (rows_sum text)
    have get : ∀ (i : Nat) t, (ts ++ [(⟨.fin, [], (rowsOf text).length, 0⟩ : Tk)])[i]? = some t → (i < ts.length ∧ t ∈ ts) ∨ (i = ts.length ∧ t = ⟨.fin, [], (rowsOf text).length, 0⟩) := by
      intro i t e
      by_cases hi : i < ts.length
      · rw [List.getElem?_append_left hi] at e
        exact .inl ⟨hi, List.mem_of_getElem? e⟩
      · rw [List.getElem?_append_right (Nat.le_of_not_lt hi)] at e
        cases hd : i - ts.length with
        | zero =>
          rw [hd] at e
          exact .inr ⟨by omega, (Option.some.inj e).symm⟩
        | succ n =>
          rw [hd] at e
          simp at e
    refine ⟨fun i t e hi => ?_, by simp, fun i t e hk => ?_, fun t ht hk => ?_, by simp; omega⟩
    · rw [List.length_append] at hi
      rcases get i t e with q | q
      · have : [(⟨.fin, [], (rowsOf text).length, 0⟩ : Tk)].length = 1 := rfl
        omega
      · rw [q.2]
        exact ⟨rfl, rfl⟩
    · rcases get i t e with q | q
      · exact absurd hk (g t q.2).1
      · rw [q.1, List.length_append]
        rfl
    · rcases List.mem_append.mp ht with q | q
      · exact (g t q).2 hk
      · have e : t = ⟨.fin, [], (rowsOf text).length, 0⟩ := by simpa using q
        rw [e] at hk
        cases hk
theorem numVal_le {w : Cs} (h : w.all isD = true) (h2 : w.length ≤ 2) : numVal w ≤ 99 := by
  have d : ∀ c, isD c = true → c - 48 ≤ 9 := fun c hc => by
    unfold isD at hc
    rw [Bool.and_eq_true] at hc
    have := Nat.le_of_ble_eq_true hc.2
    omega
  match w, h, h2 with
  | [], _, _ => simp [numVal]
  | [a], h, _ =>
    simp only [List.all_cons, List.all_nil, Bool.and_true] at h
    have := d a h
    simp [numVal]
    omega
  | [a, b], h, _ =>
    simp only [List.all_cons, List.all_nil, Bool.and_true, Bool.and_eq_true] at h
    have h1 := d a h.1
    have h2 := d b h.2
    simp [numVal]
    omega
section
variable {P : Program} {w : World} {K : PySem.W.Frag} {mg : Str → Option Value} {base : Heap}
theorem sc_plan : FnScope ["self", "signs", "moods", "floor", "robots", "rules"] ["self", "signs", "moods", "floor", "robots", "rules"] (defScope s_Plan_init) := ⟨rfl, rfl, rfl, by decide +kernel, rfl, by decide +kernel, by decide +kernel⟩
theorem ok_plan (T : LoadT K mg) : FnE P w K mg base CX0 1 ("Plan", some "__init__") ["self", "signs", "moods", "floor", "robots", "rules"] (spInit (He.ga K "Plan") planF) := by
  obtain ⟨fd, F⟩ := T.d_plan
  refine ⟨fd, F.ok sc_plan (fun vs H Q E h => ?_) (fun cdv A outer s H vs Q E hr h => ?_), F.bindsN fun _ _ _ _ _ _ us hl => match us, hl with | [_, _, _, _, _, _], _ => rfl, F.kp⟩
  · obtain ⟨a, dx, args, rfl, e, _⟩ := h
    simp [e]
  · obtain ⟨p, dx, args, rfl, e, hp, k⟩ := h
    obtain ⟨v1, v2, v3, v4, v5, rfl⟩ : ∃ v1 v2 v3 v4 v5, args = [v1, v2, v3, v4, v5] := by
      match args, e with
      | [v1, v2, v3, v4, v5], _ => exact ⟨v1, v2, v3, v4, v5, rfl⟩
    refine ⟨_, PSs.nox (pss_cons (ps_fld (pv 0) (pv 1) rfl) (pss_cons (ps_fld (pv 0) (pv 2) rfl) (pss_cons (ps_fld (pv 0) (pv 3) rfl) (pss_cons (ps_fld (pv 0) (pv 4) rfl) (pss_one (ps_fld (pv 0) (pv 5) rfl)))))), ?_⟩
    refine ⟨_, rfl, _, rfl, p, _, dx, _, rfl, hp, T.plan.c, T.plan.n _ (by simp), lnZ ln0, ?_⟩
    refine ⟨_, rfl, _, rfl, p, _, dx, _, rfl, upd_same, T.plan.c, T.plan.n _ (by simp), lnZ (lnS ln0), ?_⟩
    refine ⟨_, rfl, _, rfl, p, _, dx, _, rfl, upd_same, T.plan.c, T.plan.n _ (by simp), lnZ (lnS (lnS ln0)), ?_⟩
    refine ⟨_, rfl, _, rfl, p, _, dx, _, rfl, upd_same, T.plan.c, T.plan.n _ (by simp), lnZ (lnS (lnS (lnS ln0))), ?_⟩
    refine ⟨_, rfl, _, rfl, p, _, dx, _, rfl, upd_same, T.plan.c, T.plan.n _ (by simp), lnZ (lnS (lnS (lnS (lnS ln0)))), ?_⟩
    refine k _ ?_ fun b hb => by rw [upd_ne hb, upd_ne hb, upd_ne hb, upd_ne hb, upd_ne hb]
    rw [upd_same, put_plan]
    rfl
def spParsePlan (K : PySem.W.Frag) : Sp := fun vs H Q E => ∃ (H0 : Hp) (p : Addr) (L : PLoc) (tas : List Addr) (T : List Tk), vs = [.ref p] ∧ PA K H0 H p L tas T st0 ∧ GoodT T ∧
  (∀ n s, parsePlan T = .ok (n, s) → s.faults = [] ∧ ∀ (a : Addr) (H' : Hp), H0 a = none → Same H0 H' → PlanAt K H' a (planOf n s) → Q (.ref a) H') ∧ (∀ l c, parsePlan T = .error (l, c) → Syn K H0 E l c)
abbrev ppN : List Str := ["self", "token", "tiles", "line", "column", "number", "reason", "floor", "tile"]
theorem sc_parse_plan : FnScope ppN ["self"] (defScope s_Parser_parse_plan) := ⟨rfl, rfl, rfl, by decide +kernel, rfl, by decide +kernel, by decide +kernel⟩
theorem ok_parse_plan (T : LoadT K mg) : FnE P w K mg base (L2.CX P w) 7 ("Parser", some "parse_plan") ["self"] (spParsePlan K) := by
  obtain ⟨fd, F⟩ := T.p.parse_plan.d
  obtain ⟨fdP, GP, bP, kP⟩ := ok_peek (P := P) (w := w) (base := base) T.p
  obtain ⟨fdF, GF, bF, kF⟩ := ok_found (P := P) (w := w) (base := base) T.p
  obtain ⟨fdX, GX, bX, kX⟩ := ok_fail (P := P) (w := w) (base := base) T.p
  obtain ⟨fdA, GA, bA, kA⟩ := ok_take (P := P) (w := w) (base := base) T.p
  obtain ⟨fdW, GW, bW, kW⟩ := ok_take_word (P := P) (w := w) (base := base) T.p
  obtain ⟨fdN, GN, bN, kN⟩ := ok_parse_names (P := P) (w := w) (base := base) T.p
  obtain ⟨fdR, GR, bR, kR⟩ := ok_parse_robot (P := P) (w := w) (base := base) T.p
  obtain ⟨fdU, GU, bU, kU⟩ := ok_parse_put (P := P) (w := w) (base := base) T.p
  obtain ⟨fdL, GL, bL, kL⟩ := ok_parse_rule (P := P) (w := w) (base := base) T.p
  obtain ⟨fdI, GI, bI, kI⟩ := ok_plan (P := P) (w := w) (base := base) T
  obtain ⟨t1, mNUM⟩ := T.p.l.NUMBER
  obtain ⟨t2, mEND⟩ := T.p.l.END
  obtain ⟨t3, mMT⟩ := T.p.MAX_TILES
  obtain ⟨t4, mMS⟩ := T.p.MAX_SIGNS
  obtain ⟨t5, mMM⟩ := T.p.MAX_MOODS
  refine ⟨fd, F.ok sc_parse_plan (fun vs H Q E h => ?_) (fun cdv A outer s H vs Q E hr h => ?_), F.bindsN fun _ _ _ _ _ _ us hl => match us, hl with | [_], _ => rfl, F.kp⟩
  · obtain ⟨H0, p, L, tas, Ts, rfl, _⟩ := h
    rfl
  · obtain ⟨H0, p, L, tas, Ts, rfl, hP, hG, hok, her⟩ := h
    have hr1 : Room 1 _ := hr.mono (by decide)
    have hr2 : Room 2 _ := hr.mono (by decide)
    have hr3 : Room 3 _ := hr.mono (by decide)
    have hr4 : Room 4 _ := hr.mono (by decide)
    have hr5 : Room 5 _ := hr.mono (by decide)
    have hu := hu_of hr
    refine ⟨_, (pss_cons (ps_expr (pe_meth (pv 0) T.p.par.c T.p.take_word.m GW hr4 bW .nil (passes_call (takes_of rfl rfl rfl rfl) (fun _ _ _ _ h => h)) (pa_cons pe_str pa_nil)))
      (pss_cons (ps_set (i := 1) sc_parse_plan.nd rfl (.inl rfl) (pe_meth (pv 0) T.p.par.c T.p.take.m GA hr4 bA .nil (passes_call (takes_of rfl rfl rfl rfl) (fun _ _ _ _ h => h)) (pa_cons (pe_glob (v := .str "number") rfl mNUM ⟨_, rfl⟩) pa_nil)))
      (pss_cons (ps_set (i := 2) sc_parse_plan.nd rfl (.inl rfl) (pe_callTy call_int_str (by rfl) T.p.int (by decide +kernel) (pa_cons (pe_fld (pv 1) rfl) pa_nil)))
      (pss_cons (ps_expr (pe_meth (pv 0) T.p.par.c T.p.take_word.m GW hr4 bW .nil (passes_call (takes_of rfl rfl rfl rfl) (fun _ _ _ _ h => h)) (pa_cons pe_str pa_nil)))
      (C8.pss_cut (ps_if (pt_not (pt_chain op_le op_le pe_int (pv 2) (pe_glob (v := .int 16) rfl mMT ⟨_, rfl⟩)))
        (pss_one (ps_expr (pe_meth (pv 0) T.p.par.c T.p.found.m GF hr1 bF .nil pass0 (pa_cons pe_str (pa_cons (pv 1) pa_nil))))) pss_nil)
      (pss_cons (ps_expr (pe_meth (pv 0) T.p.par.c T.p.parse_names.m GN hr5 bN .nil (passes_call (takes_of rfl rfl rfl rfl) (fun _ _ _ _ h => h)) (pa_cons pe_str (pa_cons (pe_fld (pv 0) rfl) (pa_cons (pe_glob (v := .int 4) rfl mMS ⟨_, rfl⟩) pa_nil)))))
      (pss_cons (ps_expr (pe_meth (pv 0) T.p.par.c T.p.parse_names.m GN hr5 bN .nil (passes_call (takes_of rfl rfl rfl rfl) (fun _ _ _ _ h => h)) (pa_cons pe_str (pa_cons (pe_fld (pv 0) rfl) (pa_cons (pe_glob (v := .int 6) rfl mMM ⟨_, rfl⟩) pa_nil)))))
      (pss_cons (ps_expr (pe_meth (pv 0) T.p.par.c T.p.parse_robot.m GR hr bR .nil (passes_call (takes_of rfl rfl rfl rfl) (fun _ _ _ _ h => h)) (pa_cons (pv 2) pa_nil)))
      (pss_cons (ps_while (passes_of rfl) (pt_cmpR op_ne (pe_fld (pe_meth0 (pv 0) T.p.par.c T.p.peek.m GP hr1 bP .nil pass0) rfl) (pe_glob (v := .str "end") rfl mEND ⟨_, rfl⟩) (nomark _))
        (pss_one (ps_match (pe_fld (pe_meth0 (pv 0) T.p.par.c T.p.peek.m GP hr1 bP .nil pass0) rfl)
          (pms_str (pss_one (ps_expr (pe_meth (pv 0) T.p.par.c T.p.parse_robot.m GR hr bR .nil (passes_call (takes_of rfl rfl rfl rfl) (fun _ _ _ _ h => h)) (pa_cons (pv 2) pa_nil))))
          (pms_str (pss_one (ps_expr (pe_meth (pv 0) T.p.par.c T.p.parse_put.m GU hr bU .nil (passes_call (takes_of rfl rfl rfl rfl) (fun _ _ _ _ h => h)) (pa_cons (pv 2) pa_nil))))
          (pms_str (pss_one (ps_expr (pe_meth0 (pv 0) T.p.par.c T.p.parse_rule.m GL hr bL .nil (passes_call (takes_of rfl rfl rfl rfl) (fun _ _ _ _ h => h)))))
          (pms_any (pss_one (ps_expr (pe_meth0 (pv 0) T.p.par.c T.p.fail.m GX hr3 bX .nil (passes_call (takes_of rfl rfl rfl rfl) (fun _ _ _ _ h => h))))))))))))
      (pss_cons (ps_if (pt_cmpR (op_neD hr.units) (pe_fld (pv 0) rfl) (pe_lst pa_nil) (nomark _)) pss_never pss_nil)
      (pss_cons (ps_set (i := 7) sc_parse_plan.nd rfl (.inl rfl) (pe_callTy call_tuple_of (by rfl) T.p.tuple (by decide +kernel) (pa_cons
        (pe_lc (own := [("tile", 8)]) (g := gName 8) (tt := tYes) (te := tDGet2 (tFld K (tVar 0) "spots") (tVar 8) (tC (.int 0))) rfl sc_parse_plan.nd (pi_range1 (by rfl) T.p.range (pa_cons (pv 2) pa_nil)) (blkOk_by (own := [("tile", 8)]) (N := ppN) (sc := defScope s_Parser_parse_plan) (by decide +kernel))
          (fun _ _ _ _ _ => pg_name (i := 8) sc_parse_plan.nd rfl (Or.inl rfl)) (fun _ _ _ _ _ => pts_nil) (fun _ _ _ _ _ => pe_dget2 hu (pe_fld (pv 0) rfl) (pv 8) pe_int ⟨rfl, rfl, rfl, rfl⟩)) pa_nil)))
      (pss_one (ps_ret (pe_make T.plan.m GI hr2 rfl T.plan.g bI .nil pass0 (pa_cons (pe_tupleOfN (by rfl) T.p.tuple (pe_fld (pv 0) rfl))
        (pa_cons (pe_tupleOfN (by rfl) T.p.tuple (pe_fld (pv 0) rfl)) (pa_cons (pv 7)
        (pa_cons (pe_callTy call_tuple_of (by rfl) T.p.tuple (by decide +kernel) (pa_cons (pe_fld (pv 0) rfl) pa_nil)) (pa_cons (pe_fld (pv 0) rfl) pa_nil))))))))))))))))))), ?_⟩
    obtain ⟨dx, ob⟩ := hP.ob
    have hlen := hG.len
    have hB0 : Bd Ts st0 := ⟨by
      show 0 < Ts.length
      exact List.length_pos_iff.mpr hG.ne, Nat.le_refl _, Nat.zero_le _, Nat.zero_le _, Nat.le_refl _, Nat.le_refl _, Nat.le_refl _, Nat.le_refl _⟩
    refine ⟨_, rfl, p, dx, _, rfl, ob, lp_no_take_word, H0, p, L, tas, Ts, st0, wCorridor, by rw [e_corridor]; rfl, hP, hB0.at_, ⟨fun kw s1 h1 v H1 hv hP1 => ?_, fun l c he => her l c (by simp only [parsePlan, he])⟩⟩
    clear hv
    obtain ⟨B1, f1, e1⟩ := bd_word hG hB0 h1 (by decide)
    obtain ⟨dx1, ob1⟩ := hP1.ob
    refine ⟨_, rfl, p, dx1, _, rfl, ob1, lp_no_take, H0, p, L, tas, Ts, s1, .number, rfl, hP1, B1.at_, ⟨fun tk s2 h2 v H2 hv hP2 => ?_, fun l c he => her l c (by simp only [parsePlan, h1, he])⟩⟩
    obtain ⟨a2, rfl, hta2⟩ := hv
    obtain ⟨B2, f2, e2, _⟩ := bd_take hG B1 h2 (by decide)
    obtain ⟨dx2, ob2⟩ := hP2.ob
    obtain ⟨dt2, ht2⟩ := hP2.get hta2
    obtain ⟨⟨n1, n2⟩, n3⟩ := hG.num tk hta2.mem (take_ok h2).2.2
    have hint := int_sx n3 n1 n2
    have hn99 := numVal_le n3 n2
    refine ⟨_, rfl, a2, _, dt2, _, _, rfl, ht2, T.p.l.tok.c, T.p.l.tok.n _ (by simp), lk_text, _, _, rfl, hint, by rw [len_sx]; omega, ?_⟩
    refine ⟨_, rfl, p, dx2, _, rfl, ob2, lp_no_take_word, H0, p, L, tas, Ts, s2, wSemi, by rw [e_semi]; rfl, hP2, B2.at_, ⟨fun t3 s3 h3 v H3 hv hP3 => ?_, fun l c he => her l c (by simp only [parsePlan, h1, h2, he])⟩⟩
    clear hv
    obtain ⟨B3, f3, e3⟩ := bd_word hG B2 h3 (by decide)
    obtain ⟨dx3, ob3⟩ := hP3.ob
    have B3f := B3.fa
    have B3a := B3.at_
    generalize hq : (if 1 ≤ numVal tk.text ∧ numVal tk.text ≤ 16 then s3 else s3.found wCorridor tk) = q3
    have Bq : Bd Ts q3 := by
      rw [← hq]
      split
      · exact B3
      · exact B3.found (by omega)
    generalize hn : numVal tk.text = n at *
    refine ⟨fun σ' H' => σ' = [some (.ref p), some (.ref a2), some (.int n), none, none, none, none, none, none] ∧ PA K H0 H' p L tas Ts q3, ?_, ?_⟩
    · refine ⟨_, rfl, _, _, rfl, rfl, _, rfl, ?_⟩
      have bad : ¬ (1 ≤ n ∧ n ≤ 16) → tDrop (tMeth (He.ga K "Parser") "found" (spFound K) [] E0 (tVar 0) (tCons (tC (.str "corridor")) (tCons (tVar 1) tNil))) { nx := fun σ' H' => σ' = [some (.ref p), some (.ref a2), some (.int n), none, none, none, none, none, none] ∧ PA K H0 H' p L tas Ts q3, rt := Q } [some (.ref p), some (.ref a2), some (.int n), none, none, none, none, none, none] H3 := fun hb => by
        refine ⟨_, rfl, p, dx3, _, rfl, ob3, lp_no_found, _, rfl, H0, p, L, tas, Ts, s3, wCorridor, a2, tk, by rw [e_corridor]; rfl, hP3, hta2, by omega, fun H4 hP4 => ⟨rfl, ?_⟩⟩
        rw [← hq, if_neg hb]
        exact hP4
      refine ite2 (fun h4 => ?_) (fun h4 => ?_)
      · have h4 := of_decide_eq_true h4
        refine ⟨_, _, rfl, rfl, _, rfl, ?_⟩
        refine ite2 (fun h5 => ?_) (fun h5 => ?_)
        · have h5 : ¬ ((n : Nat) : Int) ≤ 16 := fun z => by
            rw [decide_eq_true z] at h5
            exact absurd h5 (by decide)
          exact bad (by omega)
        · have h5 : ((n : Nat) : Int) ≤ 16 := Decidable.byContradiction fun z => h5 (by rw [decide_eq_false z]; rfl)
          refine ⟨rfl, ?_⟩
          rw [← hq, if_pos (by omega)]
          exact hP3
      · have h4 : ¬ (1 : Int) ≤ ((n : Nat) : Int) := fun z => h4 (decide_eq_true z)
        exact ⟨_, rfl, iteT (bad (by omega))⟩
    · rintro σ' H4 ⟨rfl, hP4⟩
      obtain ⟨dx4, ob4⟩ := hP4.ob
      refine ⟨_, rfl, p, dx4, _, rfl, ob4, lp_no_parse_names, _, rfl, p, _, dx4, _, _, rfl, ob4, T.p.par.c, T.p.par.n _ (by simp), lp_signs, H0, p, L, tas, Ts, q3, false, by rw [e_signs]; rfl, hP4, hG, Bq, ⟨fun u s4 h4 v H5 hv hP5 => ?_, fun l c he => her l c (by simp only [parsePlan, h1, h2, h3, hn, hq, he])⟩⟩
      clear hv
      have B4 := bd_names hG Bq h4
      obtain ⟨dx5, ob5⟩ := hP5.ob
      refine ⟨_, rfl, p, dx5, _, rfl, ob5, lp_no_parse_names, _, rfl, p, _, dx5, _, _, rfl, ob5, T.p.par.c, T.p.par.n _ (by simp), lp_moods, H0, p, L, tas, Ts, s4, true, by rw [e_moods]; rfl, hP5, hG, B4, ⟨fun u5 s5 h5 v H6 hv hP6 => ?_, fun l c he => her l c (by simp only [parsePlan, h1, h2, h3, hn, hq, h4, he])⟩⟩
      clear hv
      have B5 := bd_names hG B4 h5
      obtain ⟨dx6, ob6⟩ := hP6.ob
      refine ⟨_, rfl, p, dx6, _, rfl, ob6, lp_no_parse_robot, _, rfl, H0, p, L, tas, Ts, s5, n, rfl, hP6, hG, B5, ⟨fun u6 s6 h6 v H7 hv hP7 => ?_, fun l c he => her l c (by simp only [parsePlan, h1, h2, h3, hn, hq, h4, h5, he])⟩⟩
      clear hv
      have B6 := (bd_robot hG B5 h6).1
      have hpre : ∀ r, parseStmts Ts n Ts.length s6 = r → parsePlan Ts = (match r with | .error e => .error e | .ok (_, s7) => .ok (n, s7)) := by
        intro r hr
        simp only [parsePlan, h1, h2, h3, hn, hq, h4, h5, h6, hr]
        all_goals (rcases r with _ | ⟨_, _⟩ <;> rfl)
      refine ⟨fun m σ H => ∃ (f : Nat) (s : PSt), m + s.at_ = Ts.length ∧ σ = [some (.ref p), some (.ref a2), some (.int n), none, none, none, none, none, none] ∧ PA K H0 H p L tas Ts s ∧ Bd Ts s ∧ Ts.length ≤ f + s.at_ ∧
        parseStmts Ts n Ts.length s6 = parseStmts Ts n f s, ⟨Ts.length - s6.at_, Ts.length, s6, Nat.sub_add_cancel (Nat.le_of_lt B6.at_), rfl, hP7, B6, Nat.le_add_right _ _, rfl⟩, ?_⟩
      rintro m σ H8 ⟨f, s8, hm, rfl, hP8, B8, hf, hst⟩
      have B8a := B8.at_
      obtain ⟨f', rfl⟩ : ∃ f', f = f' + 1 := ⟨f - 1, by omega⟩
      obtain ⟨dx8, ob8⟩ := hP8.ob
      refine ⟨_, rfl, p, dx8, _, rfl, ob8, lp_no_peek, H0, p, L, tas, Ts, s8, rfl, hP8, B8.at_, fun a8 hta8 => ?_⟩
      obtain ⟨dt8, ht8⟩ := hP8.get hta8
      refine ⟨a8, _, dt8, _, _, rfl, ht8, T.p.l.tok.c, T.p.l.tok.n _ (by simp), lk_kind, rfl, _, rfl, ?_⟩
      refine ite2 (fun h => ?_) (fun h => ?_)
      · have hk : (peek Ts s8).kind ≠ .fin := fun z => by
          rw [decide_eq_true (by rw [z]; rfl)] at h
          exact absurd h (by decide)
        have hstep : ∀ r, parseStmt Ts n s8 = r → parseStmts Ts n (f' + 1) s8 = (match r with | .error e => .error e | .ok (_, s1) => parseStmts Ts n f' s1) := by
          intro r hr
          simp only [parseStmts, if_neg hk, hr]
          all_goals (rcases r with _ | ⟨_, _⟩ <;> rfl)
        refine ⟨_, fun _ _ nn => nn, ?_⟩
        refine ⟨_, rfl, p, dx8, _, rfl, ob8, lp_no_peek, H0, p, L, tas, Ts, s8, rfl, hP8, B8.at_, fun a9 hta9 => ?_⟩
        obtain ⟨dt9, ht9⟩ := hP8.get hta9
        refine ⟨a9, _, dt9, _, _, rfl, ht9, T.p.l.tok.c, T.p.l.tok.n _ (by simp), lk_text, ?_⟩
        have goon : ∀ (s9 : PSt) (H9 : Hp), parseStmt Ts n s8 = .ok ((), s9) → PA K H0 H9 p L tas Ts s9 → ∃ m', m' < m ∧ ∃ (f : Nat) (s : PSt), m' + s.at_ = Ts.length ∧ [some (V.ref p), some (.ref a2), some (.int n), none, none, none, none, none, none] = [some (.ref p), some (.ref a2), some (.int n), none, none, none, none, none, none] ∧ PA K H0 H9 p L tas Ts s ∧ Bd Ts s ∧ Ts.length ≤ f + s.at_ ∧
            parseStmts Ts n Ts.length s6 = parseStmts Ts n f s := fun s9 H9 h9 hP9 => by
          obtain ⟨B9, lt9⟩ := bd_stmt hG B8 h9
          have B9a := B9.at_
          exact ⟨Ts.length - s9.at_, by omega, f', s9, by omega, rfl, hP9, B9, by omega, by rw [hst, hstep _ h9]⟩
        have goer : ∀ l c, parseStmt Ts n s8 = .error (l, c) → Syn K H0 E l c := fun l c he => her l c (by rw [hpre _ (hst.trans (hstep _ he))])
        refine ⟨_, rfl, fun z => ?_, fun z => ?_⟩
        · have z : (peek Ts s8).text = wRobot := sx_inj (by rw [← e_robot]; exact z)
          have hs : parseStmt Ts n s8 = parseRobot Ts n s8 := by simp only [parseStmt, if_pos z]
          refine ⟨_, rfl, p, dx8, _, rfl, ob8, lp_no_parse_robot, _, rfl, H0, p, L, tas, Ts, s8, n, rfl, hP8, hG, B8, ⟨fun u s9 h9 v H9 hv hP9 => goon s9 H9 (by rw [hs]; exact h9) hP9, fun l c he => goer l c (by rw [hs]; exact he)⟩⟩
        · have z1 : ¬ (peek Ts s8).text = wRobot := fun y => z (by rw [y, e_robot])
          refine ⟨_, rfl, fun z => ?_, fun z => ?_⟩
          · have z : (peek Ts s8).text = wPut := sx_inj (by rw [← e_put]; exact z)
            have hs : parseStmt Ts n s8 = parsePut Ts n s8 := by simp only [parseStmt, if_neg z1, if_pos z]
            refine ⟨_, rfl, p, dx8, _, rfl, ob8, lp_no_parse_put, _, rfl, H0, p, L, tas, Ts, s8, n, rfl, hP8, hG, B8, ⟨fun u s9 h9 v H9 hv hP9 => goon s9 H9 (by rw [hs]; exact h9) hP9, fun l c he => goer l c (by rw [hs]; exact he)⟩⟩
          · have z2 : ¬ (peek Ts s8).text = wPut := fun y => z (by rw [y, e_put])
            refine ⟨_, rfl, fun z => ?_, fun z => ?_⟩
            · have z : (peek Ts s8).text = wWhen := sx_inj (by rw [← e_when]; exact z)
              have hs : parseStmt Ts n s8 = parseRule Ts s8 := by simp only [parseStmt, if_neg z1, if_neg z2, if_pos z]
              refine ⟨_, rfl, p, dx8, _, rfl, ob8, lp_no_parse_rule, H0, p, L, tas, Ts, s8, rfl, hP8, hG, B8, ⟨fun u s9 h9 v H9 hv hP9 => goon s9 H9 (by rw [hs]; exact h9) hP9, fun l c he => goer l c (by rw [hs]; exact he)⟩⟩
            · have z3 : ¬ (peek Ts s8).text = wWhen := fun y => z (by rw [y, e_when])
              refine ⟨_, rfl, p, dx8, _, rfl, ob8, lp_no_fail, H0, p, L, tas, Ts, s8, rfl, hP8, B8.at_, goer _ _ ?_⟩
              simp only [parseStmt, if_neg z1, if_neg z2, if_neg z3]
      · have hk : (peek Ts s8).kind = .fin := Decidable.byContradiction fun z => h (by
          show (!decide (V.str (peek Ts s8).kind.str = V.str Kd.fin.str)) = true
          rw [decide_eq_false fun y => z (kd_inj (b := .fin) (V.str.inj y))]
          rfl)
        have hres : parsePlan Ts = .ok (n, s8) := by
          rw [hpre (.ok ((), s8)) (by rw [hst]; simp only [parseStmts, if_pos hk])]
        obtain ⟨hno, hQ⟩ := hok n s8 hres
        obtain ⟨fas, hfa, hfas⟩ := hP8.fa
        rw [hno] at hfas
        have hfas : fas = [] := by
          have := hfas.len
          exact List.length_eq_zero_iff.mp this
        subst hfas
        refine ⟨_, rfl, p, _, dx8, _, _, rfl, ob8, T.p.par.c, T.p.par.n _ (by simp), lp_faults, (by show 0 ≤ sizeLine; decide), fun el nel => ?_⟩
        have smE := sameUpd (o := .lst []) (Same.refl H8) nel
        refine ⟨.list [], .list [], .lst (SqL.of (smE _ _ hfa)) .nil, .lst (SqL.of upd_same) .nil, rfl, rfl, _, rfl, ?_⟩
        refine iteF ?_
        have hP9 := hP8.mono smE
        generalize upd H8 el (.lst []) = H9 at *
        refine ⟨_, rfl, (n : Int), rfl, by omega, by omega, fun D nD => ?_⟩
        obtain ⟨dx9, ob9⟩ := hP9.ob
        refine lc_range (lo := 0) (n := ((n : Nat) : Int).toNat) (vs := [8]) (fun i H => H D = some (.lst (((List.range i).map fun j => (getA s8.spots j).getD 0).map fun m : Nat => V.int m)) ∧ Same H9 H) ⟨upd_same, sameUpd (Same.refl H9) nD⟩ ?_ ?_
        · rintro i H10 hi ⟨hD, sm10⟩
          have hP10 := hP9.mono sm10
          refine ⟨rfl, _, rfl, p, _, dx9, _, _, rfl, sm10 _ _ ob9, T.p.par.c, T.p.par.n _ (by simp), lp_spots, L.sd, rfl, .inl ⟨_, .inl hP10.sp⟩, _, rfl, _, DGet.k (k := Sum.inl ((0 : Int) + (i : Nat))) hP10.sp, _, hD, ?_, ?_, ?_⟩
          · rw [List.length_map, List.length_map, List.length_range, sizeLine_eq]
            omega
          · rw [upd_same, spots_get, List.range_succ, List.map_append, List.map_append]
            rfl
          · exact sameUpd sm10 nD
        · rintro H10 ⟨hD, sm10⟩
          rw [Int.toNat_natCast] at hD
          have hfl : ((List.range n).map fun j => (getA s8.spots j).getD 0) = (planOf n s8).floor := rfl
          rw [hfl] at hD
          refine ⟨D, _, rfl, .inl ⟨SqL.of hD, fun fa nfa => ?_⟩⟩
          have smf := sameUpd (o := .tup ((planOf n s8).floor.map fun m : Nat => V.int m)) (Same.refl H10) nfa
          have hP11 := hP9.mono (sm10.trans smf)
          have atf := @upd_same H10 fa (.tup ((planOf n s8).floor.map fun m : Nat => V.int m))
          generalize upd H10 fa (.tup ((planOf n s8).floor.map fun m : Nat => V.int m)) = H11 at *
          obtain ⟨dx11, ob11⟩ := hP11.ob
          refine ⟨_, rfl, p, _, dx11, _, _, rfl, ob11, T.p.par.c, T.p.par.n _ (by simp), lp_signs, L.sl, _, rfl, SqL.of hP11.si, fun sa osa nsa oc od => ?_⟩
          have sms := sameUpd (o := .frz osa (.tup (s8.signs.map sV))) (Same.refl H11) nsa
          have hP12 := hP11.mono sms
          have ats : TupN (upd H11 sa (.frz osa (.tup (s8.signs.map sV)))) sa (s8.signs.map sV) := ⟨osa, oc, od, upd_same⟩
          generalize upd H11 sa (.frz osa (.tup (s8.signs.map sV))) = H12 at *
          refine ⟨_, rfl, p, _, dx11, _, _, rfl, sms _ _ ob11, T.p.par.c, T.p.par.n _ (by simp), lp_moods, L.ml, _, rfl, SqL.of hP12.mo, fun ma oma nma mc md => ?_⟩
          have smm := sameUpd (o := .frz oma (.tup (s8.moods.map sV))) (Same.refl H12) nma
          have hP13 := hP12.mono smm
          have atm : TupN (upd H12 ma (.frz oma (.tup (s8.moods.map sV)))) ma (s8.moods.map sV) := ⟨oma, mc, md, upd_same⟩
          generalize upd H12 ma (.frz oma (.tup (s8.moods.map sV))) = H13 at *
          obtain ⟨ras, hra, hras⟩ := hP13.ro
          refine ⟨_, rfl, _, rfl, p, _, dx11, _, _, rfl, smm _ _ (sms _ _ ob11), T.p.par.c, T.p.par.n _ (by simp), lp_robots, L.rl, _, rfl, .inl ⟨SqL.of hra, fun ra nra => ?_⟩⟩
          have smr := sameUpd (o := .tup (ras.map V.ref)) (Same.refl H13) nra
          have hP14 := hP13.mono smr
          have atr := @upd_same H13 ra (.tup (ras.map V.ref))
          generalize upd H13 ra (.tup (ras.map V.ref)) = H14 at *
          refine ⟨_, rfl, p, _, dx11, _, _, rfl, smr _ _ (smm _ _ (sms _ _ ob11)), T.p.par.c, T.p.par.n _ (by simp), lp_rules, ?_⟩
          intro x dx0 nx ndx ne0
          refine init_at (names := planF) rfl nx ndx fun H15 sm15 hx => ⟨rfl, ?_⟩
          obtain ⟨dp, hdp⟩ := hx
          have hP15 := hP14.mono sm15
          refine hQ x H15 (hP14.same.free nx) hP15.same ⟨dp, sa, ma, fa, ra, L.rd, ras, hdp, ats.mono fun _ z => sm15 _ _ (smr _ _ (smm _ _ z)), atm.mono fun _ z => sm15 _ _ (smr _ _ z), sm15 _ _ (smr _ _ (smm _ _ (sms _ _ atf))), sm15 _ _ atr, ?_, hP15.ru⟩
          exact Paired.mapP hras fun a r q => sm15 _ _ (smr _ _ q)
end
end Sw

end

section
set_option maxRecDepth 100000
set_option maxHeartbeats 4000000
/-! load -/
namespace Sw
open PySem PySem.Spec PyProof.Rows L2 SwA
section
variable {P : Program} {w : World} {K : PySem.W.Frag} {mg : Str → Option Value} {base : Heap}
def spLoad (K : PySem.W.Frag) : Sp := fun vs H Q E => ∃ text : Cs, vs = [.str (sx text)] ∧ text.length ≤ 90000 ∧
  (∀ n s, loads text = .ok (n, s) → s.faults = [] ∧ ∀ (a : Addr) (H' : Hp), H a = none → Same H H' → PlanAt K H' a (planOf n s) → Q (.ref a) H') ∧ (∀ l c, loads text = .error (l, c) → Syn K H E l c)
theorem sc_load : FnScope ["plan"] ["plan"] (defScope s_load) := ⟨rfl, rfl, rfl, by decide +kernel, rfl, by decide +kernel, by decide +kernel⟩
theorem ok_load (T : LoadT K mg) : FnE P w K mg base (L2.CX P w) 8 ("load", none) ["plan"] (spLoad K) := by
  obtain ⟨fd, F⟩ := T.d_load
  obtain ⟨fdT, GT, bT, kT⟩ := ok_tokenize (P := P) (w := w) (base := base) T.p.l
  obtain ⟨fdI, GI, bI, kI⟩ := ok_par_init (P := P) (w := w) (base := base) T.p
  obtain ⟨fdP, GP, bP, kP⟩ := ok_parse_plan (P := P) (w := w) (base := base) T
  refine ⟨fd, F.ok sc_load (fun vs H Q E h => ?_) (fun cdv A outer s H vs Q E hr h => ?_), F.bindsN fun _ _ _ _ _ _ us hl => match us, hl with | [_], _ => rfl, F.kp⟩
  · obtain ⟨text, rfl, _⟩ := h
    rfl
  · obtain ⟨text, rfl, hl, hok, her⟩ := h
    have hr2 : Room 2 _ := hr.mono (by decide)
    have hr4 : Room 4 _ := hr.mono (by decide)
    refine ⟨_, (pss_one (ps_ret (pe_meth0 (pe_make T.p.par.m GI hr2 rfl T.p.par.g bI .nil pass0 (pa_cons (pe_call GT hr4 rfl T.p.l.g_tokenize kT bT .nil (passes_call (takes_of rfl rfl rfl rfl) (fun _ _ _ _ h => h)) (pa_cons (pv 0) pa_nil)) pa_nil))
      T.p.par.c T.p.parse_plan.m GP hr bP .nil (passes_call (takes_of rfl rfl rfl rfl) (fun _ _ _ _ h => h))))), ?_⟩
    refine ⟨_, rfl, text, rfl, hl, fun ts ht a tas H1 na sm ha htk => ?_, fun l c he => her l c (by simp only [loads, he])⟩
    have hG := tokenize_good hl ht
    intro x dx nx ndx ne
    have xa : a ≠ x := ne_of_none ha nx
    have xd : a ≠ dx := ne_of_none ha ndx
    have s1 : Same H1 (upd (upd H1 dx (.own x)) x (.ins (He.ga K "Parser") dx [])) := sameUpd (sameUpd (Same.refl H1) ndx) nx
    refine ⟨H, x, dx, a, tas, ts, rfl, upd_same, s1 _ _ ha, htk.same s1, sm.trans s1, sm.free nx, na, fun L H2 hPA => ⟨rfl, ?_⟩⟩
    obtain ⟨dx2, ob2⟩ := hPA.ob
    have el : loads text = parsePlan ts := by simp only [loads, ht]
    refine ⟨x, dx2, _, rfl, ob2, lp_no_parse_plan, H, x, L, tas, ts, rfl, hPA, hG, fun n s h => hok n s (by rw [el]; exact h), fun l c h => her l c (by rw [el]; exact h)⟩
end
end Sw

end

section
set_option maxRecDepth 100000
set_option maxHeartbeats 4000000
/-! the mirror of the machine -/
namespace Sw
open PySem
def wRest : Cs := [114, 101, 115, 116]
abbrev Rob := Nat × Bool × Nat
structure MSt where
  floor : List Nat
  robots : List Rob
  deriving DecidableEq
def movedM (tile : Nat) (right : Bool) (tiles : Nat) : Nat × Bool :=
  if right = true then (if tile + 1 < tiles then (tile + 1, true) else (tile, false)) else (if 0 < tile then (tile - 1, false) else (tile, true))
def goM (move : Cs) (tile : Nat) (right : Bool) (tiles : Nat) : Nat × Bool := if move = wOn then movedM tile right tiles else if move = wBack then movedM tile (!right) tiles else (tile, right)
def actM (rules : List ((Nat × Nat) × Rule)) (st : MSt) (k : Nat) : Cs × MSt := match st.robots[k]? with
  | none => (wRest, st)
  | some (tile, right, mood) => match getA rules (mood, st.floor.getD tile 0) with
    | none => (wRest, st)
    | some r => (r.move, ⟨st.floor.set tile r.left, st.robots.set k ((goM r.move tile right st.floor.length).1, (goM r.move tile right st.floor.length).2, r.later)⟩)
/-- the first k robots have acted -/
def actsM (rules : List ((Nat × Nat) × Rule)) (st : MSt) : Nat → List Cs × MSt
  | 0 => ([], st)
  | k + 1 => ((actsM rules st k).1 ++ [(actM rules (actsM rules st k).2 k).1], (actM rules (actsM rules st k).2 k).2)
structure TickM where
  swept : List Nat
  words : List Cs
  state : MSt
def nextM (rules : List ((Nat × Nat) × Rule)) (st : MSt) : TickM := ⟨st.robots.map (·.1), (actsM rules st st.robots.length).1, (actsM rules st st.robots.length).2⟩
def firstM (pl : Plan) : MSt := ⟨pl.floor, pl.robots.map fun r => (r.1, r.2, 0)⟩
/-- a state of n tiles and m robots -/
structure WfM (n m : Nat) (st : MSt) : Prop where
  fl : st.floor.length = n
  ro : st.robots.length = m
  ti : ∀ r ∈ st.robots, r.1 < n
theorem movedM_lt {tile : Nat} {right : Bool} {tiles : Nat} (h : tile < tiles) : (movedM tile right tiles).1 < tiles := by
  unfold movedM
  split
  · split <;> (simp only; omega)
  · split <;> (simp only; omega)
theorem goM_lt {move : Cs} {tile : Nat} {right : Bool} {tiles : Nat} (h : tile < tiles) : (goM move tile right tiles).1 < tiles := by
  unfold goM
  split
  · exact movedM_lt h
  · split
    · exact movedM_lt h
    · exact h
theorem WfM.act {n m : Nat} {rules : List ((Nat × Nat) × Rule)} {st : MSt} {k : Nat} (h : WfM n m st) : WfM n m (actM rules st k).2 := by
  unfold actM
  split
  · exact h
  · rename_i tile right mood e
    split
    · exact h
    · rename_i r hr
      have ht : tile < n := h.ti _ (List.mem_of_getElem? e)
      refine ⟨by simpa using h.fl, by simpa using h.ro, fun q hq => ?_⟩
      rcases List.mem_or_eq_of_mem_set hq with z | z
      · exact h.ti _ z
      · rw [z, h.fl]
        exact goM_lt ht
theorem WfM.acts {n m : Nat} {rules : List ((Nat × Nat) × Rule)} {st : MSt} (h : WfM n m st) : ∀ k, WfM n m (actsM rules st k).2
  | 0 => h
  | k + 1 => (h.acts k).act
theorem WfM.next {n m : Nat} {rules : List ((Nat × Nat) × Rule)} {st : MSt} (h : WfM n m st) : WfM n m (nextM rules st).state := h.acts _
theorem acts_len (rules : List ((Nat × Nat) × Rule)) (st : MSt) : ∀ k, (actsM rules st k).1.length = k
  | 0 => rfl
  | k + 1 => by
    show ((actsM rules st k).1 ++ [_]).length = k + 1
    simp [acts_len rules st k]
end Sw

end

section
set_option maxRecDepth 100000
set_option maxHeartbeats 4000000
/-! is_int_in -/
namespace Sw
open PySem PySem.Spec PyProof.Rows L2 SwA
/-- a def of the module -/
structure DeT (K : PySem.W.Frag) (mg : Str → Option Value) (x : Str) (st : Stmt) : Prop where
  d : FD K (x, none) x x st
  g : mg x = some (.ref (He.ga K x))
inductive ArN (K : PySem.W.Frag) (H : Hp) : V → String → Prop
  | int (i : Int) : ArN K H (.int i) "int"
  | bl (b : Bool) : ArN K H (.bl b) "bool"
  | non : ArN K H .non "NoneType"
  | str (z : Str) : ArN K H (.str z) "str"
  | tup {a : Addr} {xs : List V} (e : H a = some (.tup xs)) : ArN K H (.ref a) "tuple"
  | lst {a : Addr} {xs : List V} (e : H a = some (.lst xs)) : ArN K H (.ref a) "list"
theorem ArN.ty {K : PySem.W.Frag} {H : Hp} {v : V} {n : String} (h : ArN K H v n) : TyX K H v (.type n) := by
  cases h with
  | int i => exact .base (.int i)
  | bl b => exact .base (.bl b)
  | non => exact .base .non
  | str z => exact .base (.str z)
  | tup e => exact .base (.tup e)
  | lst e => exact .base (.lst e)
theorem ArN.same {K : PySem.W.Frag} {H H' : Hp} {v : V} {n : String} (h : ArN K H v n) (s : Same H H') : ArN K H' v n := by
  cases h with
  | int i => exact .int i
  | bl b => exact .bl b
  | non => exact .non
  | str z => exact .str z
  | tup e => exact .tup (s _ _ e)
  | lst e => exact .lst (s _ _ e)
def isIntIn (v : V) (lo hi : Int) : Bool := match v with
  | .int i => decide (lo ≤ i) && decide (i ≤ hi)
  | _ => false
end Sw

end

section
set_option maxRecDepth 100000
set_option maxHeartbeats 4000000
/-! utilities -/
namespace Sw
open PySem PySem.Spec PyProof.Rows L2 SwA
abbrev iV (n : Nat) : V := .int n
abbrev plFs (a b c d e : V) : List (Str × V) := [("signs", a), ("moods", b), ("floor", c), ("robots", d), ("rules", e)]
theorem lpl_signs {a b c d e : V} : List.lookup ("signs" : Str) (plFs a b c d e) = some a := by kernel_rfl
theorem lpl_moods {a b c d e : V} : List.lookup ("moods" : Str) (plFs a b c d e) = some b := by kernel_rfl
theorem lpl_floor {a b c d e : V} : List.lookup ("floor" : Str) (plFs a b c d e) = some c := by kernel_rfl
theorem lpl_robots {a b c d e : V} : List.lookup ("robots" : Str) (plFs a b c d e) = some d := by kernel_rfl
theorem lpl_rules {a b c d e : V} : List.lookup ("rules" : Str) (plFs a b c d e) = some e := by kernel_rfl
theorem walk_enumT {K : PySem.W.Frag} {a : Addr} {xs : List V} : Walk (ItET K a) xs.length (fun H => SqT K H a xs) (YPair (fun i => some (.int (i : Nat))) (fun i => xs[i]?)) := by
  refine ⟨fun i _ hi q => ⟨xs, xs[i], q, by simp [hi]⟩, fun _ q => ⟨xs, q, rfl⟩, fun i H v H' _ q y => ?_⟩
  obtain ⟨T, x, h1, h2, h3, h4⟩ := y
  exact ⟨T, .int (i : Nat), x, h1, h2, h3, rfl, h4 xs q⟩
/-! ### the rules asked -/
theorem rules_get {H : Hp} {k : Nat × Nat} : ∀ {rs : List ((Nat × Nat) × Rule)} {kvs : List (List Key × V)}, Paired (RuleAt H) rs kvs →
    (getA rs k = none → valV kvs (keyT k) = none) ∧ (∀ r, getA rs k = some r → ∃ t, valV kvs (keyT k) = some (.ref t) ∧ H t = some (.tup [.int r.left, sV r.move, .int r.later]))
  | _, _, .nil => ⟨fun _ => rfl, fun r h => by cases h⟩
  | _, _, .cons (a := r0) (b := kv) (l₁ := l) (l₂ := m) h t => by
    have ih := rules_get (k := k) t
    by_cases e : r0.1 = k
    · have e1 : getA (r0 :: l) k = some r0.2 := by unfold getA; rw [List.find?_cons, decide_eq_true e]; rfl
      have e2 : valV (kv :: m) (keyT k) = some kv.2 := valV_pos (by rw [h.1, e])
      refine ⟨(fun z => by rw [e1] at z; cases z), fun r z => ?_⟩
      rw [e1] at z
      cases z
      obtain ⟨_, tt, h2, h3⟩ := h
      exact ⟨tt, by rw [e2, h2], h3⟩
    · have e1 : getA (r0 :: l) k = getA l k := by unfold getA; rw [List.find?_cons, decide_eq_false e]
      have e2 : valV (kv :: m) (keyT k) = valV m (keyT k) := valV_neg (by rw [h.1]; exact fun q => e (keyT_inj.mp q))
      rw [e1, e2]
      exact ih
section
variable {K : PySem.W.Frag} {H H' : Hp}
def cutH (H : Hp) (l : List Addr) : Hp := fun a => if a ∈ l then none else H a
theorem cutH_same {l : List Addr} : Same (cutH H l) H := fun a o e => by
  unfold cutH at e
  split at e
  · cases e
  · exact e
theorem cutH_in {l : List Addr} {a : Addr} (h : a ∈ l) : cutH H l a = none := by
  unfold cutH
  rw [if_pos h]
theorem cutH_out {l : List Addr} {a : Addr} (h : a ∉ l) : cutH H l a = H a := by
  unfold cutH
  rw [if_neg h]
end
end Sw

end

section
set_option maxRecDepth 100000
set_option maxHeartbeats 4000000
/-! the law's own: draws -/
namespace Sw
open PySem PySem.Spec PyProof.Rows L2 SwA
/-- the source of numbers -/
def drawL (s c : Int) (bs : List Int) : HO := .lst (.int s :: .int c :: bs.map V.int)
def DrawAt (H : Hp) (d : Addr) : Prop := ∃ (s c : Int) (bs : List Int), bs.length ≤ 63 ∧ H d = some (drawL s c bs)
/-- all but d stands, d is drawn from -/
structure Drawn (d : Addr) (H H' : Hp) : Prop where
  same : ∀ b o, b ≠ d → H b = some o → H' b = some o
  at_ : DrawAt H' d
theorem Drawn.trans {d : Addr} {H H1 H2 : Hp} (a : Drawn d H H1) (b : Drawn d H1 H2) : Drawn d H H2 := ⟨fun x o h e => b.same x o h (a.same x o h e), b.at_⟩
theorem Drawn.refl {d : Addr} {H : Hp} (h : DrawAt H d) : Drawn d H H := ⟨fun _ _ _ e => e, h⟩
theorem Drawn.of {d : Addr} {H H' : Hp} (h : DrawAt H d) (s : Same H H') : Drawn d H H' := ⟨fun _ _ _ e => s _ _ e, let ⟨a, b, c, l, e⟩ := h; ⟨a, b, c, l, s _ _ e⟩⟩
theorem Drawn.new {d : Addr} {H H' : Hp} {x : Addr} {o : HO} (h : Drawn d H H') (hx : H' x = none) : Drawn d H (upd H' x o) :=
  h.trans (Drawn.of h.at_ (sameUpd (Same.refl _) hx))
theorem Drawn.free {d : Addr} {H H' : Hp} {a : Addr} (h : Drawn d H H') (h0 : ∃ o, H d = some o) (n : H' a = none) : H a = none := by
  cases e : H a with
  | none => rfl
  | some o =>
    by_cases z : a = d
    · obtain ⟨s, c, bs, _, q⟩ := h.at_
      rw [z, q] at n
      cases n
    · rw [h.same a o z e] at n
      cases n
structure LawT (K : PySem.W.Frag) (mg : Str → Option Value) : Prop where
  len : mg "len" = none
  abs : mg "abs" = none
  list : mg "list" = none
  tuple : mg "tuple" = none
  range : mg "range" = none
  random : DeT K mg "_law_random" s__law_random
  below : DeT K mg "_law_below" s__law_below
theorem at1 {x y : V} {xs : List V} : atI (x :: y :: xs) 1 = some y := atI_nat (j := 1) rfl
theorem atz {x : V} {xs : List V} : atI (x :: xs) 0 = some x := atI_nat (j := 0) rfl
theorem ixN1 {x y : V} {xs : List V} : ixN (x :: y :: xs).length 1 = some 1 := by
  unfold ixN
  rw [if_pos (by decide), if_pos (by simp; omega)]
  rfl
theorem ixN0 {x : V} {xs : List V} : ixN (x :: xs).length 0 = some 0 := by
  unfold ixN
  rw [if_pos (by decide), if_pos (by simp only [List.length_cons]; omega)]
  rfl
theorem sIx2 {x y z : V} {xs : List V} : seqIndex? 2 (x :: y :: z :: xs).length = some 2 := by
  have h : ixN (x :: y :: z :: xs).length 2 = some 2 := by
    unfold ixN
    rw [if_pos (by decide), if_pos (by simp; omega)]
    rfl
  exact (ixN_seq h).1
section
variable {P : Program} {w : World} {K : PySem.W.Frag} {mg : Str → Option Value} {base : Heap}
/-! ### _law_below -/
def spBelow : Sp := fun vs H Q _ => ∃ (d : Addr) (n : Nat), vs = [.ref d, .int n] ∧ DrawAt H d ∧ 1 ≤ n ∧ n < 10000000 ∧ ∀ (r : Nat) (s c : Int) (bs : List Int), r < n → bs.length ≤ 63 → Q (.int r) (upd H d (drawL s c bs))
abbrev beN : List Str := ["_law_d", "_law_limit", "_law_result"]
theorem sc_below : FnScope beN ["_law_d", "_law_limit"] (defScope s__law_below) := ⟨rfl, rfl, rfl, by decide +kernel, rfl, by decide +kernel, by decide +kernel⟩
theorem modNat (i : Int) {n : Nat} (h : 1 ≤ n) : ∃ r : Nat, r < n ∧ i % (n : Int) = r := by
  have h1 := Int.emod_nonneg i (show (n : Int) ≠ 0 by omega)
  have h2 := Int.emod_lt_of_pos i (show (0 : Int) < n by omega)
  exact ⟨(i % (n : Int)).toNat, by omega, by omega⟩
theorem ok_below (T : LawT K mg) : FnE P w K mg base CX0 1 ("_law_below", none) ["_law_d", "_law_limit"] spBelow := by
  obtain ⟨fd, F⟩ := T.below.d
  refine ⟨fd, F.ok sc_below (fun vs H Q E h => ?_) (fun cdv A outer s H vs Q E hr h => ?_), F.bindsN fun _ _ _ _ _ _ us hl => match us, hl with | [_, _], _ => rfl, F.kp⟩
  · obtain ⟨d, n, rfl, _⟩ := h
    rfl
  · obtain ⟨d, n, rfl, ⟨sd, cu, bs, hb, hd⟩, h1, h2, k⟩ := h
    refine ⟨_, PSs.nox (C8.pss_cut (ps_if (PW.pt (pw_and (pt_cmpR op_eq (pe_ix ix_list (pv 0) pe_int (fun _ _ => rfl)) pe_int (nomark _)) (pw_and1 (pt_cmpR op_gt (pe_callB call_len_seq (by rfl) T.len boot_len (pa_cons (pv 0) pa_nil)) pe_int (nomark _)))))
        (pss_one (ps_asg (pe_bm PySem.F.plainAttrs_list PySem.F.slot_list_pop PySem.F.type_list_pop mt_popAt (pv 0) (pa_cons pe_int pa_nil)) (pg_sub (pv 0) pe_int set_list (fun _ => rfl)))) pss_nil)
      (pss_cons (ps_if (pt_cmpR op_gt (pe_ix ix_list (pv 0) pe_int (fun _ _ => rfl)) pe_int (nomark _))
        (pss_cons (ps_set (i := 2) sc_below.nd rfl (.inl rfl) (pe_op op_mod (pe_ix ix_list (pv 0) pe_int (fun _ _ => rfl)) (pv 1)))
        (pss_cons (ps_asg (pe_op op_fdiv (pe_ix ix_list (pv 0) pe_int (fun _ _ => rfl)) (pv 1)) (pg_sub (pv 0) pe_int set_list (fun _ => rfl)))
        (pss_one (ps_ret (pv 2))))) pss_nil)
      (pss_cons (ps_asg (pe_op op_mod (pe_op op_add (pe_op op_mul (pe_ix ix_list (pv 0) pe_int (fun _ _ => rfl)) pe_int) pe_int) pe_int) (pg_sub (pv 0) pe_int set_list (fun _ => rfl)))
      (pss_one (ps_ret (pe_op op_mod (pe_op op_fdiv (pe_ix ix_list (pv 0) pe_int (fun _ _ => rfl)) pe_int) (pv 1))))))), ?_⟩
    have hself : H = upd H d (drawL sd cu bs) := by
      funext b
      by_cases e : b = d
      · rw [e, upd_same, hd]
      · rw [upd_ne e]
    refine ⟨fun σ' H' => σ' = [some (.ref d), some (.int n), none] ∧ ∃ (s c : Int) (bs : List Int), bs.length ≤ 63 ∧ H' = upd H d (drawL s c bs), ?_, ?_⟩
    · refine ⟨_, rfl, d, _, _, _, rfl, rfl, SqL.of hd, at1, rfl, _, rfl, ?_⟩
      refine ite2 (fun h => ?_) (fun h => ?_)
      · refine ⟨_, rfl, d, _, rfl, .inl (SqL.of hd), _, _, rfl, rfl, _, rfl, ?_⟩
        refine ite2 (fun h3 => ?_) (fun h3 => ?_)
        · cases bs with
          | nil => exact absurd (of_decide_eq_true h3) (by simp)
          | cons b bs =>
            refine ⟨_, rfl, .inl ⟨rfl, _, SqL.of hd⟩, d, _, 2, 2, .int b, rfl, rfl, hd, by decide, by decide, ?_, rfl, ?_⟩
            · exact sIx2
            · refine ⟨_, rfl, d, _, _, 1, rfl, rfl, upd_same, ?_, ?_⟩
              · exact ixN1
              · refine ⟨rfl, sd, b, bs, by simp at hb; omega, ?_⟩
                rw [upd_upd]
                rfl
        · exact ⟨rfl, sd, cu, bs, hb, hself⟩
      · exact ⟨rfl, sd, cu, bs, hb, hself⟩
    · rintro σ' H' ⟨rfl, s2, c2, bs2, hb2, rfl⟩
      have hd2 : (upd H d (drawL s2 c2 bs2)) d = some (.lst (.int s2 :: .int c2 :: bs2.map V.int)) := upd_same
      refine ⟨_, rfl, d, _, _, _, rfl, rfl, SqL.of hd2, at1, _, _, rfl, rfl, _, rfl, ?_⟩
      refine ite2 (fun h => ?_) (fun h => ?_)
      · obtain ⟨r, hr1, hr2⟩ := modNat c2 h1
        refine ⟨_, rfl, d, _, _, _, rfl, rfl, SqL.of hd2, at1, _, rfl, _, _, rfl, rfl, by omega, ?_⟩
        replace k := k r s2 (c2 / n) bs2 hr1 hb2
        rw [← hr2] at k
        refine ⟨_, rfl, d, _, _, _, rfl, rfl, SqL.of hd2, at1, _, rfl, _, _, rfl, rfl, ⟨by omega, by omega⟩, ?_⟩
        refine ⟨_, rfl, d, _, _, 1, rfl, rfl, hd2, ?_, ?_⟩
        · exact ixN1
        · refine ⟨_, rfl, ?_⟩
          rw [upd_upd]
          exact k
      · refine ⟨_, rfl, d, _, _, _, rfl, rfl, SqL.of hd2, atz, _, _, rfl, rfl, .inr (by decide), _, _, rfl, rfl, _, _, rfl, rfl, (by show (0 : Int) < 2147483647; decide), ?_⟩
        refine ⟨_, rfl, d, _, _, 0, rfl, rfl, hd2, ?_, ?_⟩
        · exact ixN0
        · rw [upd_upd]
          refine ⟨_, rfl, d, _, _, _, rfl, rfl, SqL.of upd_same, atz, _, _, rfl, rfl, ⟨by decide, by decide⟩, _, rfl, _, _, rfl, rfl, by omega, ?_⟩
          obtain ⟨r, hr1, hr2⟩ := modNat ((s2 * 48271 + 11) % 2147483647 / 64) h1
          replace k := k r ((s2 * 48271 + 11) % 2147483647) c2 bs2 hr1 hb2
          rw [← hr2] at k
          exact k
/-! ### _law_random -/
def spRandom (K : PySem.W.Frag) : Sp := fun vs H Q _ => ∃ (sc : Addr) (salt : Int) (ns : List Int), vs = [.ref sc, .int salt] ∧ SqL K H sc (ns.map V.int) ∧ ns.length ≤ 63 ∧
  ∀ (d : Addr) (H' : Hp), H d = none → Same H H' → DrawAt H' d → Q (.ref d) H'
abbrev raN : List Str := ["_law_script", "_law_salt", "_law_seed", "_law_cell"]
theorem sc_random : FnScope raN ["_law_script", "_law_salt"] (defScope s__law_random) := ⟨rfl, rfl, rfl, by decide +kernel, rfl, by decide +kernel, by decide +kernel⟩
theorem sqL_same {H H' : Hp} (s : Same H H') {a : Addr} {xs : List V} (h : SqL K H a xs) : SqL K H' a xs := h.elim (fun q => .inl (q.elim (fun z => .inl (s _ _ z)) fun ⟨o, z⟩ => .inr ⟨o, s _ _ z⟩)) .inr
theorem ok_random (T : LawT K mg) : FnE P w K mg base CX0 1 ("_law_random", none) ["_law_script", "_law_salt"] (spRandom K) := by
  obtain ⟨fd, F⟩ := T.random.d
  refine ⟨fd, F.ok sc_random (fun vs H Q E h => ?_) (fun cdv A outer s H vs Q E hr h => ?_), F.bindsN fun _ _ _ _ _ _ us hl => match us, hl with | [_, _], _ => rfl, F.kp⟩
  · obtain ⟨sc, salt, ns, rfl, _⟩ := h
    rfl
  · obtain ⟨sc, salt, ns, rfl, hs, hl, k⟩ := h
    refine ⟨_, PSs.nox (pss_cons (ps_set (i := 2) sc_random.nd rfl (.inl rfl) (pv 1))
      (pss_cons (ps_for PassesOwn.never rfl (pi_list (pv 0)) (pg_name (i := 3) sc_random.nd rfl (.inl rfl))
        (pss_one (ps_set (i := 2) sc_random.nd rfl (.inl rfl) (pe_op op_mod (pe_op op_add (pe_op op_mul (pv 2) pe_int) (pe_callB call_abs (by rfl) T.abs (by decide +kernel) (pa_cons (pv 3) pa_nil))) pe_int))))
      (pss_one (ps_ret (pe_op op_cat (pe_lst (pa_cons (pv 2) (pa_cons pe_int pa_nil)))
        (pe_lc (own := [("_law_cell", 3)]) (g := gName 3) (te := tVar 3) rfl sc_random.nd (pi_list (pv 0)) (blkOk_by (own := [("_law_cell", 3)]) (N := raN) (sc := defScope s__law_random) (by decide +kernel))
          (fun _ _ _ _ _ => pg_name (i := 3) sc_random.nd rfl (Or.inl rfl)) (fun _ _ _ _ _ => pts_one (pt_cmpR op_ge (pv 3) (pe_op op_pow pe_int pe_int) (nomark _))) (fun _ _ _ _ _ => pv 3))))))), ?_⟩
    refine ⟨_, rfl, ?_⟩
    refine ⟨_, rfl, sc, rfl, ⟨_, hs⟩, ?_⟩
    refine for_list (K := K) (a := sc) (xs := ns.map V.int) (fun i σ H2 => H2 = H ∧ ∃ (z : Int) (o : Option V), σ = [some (.ref sc), some (.int salt), some (.int z), o]) ⟨rfl, salt, none, rfl⟩ (fun i σ H2 _ h => by rw [h.1]; exact hs) ?_ ?_
    · rintro i x σ H2 hx ⟨rfl, z, o, rfl⟩
      rw [List.getElem?_map] at hx
      cases hn : ns[i]? with
      | none => rw [hn] at hx; cases hx
      | some m =>
        rw [hn] at hx
        cases hx
        exact ⟨_, rfl, _, _, rfl, rfl, .inr (by decide), _, rfl, _, rfl, _, _, rfl, rfl, _, _, rfl, rfl, (by show (0 : Int) < 2147483647; decide), rfl, _, _, rfl⟩
    · rintro σ H2 ⟨rfl, z, o, rfl⟩
      refine ⟨_, rfl, (by show 2 ≤ sizeLine; decide), fun l1 nl1 => ?_⟩
      have s1 := sameUpd (o := .lst [.int z, .int 0]) (Same.refl H2) nl1
      have hl1 := @upd_same H2 l1 (.lst [.int z, .int 0])
      generalize upd H2 l1 (.lst [.int z, .int 0]) = H3 at *
      refine ⟨_, rfl, sc, rfl, ⟨_, sqL_same s1 hs⟩, fun D nD => ?_⟩
      refine lc_list (K := K) (a := sc) (xs := ns.map V.int) (vs := [3]) (fun i H4 => ∃ bs : List Int, bs.length ≤ i ∧ H4 D = some (.lst (bs.map V.int)) ∧ Same H3 H4) ⟨[], Nat.le_refl _, upd_same, sameUpd (Same.refl H3) nD⟩ (fun i H4 _ ⟨_, _, _, sm⟩ => sqL_same sm (sqL_same s1 hs)) ?_ ?_
      · rintro i x H4 hx ⟨bs, hb, hD, sm⟩
        rw [List.getElem?_map] at hx
        cases hn : ns[i]? with
        | none => rw [hn] at hx; cases hx
        | some m =>
          rw [hn] at hx
          cases hx
          have hi : i < ns.length := (List.getElem?_eq_some_iff.mp hn).1
          refine ⟨rfl, _, rfl, _, _, rfl, rfl, ⟨by decide, by decide, by decide⟩, _, _, rfl, rfl, _, rfl, ?_⟩
          refine ite2 (fun h => ?_) (fun h => ?_)
          · refine ⟨_, rfl, _, hD, ?_, bs ++ [m], by simp; omega, ?_, sameUpd sm nD⟩
            · rw [List.length_map, sizeLine_eq]
              omega
            · rw [upd_same, List.map_append]
              rfl
          · exact ⟨bs, by omega, hD, sm⟩
      · rintro H4 ⟨bs, hb, hD, sm⟩
        rw [List.length_map] at hb
        refine ⟨l1, D, _, _, rfl, rfl, sm _ _ hl1, hD, ?_, fun d nd => ?_⟩
        · rw [List.length_map, sizeLine_eq]
          simp
          omega
        · have s4 := sameUpd (o := .lst ([.int z, .int 0] ++ bs.map V.int)) (Same.refl H4) nd
          exact k d _ ((s1.trans sm).free nd) ((s1.trans sm).trans s4) ⟨z, 0, bs, by omega, upd_same⟩
end
theorem Drawn.put {d : Addr} {H H' : Hp} {x : Addr} {o : HO} (h : Drawn d H H') (hx : H x = none) (nd : x ≠ d) : Drawn d H (upd H' x o) :=
  ⟨fun b u hb e => by
    rw [upd_ne (ne_of_none e hx)]
    exact h.same b u hb e, let ⟨s, c, bs, hl, e⟩ := h.at_; ⟨s, c, bs, hl, (upd_ne (Ne.symm nd)).trans e⟩⟩
theorem Drawn.draw {d : Addr} {H H' : Hp} {s c : Int} {bs : List Int} (h : Drawn d H H') (hl : bs.length ≤ 63) : Drawn d H (upd H' d (drawL s c bs)) :=
  ⟨fun b u hb e => by
    rw [upd_ne hb]
    exact h.same b u hb e, ⟨s, c, bs, hl, upd_same⟩⟩
end Sw

end

section
set_option maxRecDepth 100000
set_option maxHeartbeats 4000000
/-! the law's own: shuffled -/
namespace Sw
open PySem PySem.Spec PyProof.Rows L2 SwA
theorem perm_erase : ∀ (l : List V) (i : Nat) (h : i < l.length), (l[i] :: l.eraseIdx i).Perm l
  | a :: l, 0, _ => .refl _
  | a :: l, i + 1, h => by
    have h' : i < l.length := by simpa using h
    have ih := perm_erase l i h'
    show (l[i] :: a :: l.eraseIdx i).Perm (a :: l)
    exact (List.Perm.swap a _ _).trans (ih.cons a)
structure ShuT (K : PySem.W.Frag) (mg : Str → Option Value) : Prop where
  l : LawT K mg
  shuffled : DeT K mg "_law_shuffled" s__law_shuffled
section
variable {P : Program} {w : World} {K : PySem.W.Frag} {mg : Str → Option Value} {base : Heap}
def spShuffled (K : PySem.W.Frag) : Sp := fun vs H Q _ => ∃ (d it : Addr) (xs : List V), vs = [.ref d, .ref it] ∧ DrawAt H d ∧ SqL K H it xs ∧ xs.length ≤ 1000 ∧
  ∀ (r : Addr) (H' : Hp) (ys : List V), ys.Perm xs → Drawn d H H' → H r = none → H' r = some (.lst ys) → Q (.ref r) H'
abbrev shN : List Str := ["_law_d", "_law_items", "_law_pool", "_law_result"]
theorem sc_shuffled : FnScope shN ["_law_d", "_law_items"] (defScope s__law_shuffled) := ⟨rfl, rfl, rfl, by decide +kernel, rfl, by decide +kernel, by decide +kernel⟩
theorem ok_shuffled (T : ShuT K mg) : FnE P w K mg base CX0 2 ("_law_shuffled", none) ["_law_d", "_law_items"] (spShuffled K) := by
  obtain ⟨fd, F⟩ := T.shuffled.d
  obtain ⟨fdB, GB, bB, kB⟩ := ok_below (P := P) (w := w) (base := base) T.l
  refine ⟨fd, F.ok sc_shuffled (fun vs H Q E h => ?_) (fun cdv A outer s H vs Q E hr h => ?_), F.bindsN fun _ _ _ _ _ _ us hl => match us, hl with | [_, _], _ => rfl, F.kp⟩
  · obtain ⟨d, it, xs, rfl, _⟩ := h
    rfl
  · obtain ⟨d, it, xs, rfl, hd, hi, hl, k⟩ := h
    refine ⟨_, PSs.nox (pss_cons (ps_set (i := 2) sc_shuffled.nd rfl (.inl rfl) (pe_callTy call_list_of (by rfl) T.l.list (by decide +kernel) (pa_cons (pv 1) pa_nil)))
      (pss_cons (ps_set (i := 3) sc_shuffled.nd rfl (.inl rfl) (pe_lst pa_nil))
      (pss_cons (ps_while PassesOwn.never (pt_cmpR (op_neNil (hu0 hr)) (pv 2) (pe_lst pa_nil) (nomark _))
        (pss_one (ps_expr (pe_bm PySem.F.plainAttrs_list PySem.F.slot_list_append PySem.F.type_list_append mt_append (pv 3)
          (pa_cons (pe_bm PySem.F.plainAttrs_list PySem.F.slot_list_pop PySem.F.type_list_pop mt_popAt (pv 2) (pa_cons (pe_call GB hr rfl T.l.below.g kB bB .nil pass0 (pa_cons (pv 0) (pa_cons (pe_callB call_len_seq (by rfl) T.l.len boot_len (pa_cons (pv 2) pa_nil)) pa_nil))) pa_nil)) pa_nil)))))
      (pss_one (ps_ret (pv 3)))))), ?_⟩
    refine ⟨_, rfl, it, _, rfl, .inl hi, fun pl npl => ?_⟩
    have d1 := (Drawn.refl hd).new (o := .lst xs) npl
    have hpl := @upd_same H pl (.lst xs)
    have pld : pl ≠ d := fun z => by
      obtain ⟨_, _, _, _, q⟩ := hd
      rw [z, q] at npl
      cases npl
    generalize upd H pl (.lst xs) = H1 at *
    refine ⟨(by show 0 ≤ sizeLine; decide), fun rl nrl => ?_⟩
    have d2 := d1.new (o := .lst []) nrl
    have hrl := @upd_same H1 rl (.lst [])
    have plrl : pl ≠ rl := ne_of_none hpl nrl
    have hpl2 : (upd H1 rl (.lst [])) pl = some (.lst xs) := (upd_ne plrl).trans hpl
    have nrl0 : H rl = none := d1.free (let ⟨s, c, bs, _, e⟩ := hd; ⟨_, e⟩) nrl
    have rld : rl ≠ d := fun z => by
      obtain ⟨_, _, _, _, q⟩ := d1.at_
      rw [z, q] at nrl
      cases nrl
    generalize upd H1 rl (.lst []) = H2 at *
    refine ⟨fun m σ H3 => ∃ (zs ys : List V), m = zs.length ∧ σ = [some (.ref d), some (.ref it), some (.ref pl), some (.ref rl)] ∧ Drawn d H H3 ∧ H3 pl = some (.lst zs) ∧ H3 rl = some (.lst ys) ∧ (ys ++ zs).Perm xs, ⟨xs.length, xs, [], rfl, rfl, d2, hpl2, hrl, .refl _⟩, ?_⟩
    rintro m σ H3 ⟨zs, ys, rfl, rfl, d3, hp3, hr3, hper⟩
    have hlen : ys.length + zs.length = xs.length := by rw [← List.length_append, hper.length_eq]
    refine ⟨_, rfl, (by show 0 ≤ sizeLine; decide), fun el nel => ?_⟩
    have s4 := sameUpd (o := .lst []) (Same.refl H3) nel
    have d4 := d3.new (o := .lst []) nel
    have hel := @upd_same H3 el (.lst [])
    replace hp3 := s4 _ _ hp3
    replace hr3 := s4 _ _ hr3
    generalize upd H3 el (.lst []) = H4 at *
    refine ⟨pl, el, _, rfl, rfl, SqL.of hp3, SqL.of hel, _, rfl, ?_⟩
    cases zs with
    | nil =>
      rw [List.append_nil] at hper
      exact ⟨_, rfl, k rl H4 ys hper d4 nrl0 hr3⟩
    | cons z0 zs0 =>
      refine ⟨_, fun _ _ nn => nn, ?_⟩
      refine ⟨_, rfl, .inl ⟨rfl, _, SqL.of hr3⟩, _, rfl, .inl ⟨rfl, _, SqL.of hp3⟩, _, rfl, _, rfl, pl, _, rfl, .inl (SqL.of hp3), d, (z0 :: zs0).length, rfl, d4.at_, by simp, by simp at hlen ⊢; omega, fun r sd cu bs hrl hbs => ?_⟩
      have d5 := d4.draw (s := sd) (c := cu) hbs
      have hp5 : (upd H4 d (drawL sd cu bs)) pl = some (.lst (z0 :: zs0)) := (upd_ne pld).trans hp3
      have hr5 : (upd H4 d (drawL sd cu bs)) rl = some (.lst ys) := (upd_ne rld).trans hr3
      generalize upd H4 d (drawL sd cu bs) = H5 at *
      have hsi : seqIndex? (r : Int) (z0 :: zs0).length = some r := by
        have h0 : ixN (z0 :: zs0).length (r : Int) = some r := by
          unfold ixN
          rw [if_pos (by omega), if_pos (by omega), Int.toNat_natCast]
        exact (ixN_seq h0).1
      refine ⟨pl, _, (r : Int), r, (z0 :: zs0)[r], rfl, rfl, hp5, by omega, by simp only [List.length_cons] at hlen hrl; omega, hsi, List.getElem?_eq_getElem hrl, ?_⟩
      have d6 := d5.put (x := pl) (o := .lst ((z0 :: zs0).eraseIdx r)) npl pld
      refine ⟨rl, _, _, rfl, rfl, (upd_ne (Ne.symm plrl)).trans hr5, by rw [sizeLine_eq]; simp at hlen; omega, ?_⟩
      refine ⟨((z0 :: zs0).eraseIdx r).length, by rw [List.length_eraseIdx_of_lt hrl]; simp, (z0 :: zs0).eraseIdx r, ys ++ [(z0 :: zs0)[r]], rfl, rfl, d6.put nrl0 rld, ?_, upd_same, ?_⟩
      · rw [upd_ne plrl, upd_same]
      · refine List.Perm.trans ?_ hper
        rw [List.append_assoc]
        exact List.Perm.append_left ys (perm_erase _ r hrl)
end
end Sw

end

section
set_option maxRecDepth 100000
set_option maxHeartbeats 4000000
/-! texts that are read without a fault: the lexer -/
namespace Sw
open PySem
abbrev KT := Kd × Cs
def kt (t : Tk) : KT := (t.kind, t.text)
def dec (n : Nat) : Cs := if n < 10 then [48 + n] else [48 + n / 10, 48 + n % 10]
/-- a word of letters -/
def Wd (w : Cs) : Prop := (∀ c ∈ w, isL c = true) ∧ 1 ≤ w.length ∧ w.length ≤ 8
/-- digits, at most two, no zero ahead -/
def Nm (w : Cs) : Prop := (∀ c ∈ w, isD c = true) ∧ 1 ≤ w.length ∧ w.length ≤ 2 ∧ (w.length = 1 ∨ w.head? ≠ some 48)
def kdOf (w : Cs) : Kd := match w with
  | [] => .name
  | c :: _ => if isD c = true then .number else if w ∈ kws then .keyword else .name
def ktOf (w : Cs) : KT := (kdOf w, w)
theorem tw_app {p : Nat → Bool} {w : Cs} {r : Cs} (h : ∀ c ∈ w, p c = true) (hr : ∀ c, r.head? = some c → p c = false) : (w ++ r).takeWhile p = w := by
  induction w with
  | nil =>
    cases r with
    | nil => rfl
    | cons c r => simp [hr c rfl]
  | cons a w ih =>
    have ha : p a = true := h a List.mem_cons_self
    simp only [List.cons_append, List.takeWhile_cons, ha, if_true]
    rw [ih fun c hc => h c (List.mem_cons_of_mem _ hc)]
theorem isL_isD {c : Nat} (h : isL c = true) : isD c = false := by
  unfold isL at h
  unfold isD
  rw [Bool.and_eq_true, Nat.ble_eq, Nat.ble_eq] at h
  cases e : (Nat.ble 48 c && Nat.ble c 57) with
  | false => rfl
  | true =>
    rw [Bool.and_eq_true, Nat.ble_eq, Nat.ble_eq] at e
    omega
theorem isL_ne {c : Nat} (h : isL c = true) : c ≠ 59 ∧ isS c = false := by
  unfold isL at h
  rw [Bool.and_eq_true, Nat.ble_eq, Nat.ble_eq] at h
  refine ⟨by omega, ?_⟩
  unfold isS
  have h1 : (c == 32) = false := by simp; omega
  have h2 : (c == 10) = false := by simp; omega
  rw [h1, h2]
  rfl
theorem isD_ne {c : Nat} (h : isD c = true) : c ≠ 59 ∧ isS c = false := by
  unfold isD at h
  rw [Bool.and_eq_true, Nat.ble_eq, Nat.ble_eq] at h
  refine ⟨by omega, ?_⟩
  unfold isS
  have h1 : (c == 32) = false := by simp; omega
  have h2 : (c == 10) = false := by simp; omega
  rw [h1, h2]
  rfl
/-- what may stand behind a word -/
def Brk (r : Cs) : Prop := ∀ c, r.head? = some c → isL c = false ∧ isD c = false
theorem read_word {line col : Nat} {w r : Cs} (hw : Wd w ∨ Nm w) (hr : Brk r) : readTok line col (w ++ r) = some ⟨kdOf w, w, line, col⟩ := by
  rcases hw with ⟨h1, h2, h3⟩ | ⟨h1, h2, h3, h4⟩
  · cases w with
    | nil => simp at h2
    | cons c w =>
      have hc := h1 c List.mem_cons_self
      have tw : ((c :: w) ++ r).takeWhile isL = c :: w := tw_app h1 fun x hx => (hr x hx).1
      have e : (c :: w) ++ r = c :: (w ++ r) := rfl
      rw [e] at tw ⊢
      simp only [readTok, if_neg (isL_ne hc).1, isL_isD hc, tw, kdOf]
      by_cases hk : (c :: w) ∈ kws
      · simp [hk]
      · have hp : 1 ≤ (c :: w).length ∧ (c :: w).length ≤ 8 := ⟨h2, h3⟩
        simp only [hk, hp, if_true, if_false, Bool.false_eq_true, and_self]
  · cases w with
    | nil => simp at h2
    | cons c w =>
      have hc := h1 c List.mem_cons_self
      have tw : ((c :: w) ++ r).takeWhile isD = c :: w := tw_app h1 fun x hx => (hr x hx).2
      have e : (c :: w) ++ r = c :: (w ++ r) := rfl
      rw [e] at tw ⊢
      simp only [readTok, if_neg (isD_ne hc).1, hc, tw, kdOf, if_true]
      rw [if_neg]
      rintro (q | ⟨q1, q2⟩)
      · omega
      · rcases h4 with z | z
        · omega
        · exact z (by rw [q2]; rfl)
theorem lex_word {line col f : Nat} {w r : Cs} {ts : List Tk} (hw : Wd w ∨ Nm w) (hr : Brk r) (h : lexRow line f (col + w.length) r = .ok ts) : lexRow line (f + 1) col (w ++ r) = .ok (⟨kdOf w, w, line, col⟩ :: ts) := by
  have rd := read_word (line := line) (col := col) hw hr
  cases w with
  | nil => rcases hw with ⟨_, q, _⟩ | ⟨_, q, _⟩ <;> simp at q
  | cons c w =>
    have hs : isS c = false := by
      rcases hw with ⟨q, _⟩ | ⟨q, _⟩
      · exact (isL_ne (q c List.mem_cons_self)).2
      · exact (isD_ne (q c List.mem_cons_self)).2
    have e : (c :: w) ++ r = c :: (w ++ r) := rfl
    rw [e] at rd ⊢
    simp only [lexRow, hs, rd]
    have ed : (c :: (w ++ r)).drop (c :: w).length = r := by rw [← e, List.drop_left]
    rw [ed, h]
    rfl
theorem lex_space {line col f c : Nat} {r : Cs} (hs : isS c = true) : lexRow line (f + 1) col (c :: r) = lexRow line f (col + 1) r := by
  simp only [lexRow, hs, if_true]
theorem lex_semi {line col f : Nat} {r : Cs} {ts : List Tk} (h : lexRow line f (col + 1) r = .ok ts) : lexRow line (f + 1) col (59 :: r) = .ok (⟨.sign, [59], line, col⟩ :: ts) := by
  have e : readTok line col (59 :: r) = some ⟨.sign, [59], line, col⟩ := rfl
  have hs : isS 59 = false := rfl
  simp only [lexRow, hs, e]
  show (match lexRow line f (col + 1) r with | .error e => Except.error e | .ok ts => .ok (_ :: ts)) = _
  rw [h]
/-! ### a line: words with a space between, then ; -/
def wordsOf : List Cs → Cs
  | [] => []
  | [w] => w
  | w :: r => w ++ 32 :: wordsOf r
def lineOf (ws : List Cs) : Cs := wordsOf ws ++ [59]
theorem brk_semi {r : Cs} : Brk (59 :: r) := fun c h => by
  cases h
  exact ⟨rfl, rfl⟩
theorem brk_space {r : Cs} : Brk (32 :: r) := fun c h => by
  cases h
  exact ⟨rfl, rfl⟩
theorem lex_line {line : Nat} : ∀ {ws : List Cs} {f col : Nat}, ws ≠ [] → (∀ w ∈ ws, Wd w ∨ Nm w) → (lineOf ws).length ≤ f → ∃ T, lexRow line f col (lineOf ws) = .ok T ∧ T.map kt = ws.map ktOf ++ [(.sign, wSemi)]
  | [], _, _, h, _, _ => absurd rfl h
  | [w], f, col, _, hw, hf => by
    have hw1 := hw w List.mem_cons_self
    have hl : (lineOf [w]).length = w.length + 1 := by simp [lineOf, wordsOf]
    obtain ⟨f', rfl⟩ : ∃ f', f = f' + 1 + 1 := ⟨f - 2, by rcases hw1 with ⟨_, q, _⟩ | ⟨_, q, _⟩ <;> omega⟩
    have e1 : lexRow line (f' + 1) (col + w.length) [59] = .ok [⟨.sign, [59], line, col + w.length⟩] := by
      refine lex_semi ?_
      cases f' <;> rfl
    exact ⟨_, lex_word hw1 brk_semi e1, rfl⟩
  | w :: w2 :: ws, f, col, _, hw, hf => by
    have hw1 := hw w List.mem_cons_self
    have e : lineOf (w :: w2 :: ws) = w ++ 32 :: lineOf (w2 :: ws) := by
      show (w ++ 32 :: wordsOf (w2 :: ws)) ++ [59] = _
      rw [List.append_assoc]
      rfl
    rw [e] at hf ⊢
    rw [List.length_append, List.length_cons] at hf
    obtain ⟨f', rfl⟩ : ∃ f', f = f' + 1 + 1 := ⟨f - 2, by rcases hw1 with ⟨_, q, _⟩ | ⟨_, q, _⟩ <;> omega⟩
    have hf2 : (lineOf (w2 :: ws)).length ≤ f' := by rcases hw1 with ⟨_, q, _⟩ | ⟨_, q, _⟩ <;> omega
    obtain ⟨T, h1, h2⟩ := lex_line (line := line) (ws := w2 :: ws) (f := f') (col := col + w.length + 1) (by simp) (fun x hx => hw x (List.mem_cons_of_mem _ hx)) hf2
    refine ⟨_, lex_word hw1 brk_space (by rw [lex_space rfl]; exact h1), ?_⟩
    rw [List.map_cons, h2]
    rfl
theorem lex_lines : ∀ {lss : List (List Cs)} {line : Nat}, (∀ ws ∈ lss, ws ≠ [] ∧ ∀ w ∈ ws, Wd w ∨ Nm w) → ∃ T, lexRows line (lss.map lineOf) = .ok T ∧ T.map kt = (lss.map fun ws => ws.map ktOf ++ [(.sign, wSemi)]).flatten
  | [], _, _ => ⟨[], rfl, rfl⟩
  | ws :: lss, line, h => by
    obtain ⟨hne, hw⟩ := h ws List.mem_cons_self
    obtain ⟨T, h1, h2⟩ := lex_line (line := line) (col := 0) hne hw (Nat.le_refl _)
    obtain ⟨U, h3, h4⟩ := lex_lines (lss := lss) (line := line + 1) fun x hx => h x (List.mem_cons_of_mem _ hx)
    refine ⟨T ++ U, ?_, ?_⟩
    · show (match lexRow line (lineOf ws).length 0 (lineOf ws) with | .error e => Except.error e | .ok ts => match lexRows (line + 1) (lss.map lineOf) with | .error e => .error e | .ok us => .ok (ts ++ us)) = _
      rw [h1, h3]
    · rw [List.map_append, h2, h4]
      rfl
theorem no10_line : ∀ {ws : List Cs}, (∀ w ∈ ws, Wd w ∨ Nm w) → 10 ∉ lineOf ws := by
  have key : ∀ {ws : List Cs}, (∀ w ∈ ws, Wd w ∨ Nm w) → 10 ∉ wordsOf ws := by
    intro ws
    induction ws with
    | nil => intro _ h; cases h
    | cons w ws ih =>
      intro hw h
      have h10 : 10 ∉ w := fun z => by
        rcases hw w List.mem_cons_self with ⟨q, _⟩ | ⟨q, _⟩
        · exact absurd (q 10 z) (by decide)
        · exact absurd (q 10 z) (by decide)
      cases ws with
      | nil => exact h10 h
      | cons w2 ws =>
        rcases List.mem_append.mp h with z | z
        · exact h10 z
        · rcases List.mem_cons.mp z with y | y
          · exact absurd y (by decide)
          · exact ih (fun x hx => hw x (List.mem_cons_of_mem _ hx)) y
  intro ws hw h
  rcases List.mem_append.mp h with z | z
  · exact key hw z
  · exact absurd (List.mem_singleton.mp z) (by decide)
/-- a text of such lines -/
theorem tokenize_lines {lss : List (List Cs)} (hne : lss ≠ []) (h : ∀ ws ∈ lss, ws ≠ [] ∧ ∀ w ∈ ws, Wd w ∨ Nm w) :
    ∃ T, tokenize (TL.joinL [10] (lss.map lineOf)) = .ok T ∧ T.map kt = (lss.map fun ws => ws.map ktOf ++ [(Kd.sign, wSemi)]).flatten ++ [(.fin, [])] := by
  have hr : rowsOf (TL.joinL [10] (lss.map lineOf)) = lss.map lineOf := TL.spl_join (by simpa using hne) (by
    intro p hp
    obtain ⟨ws, hws, rfl⟩ := List.mem_map.mp hp
    exact no10_line (h ws hws).2)
  obtain ⟨T, h1, h2⟩ := lex_lines (line := 0) h
  refine ⟨T ++ [⟨.fin, [], (lss.map lineOf).length, 0⟩], ?_, ?_⟩
  · unfold tokenize
    rw [hr, h1]
  · rw [List.map_append, h2]
    rfl
end Sw

end

section
set_option maxRecDepth 100000
set_option maxHeartbeats 4000000
/-! texts that are read without a fault: the parser -/
namespace Sw
open PySem
/-- what is still to be read -/
def Rest (T : List Tk) (st : PSt) (l : List KT) : Prop := (T.map kt).drop st.at_ = l
section
variable {T : List Tk} {st : PSt} {k : Kd} {w : Cs} {l : List KT}
theorem Rest.cons (h : Rest T st ((k, w) :: l)) : (peek T st).kind = k ∧ (peek T st).text = w ∧ Rest T st.next l := by
  have e0 : (T.map kt)[st.at_]? = some (k, w) := by
    have := congrArg List.head? h
    rw [List.head?_drop] at this
    exact this
  rw [List.getElem?_map] at e0
  cases ht : T[st.at_]? with
  | none => rw [ht] at e0; cases e0
  | some t =>
    rw [ht] at e0
    have e1 : kt t = (k, w) := Option.some.inj e0
    have ep : peek T st = t := by
      unfold peek
      rw [List.getD_eq_getElem?_getD, ht]
      rfl
    refine ⟨by rw [ep]; exact congrArg Prod.fst e1, by rw [ep]; exact congrArg Prod.snd e1, ?_⟩
    show (T.map kt).drop (st.at_ + 1) = l
    have := congrArg List.tail h
    rw [List.tail_drop] at this
    exact this
theorem Rest.of_at {st2 : PSt} (h : Rest T st l) (e : st2.at_ = st.at_) : Rest T st2 l := by
  unfold Rest at *
  rw [e]
  exact h
theorem take_ok' (h : Rest T st ((k, w) :: l)) : ∃ t, take T k st = .ok (t, st.next) ∧ t.text = w ∧ Rest T st.next l := by
  obtain ⟨h1, h2, h3⟩ := h.cons
  exact ⟨peek T st, by unfold take; rw [if_pos h1], h2, h3⟩
theorem word_ok (h : Rest T st ((k, w) :: l)) : ∃ t, takeWord T w st = .ok (t, st.next) ∧ t.text = w ∧ Rest T st.next l := by
  obtain ⟨h1, h2, h3⟩ := h.cons
  exact ⟨peek T st, by unfold takeWord; rw [if_pos h2], h2, h3⟩
theorem kw_ok {ws : List Cs} (h : Rest T st ((.keyword, w) :: l)) (hw : w ∈ ws) : ∃ t, takeKw T ws st = .ok (t, st.next) ∧ t.text = w ∧ Rest T st.next l := by
  obtain ⟨h1, h2, h3⟩ := h.cons
  exact ⟨peek T st, by unfold takeKw; rw [if_pos ⟨h1, by rw [h2]; exact hw⟩], h2, h3⟩
end
/-- all but the place -/
def PSt.at' (st : PSt) (n : Nat) : PSt := { st with at_ := n }
/-! ### names -/
def pushAll (b : Bool) (ws : List Cs) (st : PSt) : PSt := if b then { st with moods := st.moods ++ ws } else { st with signs := st.signs ++ ws }
theorem more_names {T : List Tk} {k : Kd} {w : Cs} {l : List KT} (hk : k ≠ .name) : ∀ {ws : List Cs} {f : Nat} {st : PSt} {acc : List Tk}, Rest T st (ws.map (fun w => (Kd.name, w)) ++ (k, w) :: l) → ws.length ≤ f →
    ∃ ts : List Tk, moreNames T f st acc = (acc ++ ts, { st with at_ := st.at_ + ws.length }) ∧ ts.map (·.text) = ws
  | [], f, st, acc, h, hf => by
    obtain ⟨h1, _, _⟩ := h.cons
    cases f with
    | zero => exact ⟨[], by simp [moreNames], rfl⟩
    | succ f => exact ⟨[], by simp only [moreNames]; rw [if_neg (by rw [h1]; exact hk)]; simp, rfl⟩
  | x :: ws, f, st, acc, h, hf => by
    obtain ⟨h1, h2, h3⟩ := h.cons
    obtain ⟨f', rfl⟩ : ∃ f', f = f' + 1 := ⟨f - 1, by simp at hf; omega⟩
    obtain ⟨ts, e1, e2⟩ := more_names hk (ws := ws) (f := f') (st := st.next) (acc := acc ++ [peek T st]) h3 (by simpa using hf)
    refine ⟨peek T st :: ts, ?_, by simp [h2, e2]⟩
    simp only [moreNames]
    rw [if_pos h1, e1]
    simp [PSt.next, Nat.add_comm, Nat.add_left_comm]
theorem add_names {b : Bool} : ∀ {ts : List Tk} {st : PSt}, (ts.map (·.text)).Nodup → (∀ w ∈ ts.map (·.text), w ∉ st.names b) → (st.names b).length + ts.length ≤ mostOf b →
    ts.foldl (addName b) st = pushAll b (ts.map (·.text)) st
  | [], st, _, _, _ => by cases b <;> simp [pushAll]
  | t :: ts, st, hn, hm, hl => by
    have h1 : addName b st t = st.push b t.text := by
      unfold addName
      rw [if_neg (hm t.text (by simp)), if_neg (by simp at hl; omega)]
    rw [List.foldl_cons, h1]
    rw [List.map_cons, List.nodup_cons] at hn
    have e2 : (st.push b t.text).names b = st.names b ++ [t.text] := by cases b <;> rfl
    rw [add_names hn.2 (by
      intro w hw
      rw [e2]
      intro z
      rcases List.mem_append.mp z with y | y
      · exact hm w (List.mem_cons_of_mem _ hw) y
      · exact hn.1 (List.mem_singleton.mp y ▸ hw)) (by rw [e2, List.length_append]; simp at hl ⊢; omega)]
    cases b <;> simp [pushAll, PSt.push]
theorem names_ok {T : List Tk} {b : Bool} {st : PSt} {ws : List Cs} {k0 k1 : Kd} {l : List KT} (h : Rest T st ((k0, wordOf b) :: (ws.map (fun w => (Kd.name, w)) ++ (k1, wSemi) :: l))) (hk : k1 ≠ .name) (hne : ws ≠ []) (hT : ws.length ≤ T.length) (hn : ws.Nodup) (hm : (st.names b) = []) (hl : ws.length ≤ mostOf b) :
    ∃ st2, parseNames T b st = .ok ((), st2) ∧ st2 = { pushAll b ws st with at_ := st.at_ + ws.length + 2 } ∧ Rest T st2 l := by
  cases ws with
  | nil => exact absurd rfl hne
  | cons x ws =>
    obtain ⟨t1, e1, _, r1⟩ := word_ok h
    obtain ⟨t2, e2, x2, r2⟩ := take_ok' r1
    obtain ⟨ts, e3, x3⟩ := more_names (T := T) hk (ws := ws) (f := T.length) (st := st.next.next) (acc := [t2]) r2 (by simp at hT; omega)
    have r3 : Rest T { st.next.next with at_ := st.next.next.at_ + ws.length } ((k1, wSemi) :: l) := by
      have r2' : (T.map kt).drop st.next.next.at_ = ws.map (fun w => (Kd.name, w)) ++ (k1, wSemi) :: l := r2
      show (T.map kt).drop (st.next.next.at_ + ws.length) = _
      rw [← List.drop_drop, r2']
      have : ws.length = (ws.map (fun w => (Kd.name, w))).length := by simp
      rw [this, List.drop_left]
    obtain ⟨t4, e4, _, r4⟩ := word_ok r3
    have ets : ([t2] ++ ts).map (·.text) = x :: ws := by simp [x2, x3]
    refine ⟨_, ?_, rfl, ?_⟩
    · unfold parseNames
      simp only [e1, e2, e3, e4]
      rw [add_names (by rw [ets]; exact hn) (by
        intro w _ z
        have : (PSt.next { st.next.next with at_ := st.next.next.at_ + ws.length }).names b = st.names b := by cases b <;> rfl
        rw [this, hm] at z
        cases z) (by
        have : (PSt.next { st.next.next with at_ := st.next.next.at_ + ws.length }).names b = st.names b := by cases b <;> rfl
        rw [this, hm]
        have : ([t2] ++ ts).length = (x :: ws).length := by rw [← ets, List.length_map]
        rw [this]
        simpa using hl), ets]
      cases b <;> simp [pushAll, PSt.next, Nat.add_assoc, Nat.add_comm, Nat.add_left_comm]
    · refine r4.of_at ?_
      simp [PSt.next]
      omega
end Sw

end

section
set_option maxRecDepth 100000
set_option maxHeartbeats 4000000
/-! texts that are read without a fault: the statements -/
namespace Sw
open PySem
inductive Stm
  | robot (t : Nat) (r : Bool)
  | put (g tile : Nat)
  | rule (k : Nat × Nat) (r : Rule)
def wayOf (r : Bool) : Cs := if r then wRight else wLeft
def stmW (signs moods : List Cs) : Stm → List Cs
  | .robot t r => [wRobot, dec t, wayOf r]
  | .put g t => [wPut, signs.getD g [], dec t]
  | .rule k r => [wWhen, moods.getD k.1 [], signs.getD k.2 [], wLeave, signs.getD r.left [], r.move, moods.getD r.later []]
def stmKT (signs moods : List Cs) (s : Stm) : List KT := (stmW signs moods s).map ktOf ++ [(.sign, wSemi)]
/-- a name: a word, no keyword -/
def NameOk (w : Cs) : Prop := Wd w ∧ w ∉ kws
structure NamesOk (ws : List Cs) : Prop where
  nd : ws.Nodup
  ok : ∀ w ∈ ws, NameOk w
theorem kd_name {w : Cs} (h : NameOk w) : kdOf w = .name := by
  obtain ⟨⟨h1, h2, _⟩, h3⟩ := h
  cases w with
  | nil => simp at h2
  | cons c w =>
    have := isL_isD (h1 c List.mem_cons_self)
    simp only [kdOf, this, if_neg h3]
    rfl
theorem dec_nm {n : Nat} (h : n < 100) : Nm (dec n) ∧ kdOf (dec n) = .number ∧ numVal (dec n) = n := by
  have key : ∀ n, n < 100 → ((dec n).all isD && (decide (1 ≤ (dec n).length) && (decide ((dec n).length ≤ 2) && ((decide ((dec n).length = 1) || decide ((dec n).head? ≠ some 48)) && (decide (kdOf (dec n) = .number) && decide (numVal (dec n) = n)))))) = true := by decide +kernel
  have := key n h
  simp only [Bool.and_eq_true, Bool.or_eq_true, decide_eq_true_eq, List.all_eq_true] at this
  exact ⟨⟨this.1, this.2.1, this.2.2.1, this.2.2.2.1⟩, this.2.2.2.2.1, this.2.2.2.2.2⟩
theorem getD_in {ws : List Cs} {g : Nat} (h : g < ws.length) : ws.getD g [] ∈ ws := by
  rw [List.getD_eq_getElem?_getD, List.getElem?_eq_getElem h]
  exact List.getElem_mem h
theorem num_ok {ws : List Cs} {g : Nat} {t : Tk} {st : PSt} (hn : ws.Nodup) (hg : g < ws.length) (ht : t.text = ws.getD g []) : numberOf ws t st = (g, st) := by
  unfold numberOf
  rw [if_pos (by rw [ht]; exact getD_in hg), ht]
  have : ws.getD g [] = ws[g] := by rw [List.getD_eq_getElem?_getD, List.getElem?_eq_getElem hg]; rfl
  rw [this, List.Nodup.idxOf_getElem hn]
def applyS (signs moods : List Cs) (st : PSt) : Stm → PSt
  | .robot t r => { st with robots := st.robots ++ [(t, r)] }
  | .put g t => { st with spots := st.spots ++ [(t, g)] }
  | .rule k r => { st with pairs := st.pairs ++ [(moods.getD k.1 [], signs.getD k.2 [])], rules := st.rules ++ [(k, r)] }
/-- a statement that fits -/
def StmOk (tiles : Nat) (signs moods : List Cs) (st : PSt) : Stm → Prop
  | .robot t _ => t < tiles ∧ st.robots.length < 3
  | .put g t => t < tiles ∧ g < signs.length ∧ ∀ q ∈ st.spots, q.1 ≠ t
  | .rule k r => k.1 < moods.length ∧ k.2 < signs.length ∧ r.left < signs.length ∧ r.later < moods.length ∧ r.move ∈ moves ∧ (moods.getD k.1 [], signs.getD k.2 []) ∉ st.pairs ∧ ∀ q ∈ st.rules, q.1 ≠ k
theorem putA_new {κ α : Type} [DecidableEq κ] {l : List (κ × α)} {k : κ} {v : α} (h : ∀ q ∈ l, q.1 ≠ k) : putA l k v = l ++ [(k, v)] := by
  unfold putA
  rw [if_neg]
  intro z
  obtain ⟨q, hq, e⟩ := List.any_eq_true.mp z
  exact h q hq (of_decide_eq_true e)
theorem move_kd {w : Cs} (h : w ∈ moves) : kdOf w = .keyword := by
  have : ∀ w ∈ moves, kdOf w = .keyword := by decide +kernel
  exact this w h
theorem way_kd (r : Bool) : kdOf (wayOf r) = .keyword ∧ wayOf r ∈ ways ∧ (decide (wayOf r = wRight)) = r := by cases r <;> decide +kernel
section
variable {T : List Tk} {tiles : Nat} {st : PSt} {l : List KT}
theorem tile_ok {t : Nat} (h : Rest T st (ktOf (dec t) :: l)) (ht : t < tiles) (h99 : t < 100) : tileOf T tiles st = .ok (t, st.next) ∧ Rest T st.next l := by
  obtain ⟨_, hk, hv⟩ := dec_nm h99
  have h' : Rest T st ((.number, dec t) :: l) := by rw [← hk]; exact h
  obtain ⟨tk, e1, e2, e3⟩ := take_ok' h'
  refine ⟨?_, e3⟩
  unfold tileOf
  simp only [e1, e2, hv]
  rw [if_neg (by omega)]
theorem robot_ok {signs moods : List Cs} {t : Nat} {r : Bool} (h : Rest T st (stmKT signs moods (.robot t r) ++ l)) (ht : t < tiles) (h16 : tiles ≤ 16) (hr : st.robots.length < 3) :
    ∃ st2, parseRobot T tiles st = .ok ((), st2) ∧ st2 = { applyS signs moods st (.robot t r) with at_ := st.at_ + 4 } ∧ Rest T st2 l := by
  obtain ⟨t1, e1, _, r1⟩ := word_ok (k := kdOf wRobot) (w := wRobot) h
  obtain ⟨e2, r2⟩ := tile_ok (tiles := tiles) (t := t) r1 ht (by omega)
  obtain ⟨w1, w2, w3⟩ := way_kd r
  have r2' : Rest T st.next.next ((.keyword, wayOf r) :: (.sign, wSemi) :: l) := by
    have : ktOf (wayOf r) = (.keyword, wayOf r) := by unfold ktOf; rw [w1]
    rw [← this]
    exact r2
  obtain ⟨t3, e3, x3, r3⟩ := kw_ok r2' w2
  obtain ⟨t4, e4, _, r4⟩ := word_ok r3
  refine ⟨_, ?_, rfl, r4.of_at rfl⟩
  unfold parseRobot
  have hn : ¬ st.next.robots.length = 3 := by
    show ¬ st.robots.length = 3
    omega
  simp only [e1, if_neg hn, e2, e3, e4, x3, w3]
  rfl
theorem put_ok {moods : List Cs} {g t : Nat} (hN : NamesOk st.signs) (h : Rest T st (stmKT st.signs moods (.put g t) ++ l)) (h16 : tiles ≤ 16) (ho : StmOk tiles st.signs moods st (.put g t)) :
    ∃ st2, parsePut T tiles st = .ok ((), st2) ∧ st2 = { applyS st.signs moods st (.put g t) with at_ := st.at_ + 4 } ∧ Rest T st2 l := by
  obtain ⟨ht, hg, hno⟩ := ho
  obtain ⟨t1, e1, _, r1⟩ := word_ok (k := kdOf wPut) (w := wPut) h
  have r1' : Rest T st.next ((.name, st.signs.getD g []) :: ktOf (dec t) :: (.sign, wSemi) :: l) := by
    have : ktOf (st.signs.getD g []) = (.name, st.signs.getD g []) := by unfold ktOf; rw [kd_name (hN.ok _ (getD_in hg))]
    rw [← this]
    exact r1
  obtain ⟨t2, e2, x2, r2⟩ := take_ok' r1'
  have en : ∀ s : PSt, numberOf st.signs t2 s = (g, s) := fun s => num_ok hN.nd hg x2
  obtain ⟨e3, r3⟩ := tile_ok (tiles := tiles) (t := t) r2 ht (by omega)
  obtain ⟨t4, e4, _, r4⟩ := word_ok r3
  refine ⟨_, ?_, rfl, r4.of_at rfl⟩
  unfold parsePut
  simp only [e1, e2]
  have en2 : numberOf st.next.next.signs t2 st.next.next = (g, st.next.next) := en _
  simp only [en2, e3, e4]
  have hany : (st.next.next.next.next.spots.any fun kv => decide (kv.1 = t)) = false := by
    show (st.spots.any fun kv => decide (kv.1 = t)) = false
    rw [List.any_eq_false]
    intro q hq z
    exact hno q hq (of_decide_eq_true z)
  rw [hany]
  have ep : putA st.spots t g = st.spots ++ [(t, g)] := putA_new hno
  simp only [Bool.false_eq_true, if_false]
  show Except.ok ((), { st.next.next.next.next with spots := putA st.spots t g }) = _
  rw [ep]
  rfl
theorem rule_ok {k : Nat × Nat} {r : Rule} (hN : NamesOk st.signs) (hM : NamesOk st.moods) (h : Rest T st (stmKT st.signs st.moods (.rule k r) ++ l)) (ho : StmOk tiles st.signs st.moods st (.rule k r)) :
    ∃ st2, parseRule T st = .ok ((), st2) ∧ st2 = { applyS st.signs st.moods st (.rule k r) with at_ := st.at_ + 8 } ∧ Rest T st2 l := by
  obtain ⟨hk1, hk2, hl, hla, hm, hp, hno⟩ := ho
  have nm : ∀ g, g < st.signs.length → ktOf (st.signs.getD g []) = (.name, st.signs.getD g []) := fun g hg => by unfold ktOf; rw [kd_name (hN.ok _ (getD_in hg))]
  have nm2 : ∀ g, g < st.moods.length → ktOf (st.moods.getD g []) = (.name, st.moods.getD g []) := fun g hg => by unfold ktOf; rw [kd_name (hM.ok _ (getD_in hg))]
  have km : ktOf r.move = (.keyword, r.move) := by unfold ktOf; rw [move_kd hm]
  have h0 : Rest T st (ktOf wWhen :: ktOf (st.moods.getD k.1 []) :: ktOf (st.signs.getD k.2 []) :: ktOf wLeave :: ktOf (st.signs.getD r.left []) :: ktOf r.move :: ktOf (st.moods.getD r.later []) :: (.sign, wSemi) :: l) := h
  rw [nm2 _ hk1, nm _ hk2, nm _ hl, nm2 _ hla, km] at h0
  obtain ⟨t1, e1, _, r1⟩ := word_ok (k := kdOf wWhen) (w := wWhen) h0
  obtain ⟨t2, e2, x2, r2⟩ := take_ok' r1
  have n2 : numberOf st.next.next.moods t2 st.next.next = (k.1, st.next.next) := num_ok hM.nd hk1 x2
  obtain ⟨t3, e3, x3, r3⟩ := take_ok' r2
  have n3 : numberOf st.next.next.next.signs t3 st.next.next.next = (k.2, st.next.next.next) := num_ok hN.nd hk2 x3
  obtain ⟨t4, e4, _, r4⟩ := word_ok (k := kdOf wLeave) (w := wLeave) r3
  obtain ⟨t5, e5, x5, r5⟩ := take_ok' r4
  have n5 : numberOf st.next.next.next.next.next.signs t5 st.next.next.next.next.next = (r.left, st.next.next.next.next.next) := num_ok hN.nd hl x5
  obtain ⟨t6, e6, x6, r6⟩ := kw_ok r5 hm
  obtain ⟨t7, e7, x7, r7⟩ := take_ok' r6
  have n7 : numberOf st.next.next.next.next.next.next.next.moods t7 st.next.next.next.next.next.next.next = (r.later, st.next.next.next.next.next.next.next) := num_ok hM.nd hla x7
  obtain ⟨t8, e8, _, r8⟩ := word_ok r7
  refine ⟨_, ?_, rfl, r8.of_at rfl⟩
  unfold parseRule
  simp only [e1, e2, n2, e3, n3, e4, e5, n5, e6, e7, n7, e8, x2, x3, x6]
  have hp2 : (st.moods.getD k.1 [], st.signs.getD k.2 []) ∉ st.next.next.next.next.next.next.next.next.pairs := hp
  rw [if_neg hp2, if_neg hp2]
  have ep : putA st.rules k r = st.rules ++ [(k, r)] := putA_new hno
  show Except.ok ((), { st.next.next.next.next.next.next.next.next with pairs := st.pairs ++ [(st.moods.getD k.1 [], st.signs.getD k.2 [])], rules := putA st.rules (k.1, k.2) ⟨r.left, r.move, r.later⟩ }) = _
  have e0 : putA st.rules (k.1, k.2) ⟨r.left, r.move, r.later⟩ = putA st.rules k r := rfl
  rw [e0, ep]
  rfl
end
end Sw

end

section
set_option maxRecDepth 100000
set_option maxHeartbeats 4000000
/-! texts that are read without a fault: the whole -/
namespace Sw
open PySem
def Fits (tiles : Nat) (signs moods : List Cs) : PSt → List Stm → Prop
  | _, [] => True
  | st, s :: r => StmOk tiles signs moods st s ∧ Fits tiles signs moods (applyS signs moods st s) r
theorem apply_at {signs moods : List Cs} {st : PSt} {n : Nat} (s : Stm) : applyS signs moods { st with at_ := n } s = { applyS signs moods st s with at_ := n } := by cases s <;> rfl
theorem Fits.at_ {tiles : Nat} {signs moods : List Cs} : ∀ {ss : List Stm} {st : PSt} {n : Nat}, Fits tiles signs moods st ss → Fits tiles signs moods { st with at_ := n } ss
  | [], _, _, _ => trivial
  | s :: r, st, n, h => by
    refine ⟨?_, ?_⟩
    · have := h.1
      cases s <;> exact this
    · rw [apply_at]
      exact Fits.at_ h.2
theorem fold_at {signs moods : List Cs} : ∀ {ss : List Stm} {st : PSt} {n m : Nat}, { ss.foldl (applyS signs moods) { st with at_ := n } with at_ := m } = { ss.foldl (applyS signs moods) st with at_ := m }
  | [], _, _, _ => rfl
  | s :: r, st, n, m => by
    rw [List.foldl_cons, List.foldl_cons, apply_at]
    exact fold_at
theorem apply_si {signs moods : List Cs} {st : PSt} (s : Stm) : (applyS signs moods st s).signs = st.signs ∧ (applyS signs moods st s).moods = st.moods := by cases s <;> exact ⟨rfl, rfl⟩
section
variable {T : List Tk} {tiles : Nat} {signs moods : List Cs}
theorem stm_ok {st : PSt} {l : List KT} (s : Stm) (e1 : st.signs = signs) (e2 : st.moods = moods) (hN : NamesOk signs) (hM : NamesOk moods) (h16 : tiles ≤ 16) (h : Rest T st (stmKT signs moods s ++ l)) (ho : StmOk tiles signs moods st s) :
    ∃ n, parseStmt T tiles st = .ok ((), { applyS signs moods st s with at_ := n }) ∧ (peek T st).kind ≠ .fin ∧ Rest T { applyS signs moods st s with at_ := n } l := by
  subst e1
  subst e2
  cases s with
  | robot t r =>
    obtain ⟨p1, p2, _⟩ := Rest.cons (k := kdOf wRobot) (w := wRobot) h
    obtain ⟨st2, e, rfl, hr⟩ := robot_ok (tiles := tiles) h ho.1 h16 ho.2
    refine ⟨_, ?_, by rw [p1]; decide, hr⟩
    unfold parseStmt
    rw [if_pos p2]
    exact e
  | put g t =>
    obtain ⟨p1, p2, _⟩ := Rest.cons (k := kdOf wPut) (w := wPut) h
    obtain ⟨st2, e, rfl, hr⟩ := put_ok (tiles := tiles) hN h h16 ho
    refine ⟨_, ?_, by rw [p1]; decide, hr⟩
    unfold parseStmt
    rw [if_neg (by rw [p2]; decide), if_pos p2]
    exact e
  | rule k r =>
    obtain ⟨p1, p2, _⟩ := Rest.cons (k := kdOf wWhen) (w := wWhen) h
    obtain ⟨st2, e, rfl, hr⟩ := rule_ok (tiles := tiles) hN hM h ho
    refine ⟨_, ?_, by rw [p1]; decide, hr⟩
    unfold parseStmt
    rw [if_neg (by rw [p2]; decide), if_neg (by rw [p2]; decide), if_pos p2]
    exact e
theorem stmts_ok (hN : NamesOk signs) (hM : NamesOk moods) (h16 : tiles ≤ 16) : ∀ {ss : List Stm} {f : Nat} {st : PSt}, st.signs = signs → st.moods = moods → Rest T st ((ss.map (stmKT signs moods)).flatten ++ [(.fin, [])]) → Fits tiles signs moods st ss → ss.length ≤ f →
    ∃ n, parseStmts T tiles f st = .ok ((), { ss.foldl (applyS signs moods) st with at_ := n })
  | [], f, st, _, _, h, _, _ => by
    obtain ⟨p1, _, _⟩ := Rest.cons (k := .fin) (w := []) h
    cases f with
    | zero => exact ⟨st.at_, rfl⟩
    | succ f => exact ⟨st.at_, by simp only [parseStmts]; rw [if_pos p1]; rfl⟩
  | s :: r, f, st, e1, e2, h, hf, hl => by
    obtain ⟨f', rfl⟩ : ∃ f', f = f' + 1 := ⟨f - 1, by simp at hl; omega⟩
    have h' : Rest T st (stmKT signs moods s ++ ((r.map (stmKT signs moods)).flatten ++ [(.fin, [])])) := by
      rw [← List.append_assoc]
      exact h
    obtain ⟨n, p1, p2, p3⟩ := stm_ok s e1 e2 hN hM h16 h' hf.1
    obtain ⟨m, q⟩ := stmts_ok hN hM h16 (ss := r) (f := f') (st := { applyS signs moods st s with at_ := n }) ((apply_si s).1.trans e1) ((apply_si s).2.trans e2) p3 (Fits.at_ hf.2) (by simpa using hl)
    refine ⟨m, ?_⟩
    simp only [parseStmts]
    rw [if_neg p2, p1]
    show parseStmts T tiles f' { applyS signs moods st s with at_ := n } = _
    rw [q, fold_at]
    rfl
/-- the lines' words of a plan told by statements -/
def headW (tiles : Nat) (signs moods : List Cs) : List (List Cs) := [[wCorridor, dec tiles], wSigns :: signs, wMoods :: moods]
theorem flat_len {l : List (List KT)} (h : ∀ x ∈ l, x ≠ []) : l.length ≤ l.flatten.length := by
  induction l with
  | nil => simp
  | cons a l ih =>
    have h1 := List.length_pos_iff.mpr (h a List.mem_cons_self)
    have h2 := ih fun x hx => h x (List.mem_cons_of_mem _ hx)
    rw [List.flatten_cons, List.length_append, List.length_cons]
    omega
def stN0 (signs moods : List Cs) : PSt := ⟨0, [], signs, moods, [], [], [], []⟩
theorem parse_ok {t0 : Nat} {r0 : Bool} {ss : List Stm} (hN : NamesOk signs) (hM : NamesOk moods) (hs1 : signs ≠ []) (hm1 : moods ≠ []) (hs4 : signs.length ≤ 4) (hm6 : moods.length ≤ 6) (h1 : 1 ≤ tiles) (h16 : tiles ≤ 16)
    (hT : T.map kt = (((headW tiles signs moods ++ (Stm.robot t0 r0 :: ss).map (stmW signs moods)).map fun ws => ws.map ktOf ++ [(Kd.sign, wSemi)]).flatten) ++ [(.fin, [])])
    (hf : Fits tiles signs moods (stN0 signs moods) (.robot t0 r0 :: ss)) :
    ∃ n, parsePlan T = .ok (tiles, { (Stm.robot t0 r0 :: ss).foldl (applyS signs moods) (stN0 signs moods) with at_ := n }) := by
  have nmS : signs.map ktOf = signs.map (fun w => (Kd.name, w)) := List.map_congr_left fun w hw => by unfold ktOf; rw [kd_name (hN.ok w hw)]
  have nmM : moods.map ktOf = moods.map (fun w => (Kd.name, w)) := List.map_congr_left fun w hw => by unfold ktOf; rw [kd_name (hM.ok w hw)]
  obtain ⟨_, dk, dv⟩ := dec_nm (n := tiles) (by omega)
  have hflat : T.map kt = (kdOf wCorridor, wCorridor) :: (.number, dec tiles) :: (.sign, wSemi) :: (kdOf wSigns, wSigns) :: (signs.map (fun w => (Kd.name, w)) ++ (.sign, wSemi) :: ((kdOf wMoods, wMoods) :: (moods.map (fun w => (Kd.name, w)) ++ (.sign, wSemi) ::
      (stmKT signs moods (.robot t0 r0) ++ ((ss.map (stmKT signs moods)).flatten ++ [(.fin, [])]))))) := by
    rw [hT]
    have e0 : ktOf (dec tiles) = (.number, dec tiles) := by unfold ktOf; rw [dk]
    simp only [headW, List.map_append, List.map_cons, List.map_nil, List.flatten_append, List.flatten_cons, List.flatten_nil, List.append_nil, e0, nmS, nmM, List.map_map]
    have es : (ss.map ((fun ws => ws.map ktOf ++ [(Kd.sign, wSemi)]) ∘ stmW signs moods)) = ss.map (stmKT signs moods) := rfl
    rw [es]
    simp [stmKT, ktOf]
  have hlen : T.length = (T.map kt).length := by simp
  have r0' : Rest T st0 (T.map kt) := rfl
  rw [hflat] at r0'
  obtain ⟨t1, e1, _, r1⟩ := word_ok r0'
  obtain ⟨t2, e2, x2, r2⟩ := take_ok' r1
  obtain ⟨t3, e3, _, r3⟩ := word_ok r2
  have lenS : signs.length ≤ T.length := by
    rw [hlen, hflat]
    simp
    omega
  have lenM : moods.length ≤ T.length := by
    rw [hlen, hflat]
    simp
    omega
  have lenF : ss.length ≤ T.length := by
    have := flat_len (l := ss.map (stmKT signs moods)) (by
      intro x hx
      obtain ⟨s, _, rfl⟩ := List.mem_map.mp hx
      simp [stmKT])
    rw [List.length_map] at this
    rw [hlen, hflat]
    simp at this ⊢
    omega
  obtain ⟨s4, e4, x4, r4⟩ := names_ok (b := false) (ws := signs) (k1 := .sign) r3 (by decide) hs1 lenS hN.nd rfl hs4
  have hm0 : s4.names true = [] := by rw [x4]; rfl
  obtain ⟨s5, e5, x5, r5⟩ := names_ok (b := true) (ws := moods) (k1 := .sign) r4 (by decide) hm1 lenM hM.nd hm0 hm6
  have es5 : ∃ n, s5 = { stN0 signs moods with at_ := n } := by
    refine ⟨s5.at_, ?_⟩
    rw [x5, x4]
    simp [pushAll, stN0, PSt.next, st0]
  obtain ⟨n5, es5⟩ := es5
  subst es5
  have hf2 := Fits.at_ (n := n5) hf
  obtain ⟨s6, e6, x6, r6⟩ := robot_ok (tiles := tiles) (signs := signs) (moods := moods) r5 hf2.1.1 h16 hf2.1.2
  obtain ⟨m, e7⟩ := stmts_ok hN hM h16 (ss := ss) (f := T.length) (st := s6) (by rw [x6]; rfl) (by rw [x6]; rfl) r6 (by rw [x6]; exact Fits.at_ hf2.2) lenF
  refine ⟨m, ?_⟩
  unfold parsePlan
  simp only [e1, e2, e3, x2, dv]
  rw [if_pos ⟨h1, h16⟩]
  simp only [e4, e5, e6, e7]
  rw [x6, fold_at, apply_at, fold_at]
  rfl
end
end Sw

end

section
set_option maxRecDepth 100000
set_option maxHeartbeats 4000000
/-! the text of a plan, read again -/
namespace Sw
open PySem
structure RuleOk (g m : Nat) (kv : (Nat × Nat) × Rule) : Prop where
  k1 : kv.1.1 < m
  k2 : kv.1.2 < g
  l : kv.2.left < g
  la : kv.2.later < m
  mv : kv.2.move ∈ moves
/-- a plan that a text can tell -/
structure WfP (pl : Plan) : Prop where
  sN : NamesOk pl.signs
  mN : NamesOk pl.moods
  s1 : pl.signs ≠ []
  s4 : pl.signs.length ≤ 4
  m1 : pl.moods ≠ []
  m6 : pl.moods.length ≤ 6
  n1 : 1 ≤ pl.floor.length
  n16 : pl.floor.length ≤ 16
  fl : ∀ x ∈ pl.floor, x < pl.signs.length
  r1 : pl.robots ≠ []
  r3 : pl.robots.length ≤ 3
  rt : ∀ r ∈ pl.robots, r.1 < pl.floor.length
  rn : (pl.rules.map (·.1)).Nodup
  ru : ∀ kv ∈ pl.rules, RuleOk pl.signs.length pl.moods.length kv
def putsL (floor : List Nat) : List (Nat × Nat) := (List.range floor.length).filterMap fun t => if 0 < floor.getD t 0 then some (t, floor.getD t 0) else none
def robS (r : Nat × Bool) : Stm := .robot r.1 r.2
def putS (q : Nat × Nat) : Stm := .put q.2 q.1
def rulS (kv : (Nat × Nat) × Rule) : Stm := .rule kv.1 kv.2
def stmsOf (pl : Plan) : List Stm := pl.robots.map robS ++ ((putsL pl.floor).map putS ++ pl.rules.map rulS)
def linesW (pl : Plan) : List (List Cs) := headW pl.floor.length pl.signs pl.moods ++ (stmsOf pl).map (stmW pl.signs pl.moods)
def textOf (pl : Plan) : Cs := TL.joinL [10] ((linesW pl).map lineOf)
section
variable {tiles : Nat} {signs moods : List Cs}
theorem fits_app : ∀ {a b : List Stm} {st : PSt}, Fits tiles signs moods st a → Fits tiles signs moods (a.foldl (applyS signs moods) st) b → Fits tiles signs moods st (a ++ b)
  | [], _, _, _, h => h
  | s :: a, b, st, h, h2 => ⟨h.1, fits_app h.2 h2⟩
theorem fold_rob : ∀ {rs : List (Nat × Bool)} {st : PSt}, (rs.map robS).foldl (applyS signs moods) st = { st with robots := st.robots ++ rs }
  | [], st => by simp
  | r :: rs, st => by
    rw [List.map_cons, List.foldl_cons, fold_rob]
    simp [robS, applyS]
theorem fits_rob : ∀ {rs : List (Nat × Bool)} {st : PSt}, (∀ r ∈ rs, r.1 < tiles) → st.robots.length + rs.length ≤ 3 → Fits tiles signs moods st (rs.map robS)
  | [], _, _, _ => trivial
  | r :: rs, st, h, hl => by
    refine ⟨⟨h r List.mem_cons_self, by simp at hl; omega⟩, fits_rob (fun x hx => h x (List.mem_cons_of_mem _ hx)) ?_⟩
    simp [robS, applyS] at hl ⊢
    omega
theorem fold_put : ∀ {ps : List (Nat × Nat)} {st : PSt}, (ps.map putS).foldl (applyS signs moods) st = { st with spots := st.spots ++ ps }
  | [], st => by simp
  | r :: rs, st => by
    rw [List.map_cons, List.foldl_cons, fold_put]
    simp [putS, applyS]
theorem fits_put : ∀ {ps : List (Nat × Nat)} {st : PSt}, (∀ q ∈ ps, q.1 < tiles ∧ q.2 < signs.length) → (ps.map (·.1)).Nodup → (∀ q ∈ ps, ∀ x ∈ st.spots, x.1 ≠ q.1) → Fits tiles signs moods st (ps.map putS)
  | [], _, _, _, _ => trivial
  | q :: ps, st, h, hn, hd => by
    rw [List.map_cons, List.nodup_cons] at hn
    refine ⟨⟨(h q List.mem_cons_self).1, (h q List.mem_cons_self).2, hd q List.mem_cons_self⟩, fits_put (fun x hx => h x (List.mem_cons_of_mem _ hx)) hn.2 ?_⟩
    intro x hx y hy
    rcases List.mem_append.mp hy with z | z
    · exact hd x (List.mem_cons_of_mem _ hx) y z
    · rw [List.mem_singleton.mp z]
      intro e
      exact hn.1 (List.mem_map.mpr ⟨x, hx, e.symm⟩)
theorem fold_rul : ∀ {rs : List ((Nat × Nat) × Rule)} {st : PSt}, (rs.map rulS).foldl (applyS signs moods) st = { st with pairs := st.pairs ++ rs.map (fun kv => (moods.getD kv.1.1 [], signs.getD kv.1.2 [])), rules := st.rules ++ rs }
  | [], st => by simp
  | r :: rs, st => by
    rw [List.map_cons, List.foldl_cons, fold_rul]
    simp [rulS, applyS]
theorem name_inj {ws : List Cs} (hn : ws.Nodup) {a b : Nat} (ha : a < ws.length) (hb : b < ws.length) (e : ws.getD a [] = ws.getD b []) : a = b := by
  rw [List.getD_eq_getElem?_getD, List.getD_eq_getElem?_getD, List.getElem?_eq_getElem ha, List.getElem?_eq_getElem hb] at e
  exact (List.getElem_inj hn).mp e
theorem fits_rul (hN : NamesOk signs) (hM : NamesOk moods) : ∀ {rs done : List ((Nat × Nat) × Rule)} {st : PSt}, (∀ kv ∈ rs, RuleOk signs.length moods.length kv) → (∀ kv ∈ done, RuleOk signs.length moods.length kv) → ((done ++ rs).map (·.1)).Nodup →
    st.rules = done → st.pairs = done.map (fun kv => (moods.getD kv.1.1 [], signs.getD kv.1.2 [])) → Fits tiles signs moods st (rs.map rulS)
  | [], _, _, _, _, _, _, _ => trivial
  | kv :: rs, done, st, h, hd, hn, e1, e2 => by
    have o := h kv List.mem_cons_self
    have nk : ∀ q ∈ done, q.1 ≠ kv.1 := fun q hq z => by
      rw [List.map_append, List.nodup_append] at hn
      exact hn.2.2 q.1 (List.mem_map.mpr ⟨q, hq, rfl⟩) kv.1 (by simp) z
    refine ⟨⟨o.k1, o.k2, o.l, o.la, o.mv, ?_, ?_⟩, fits_rul hN hM (done := done ++ [kv]) (fun x hx => h x (List.mem_cons_of_mem _ hx)) ?_ ?_ ?_ ?_⟩
    · rw [e2]
      intro z
      obtain ⟨q, hq, e⟩ := List.mem_map.mp z
      obtain ⟨ea, eb⟩ := Prod.mk.inj e
      exact nk q hq (Prod.ext (name_inj hM.nd (hd q hq).k1 o.k1 ea) (name_inj hN.nd (hd q hq).k2 o.k2 eb))
    · rw [e1]
      exact nk
    · intro x hx
      rcases List.mem_append.mp hx with z | z
      · exact hd x z
      · rw [List.mem_singleton.mp z]
        exact o
    · rw [List.append_assoc]
      exact hn
    · show st.rules ++ [(kv.1, kv.2)] = _
      rw [e1]
    · show st.pairs ++ [_] = _
      rw [e2, List.map_append]
      rfl
end
theorem puts_mem {floor : List Nat} {q : Nat × Nat} (h : q ∈ putsL floor) : q.1 < floor.length ∧ q.2 = floor.getD q.1 0 ∧ 0 < q.2 := by
  obtain ⟨t, ht, e⟩ := List.mem_filterMap.mp h
  split at e
  · rename_i h0
    cases e
    exact ⟨List.mem_range.mp ht, rfl, h0⟩
  · cases e
theorem puts_nodup (floor : List Nat) : ((putsL floor).map (·.1)).Nodup := by
  have key : ∀ l : List Nat, l.Nodup → ((l.filterMap fun t => if 0 < floor.getD t 0 then some (t, floor.getD t 0) else none).map (·.1)).Nodup ∧ ∀ x ∈ (l.filterMap fun t => if 0 < floor.getD t 0 then some (t, floor.getD t 0) else none).map (·.1), x ∈ l := by
    intro l
    induction l with
    | nil => intro _; exact ⟨List.nodup_nil, fun x hx => by cases hx⟩
    | cons a l ih =>
      intro hn
      rw [List.nodup_cons] at hn
      obtain ⟨i1, i2⟩ := ih hn.2
      rw [List.filterMap_cons]
      by_cases h : 0 < floor.getD a 0
      · rw [if_pos h]
        refine ⟨?_, fun x hx => ?_⟩
        · rw [List.map_cons, List.nodup_cons]
          exact ⟨fun z => hn.1 (i2 _ z), i1⟩
        · rcases List.mem_cons.mp hx with z | z
          · exact z ▸ List.mem_cons_self
          · exact List.mem_cons_of_mem _ (i2 x z)
      · rw [if_neg h]
        exact ⟨i1, fun x hx => List.mem_cons_of_mem _ (i2 x hx)⟩
  exact (key _ List.nodup_range).1
theorem getA_mem {κ α : Type} [DecidableEq κ] {l : List (κ × α)} {k : κ} {v : α} (hn : (l.map (·.1)).Nodup) (h : (k, v) ∈ l) : getA l k = some v := by
  induction l with
  | nil => cases h
  | cons a l ih =>
    unfold getA
    rw [List.find?_cons]
    rw [List.map_cons, List.nodup_cons] at hn
    rcases List.mem_cons.mp h with z | z
    · subst z
      simp
    · have : ¬ a.1 = k := fun e => hn.1 (List.mem_map.mpr ⟨(k, v), z, e.symm⟩)
      rw [decide_eq_false this]
      exact ih hn.2 z
theorem getA_none {κ α : Type} [DecidableEq κ] {l : List (κ × α)} {k : κ} (h : ∀ q ∈ l, q.1 ≠ k) : getA l k = none := by
  unfold getA
  have : l.find? (fun kv => decide (kv.1 = k)) = none := List.find?_eq_none.mpr fun q hq z => h q hq (of_decide_eq_true z)
  rw [this]
  rfl
theorem puts_floor (floor : List Nat) : ((List.range floor.length).map fun i => (getA (putsL floor) i).getD 0) = floor := by
  apply List.ext_getElem?
  intro i
  rw [List.getElem?_map]
  by_cases h : i < floor.length
  · rw [List.getElem?_range h, List.getElem?_eq_getElem h]
    have ef : floor.getD i 0 = floor[i] := by rw [List.getD_eq_getElem?_getD, List.getElem?_eq_getElem h]; rfl
    show some ((getA (putsL floor) i).getD 0) = _
    by_cases h0 : 0 < floor.getD i 0
    · have hm : (i, floor.getD i 0) ∈ putsL floor := List.mem_filterMap.mpr ⟨i, List.mem_range.mpr h, by rw [if_pos h0]⟩
      rw [getA_mem (puts_nodup floor) hm, ef]
      rfl
    · rw [getA_none]
      · show some 0 = some floor[i]
        rw [← ef]
        congr 1
        omega
      · intro q hq z
        obtain ⟨_, h2, h3⟩ := puts_mem hq
        rw [z] at h2
        omega
  · rw [List.getElem?_eq_none (by simpa using h), List.getElem?_eq_none (by simpa using h)]
    rfl
theorem kw_wd : ∀ w ∈ kws, Wd w := by
  have key : ∀ w ∈ kws, (w.all isL && (decide (1 ≤ w.length) && decide (w.length ≤ 8))) = true := by decide +kernel
  intro w hw
  have := key w hw
  simp only [Bool.and_eq_true, decide_eq_true_eq, List.all_eq_true] at this
  exact ⟨this.1, this.2.1, this.2.2⟩
theorem stm_words {pl : Plan} (h : WfP pl) : ∀ s ∈ stmsOf pl, stmW pl.signs pl.moods s ≠ [] ∧ ∀ w ∈ stmW pl.signs pl.moods s, Wd w ∨ Nm w := by
  have kw : ∀ w, w ∈ kws → Wd w ∨ Nm w := fun w hw => .inl (kw_wd w hw)
  have si : ∀ g, g < pl.signs.length → Wd (pl.signs.getD g []) ∨ Nm (pl.signs.getD g []) := fun g hg => .inl (h.sN.ok _ (getD_in hg)).1
  have mo : ∀ g, g < pl.moods.length → Wd (pl.moods.getD g []) ∨ Nm (pl.moods.getD g []) := fun g hg => .inl (h.mN.ok _ (getD_in hg)).1
  have n16 := h.n16
  intro s hs
  rcases List.mem_append.mp hs with z | z
  · obtain ⟨r, hr, rfl⟩ := List.mem_map.mp z
    have := h.rt r hr
    refine ⟨by simp [robS, stmW], fun w hw => ?_⟩
    simp only [robS, stmW, List.mem_cons, List.not_mem_nil, or_false] at hw
    rcases hw with rfl | rfl | rfl
    · exact kw _ (by decide +kernel)
    · exact .inr (dec_nm (by omega)).1
    · refine kw _ ?_
      cases r.2 <;> decide +kernel
  · rcases List.mem_append.mp z with z | z
    · obtain ⟨q, hq, rfl⟩ := List.mem_map.mp z
      obtain ⟨q1, q2, _⟩ := puts_mem hq
      have hg : q.2 < pl.signs.length := by
        rw [q2]
        refine h.fl _ ?_
        rw [List.getD_eq_getElem?_getD, List.getElem?_eq_getElem q1]
        exact List.getElem_mem q1
      refine ⟨by simp [putS, stmW], fun w hw => ?_⟩
      simp only [putS, stmW, List.mem_cons, List.not_mem_nil, or_false] at hw
      rcases hw with rfl | rfl | rfl
      · exact kw _ (by decide +kernel)
      · exact si _ hg
      · exact .inr (dec_nm (by omega)).1
    · obtain ⟨q, hq, rfl⟩ := List.mem_map.mp z
      have o := h.ru q hq
      refine ⟨by simp [rulS, stmW], fun w hw => ?_⟩
      simp only [rulS, stmW, List.mem_cons, List.not_mem_nil, or_false] at hw
      rcases hw with rfl | rfl | rfl | rfl | rfl | rfl | rfl
      · exact kw _ (by decide +kernel)
      · exact mo _ o.k1
      · exact si _ o.k2
      · exact kw _ (by decide +kernel)
      · exact si _ o.l
      · refine kw _ ?_
        have : ∀ w ∈ moves, w ∈ kws := by decide +kernel
        exact this _ o.mv
      · exact mo _ o.la
/-- THE ROUND TRIP -/
theorem loads_text {pl : Plan} (h : WfP pl) : ∃ s, loads (textOf pl) = .ok (pl.floor.length, s) ∧ s.faults = [] ∧ planOf pl.floor.length s = pl := by
  have kw : ∀ w, w ∈ kws → Wd w ∨ Nm w := fun w hw => .inl (kw_wd w hw)
  have n16 := h.n16
  obtain ⟨T, hT, hK⟩ := tokenize_lines (lss := linesW pl) (by simp [linesW, headW]) (by
    intro ws hws
    rcases List.mem_append.mp hws with z | z
    · simp only [headW, List.mem_cons, List.not_mem_nil, or_false] at z
      rcases z with rfl | rfl | rfl
      · refine ⟨by simp, fun w hw => ?_⟩
        simp only [List.mem_cons, List.not_mem_nil, or_false] at hw
        rcases hw with rfl | rfl
        · exact kw _ (by decide +kernel)
        · exact .inr (dec_nm (by omega)).1
      · refine ⟨by simp, fun w hw => ?_⟩
        rcases List.mem_cons.mp hw with rfl | hw
        · exact kw _ (by decide +kernel)
        · exact .inl (h.sN.ok w hw).1
      · refine ⟨by simp, fun w hw => ?_⟩
        rcases List.mem_cons.mp hw with rfl | hw
        · exact kw _ (by decide +kernel)
        · exact .inl (h.mN.ok w hw).1
    · obtain ⟨s, hs, rfl⟩ := List.mem_map.mp z
      exact stm_words h s hs)
  obtain ⟨r0, rs, er⟩ : ∃ r0 rs, pl.robots = r0 :: rs := by
    cases e : pl.robots with
    | nil => exact absurd e h.r1
    | cons a b => exact ⟨a, b, rfl⟩
  have est : stmsOf pl = Stm.robot r0.1 r0.2 :: (rs.map robS ++ ((putsL pl.floor).map putS ++ pl.rules.map rulS)) := by
    unfold stmsOf
    rw [er]
    rfl
  have hfold : (stmsOf pl).foldl (applyS pl.signs pl.moods) (stN0 pl.signs pl.moods) = ⟨0, [], pl.signs, pl.moods, pl.robots, pl.rules, pl.rules.map (fun kv => (pl.moods.getD kv.1.1 [], pl.signs.getD kv.1.2 [])), putsL pl.floor⟩ := by
    unfold stmsOf
    rw [List.foldl_append, List.foldl_append, fold_rob, fold_put, fold_rul]
    simp [stN0]
  have hfit : Fits pl.floor.length pl.signs pl.moods (stN0 pl.signs pl.moods) (stmsOf pl) := by
    refine fits_app (fits_rob h.rt (by simpa [stN0] using h.r3)) (fits_app (fits_put ?_ (puts_nodup _) ?_) (fits_rul (done := []) h.sN h.mN h.ru (by simp) (by simpa using h.rn) ?_ ?_))
    · intro q hq
      obtain ⟨q1, q2, _⟩ := puts_mem hq
      refine ⟨q1, ?_⟩
      rw [q2]
      refine h.fl _ ?_
      rw [List.getD_eq_getElem?_getD, List.getElem?_eq_getElem q1]
      exact List.getElem_mem q1
    · intro q hq x hx
      rw [fold_rob] at hx
      cases hx
    · rw [fold_put, fold_rob]
      rfl
    · rw [fold_put, fold_rob]
      rfl
  rw [est] at hfit
  obtain ⟨n, hp⟩ := parse_ok (T := T) (tiles := pl.floor.length) (signs := pl.signs) (moods := pl.moods) h.sN h.mN h.s1 h.m1 h.s4 h.m6 h.n1 h.n16 (by rw [hK]; unfold linesW; rw [est]) hfit
  rw [← est, hfold] at hp
  refine ⟨_, (by
    unfold loads textOf
    rw [hT]
    exact hp), ?_, ?_⟩
  · rfl
  · unfold planOf
    simp only
    rw [puts_floor]
end Sw

end

section
set_option maxRecDepth 100000
set_option maxHeartbeats 4000000
/-! the law's own: a plan -/
namespace Sw
open PySem PySem.Spec PyProof.Rows L2 SwA
/-- the law's tuple of a plan -/
def PlanV (H : Hp) (a : Addr) (pl : Plan) : Prop := ∃ (sa ma fa ra rd : Addr) (ras : List Addr), H a = some (.tup [.ref sa, .ref ma, .ref fa, .ref ra, .ref rd]) ∧ TupN H sa (pl.signs.map sV) ∧ TupN H ma (pl.moods.map sV) ∧
  H fa = some (.tup (pl.floor.map fun n : Nat => V.int n)) ∧ H ra = some (.tup (ras.map V.ref)) ∧ Paired (RobAt H) ras pl.robots ∧ RulesAt H rd pl.rules
structure PlaT (K : PySem.W.Frag) (mg : Str → Option Value) : Prop where
  s : ShuT K mg
  plan : DeT K mg "_law_plan" s__law_plan
theorem perm_ex {ys zs : List V} (h : ys.Perm zs) : ∀ {base : List Cs}, zs = base.map sV → ∃ bs : List Cs, bs.Perm base ∧ ys = bs.map sV := by
  induction h with
  | nil =>
    intro base e
    cases base with
    | nil => exact ⟨[], .refl _, rfl⟩
    | cons _ _ => cases e
  | @cons x l1 l2 _ ih =>
    intro base e
    cases base with
    | nil => cases e
    | cons b base =>
      injection e with e1 e2
      obtain ⟨bs, p, q⟩ := ih e2
      exact ⟨b :: bs, p.cons b, by rw [e1, q]; rfl⟩
  | @swap x y l =>
    intro base e
    cases base with
    | nil => cases e
    | cons b base =>
      cases base with
      | nil => cases e
      | cons c base =>
        injection e with e1 e2
        injection e2 with e3 e4
        exact ⟨c :: b :: base, .swap b c base, by rw [e1, e3, e4]; rfl⟩
  | @trans l1 l2 l3 _ _ ih1 ih2 =>
    intro base e
    obtain ⟨b2, p2, q2⟩ := ih2 e
    obtain ⟨b1, p1, q1⟩ := ih1 q2
    exact ⟨b1, p1.trans p2, q1⟩
def sBase : List Cs := [txt "no", txt "red", txt "blue", txt "longname", txt "x"]
def mBase : List Cs := [txt "go", txt "calm", txt "red", txt "b", txt "cc", txt "mmmmmmmm", txt "z"]
theorem base_ok {base : List Cs} (h : (base.all fun w => w.all isL && (decide (1 ≤ w.length) && (decide (w.length ≤ 8) && !decide (w ∈ kws)))) = true) (hn : base.Nodup) {bs : List Cs} (hp : bs.Perm base) (n : Nat) : NamesOk (bs.take n) := by
  refine ⟨((hp.nodup_iff).mpr hn).sublist (List.take_sublist n bs), fun w hw => ?_⟩
  have hm : w ∈ base := hp.mem_iff.mp (List.mem_of_mem_take hw)
  have := List.all_eq_true.mp h w hm
  simp only [Bool.and_eq_true, decide_eq_true_eq, List.all_eq_true, Bool.not_eq_true', decide_eq_false_iff_not] at this
  exact ⟨⟨this.1, this.2.1, this.2.2.1⟩, this.2.2.2⟩
theorem cut_take {xs : List V} {n : Nat} (h : n ≤ xs.length) : cutV xs none (some (n : Int)) = xs.take n := by
  show (xs.drop (HT.sIx xs.length 0 none)).take (HT.sIx xs.length xs.length (some (n : Int)) - HT.sIx xs.length 0 none) = xs.take n
  rw [HT.sIx_none, HT.sIx_nat, Nat.min_eq_left h]
  rfl
theorem cutS {Hb H : Hp} {l : List Addr} {x : Addr} {o : HO} (s : Same (cutH Hb l) H) (h : x ∈ l) : Same (cutH Hb l) (upd H x o) := sameUpd s (cutH_in h)
theorem cutN {Hb H : Hp} {l : List Addr} {x : Addr} {o : HO} (s : Same (cutH Hb l) H) (h : H x = none) : Same (cutH Hb l) (upd H x o) := sameUpd s (s.free h)
section
variable {P : Program} {w : World} {K : PySem.W.Frag} {mg : Str → Option Value} {base : Heap}
/-- the keys in order -/
def SortedR (rules : List ((Nat × Nat) × Rule)) : Prop := (rules.map (·.1)).Pairwise fun a b => a.1 < b.1 ∨ (a.1 = b.1 ∧ a.2 < b.2)
def spLPlan : Sp := fun vs H Q _ => ∃ (d : Addr) (most : Nat), vs = [.ref d, .int most] ∧ DrawAt H d ∧ 1 ≤ most ∧ most ≤ 16 ∧
  ∀ (a : Addr) (H' : Hp) (pl : Plan), Drawn d H H' → WfP pl → pl.floor.length ≤ most → (pl.moods.length ≤ 3 ∧ (∀ x ∈ pl.signs, x ∈ sBase) ∧ ∀ x ∈ pl.moods, x ∈ mBase) → SortedR pl.rules → H a = none → PlanV H' a pl → Q (.ref a) H'
abbrev plN : List Str := ["_law_d", "_law_most", "_law_signs", "_law_moods", "_law_tiles", "_law_floor", "_law_robots", "_law_rules", "_law_k", "_law_mood", "_law_sign", "_law_move"]
theorem sc_lplan : FnScope plN ["_law_d", "_law_most"] (defScope s__law_plan) := ⟨rfl, rfl, rfl, by decide +kernel, rfl, by decide +kernel, by decide +kernel⟩
theorem ok_lplan (T : PlaT K mg) : FnE P w K mg base CX0 3 ("_law_plan", none) ["_law_d", "_law_most"] spLPlan := by
  obtain ⟨fd, F⟩ := T.plan.d
  obtain ⟨fdB, GB, bB, kB⟩ := ok_below (P := P) (w := w) (base := base) T.s.l
  obtain ⟨fdS, GS, bS, kS⟩ := ok_shuffled (P := P) (w := w) (base := base) T.s
  refine ⟨fd, F.ok sc_lplan (fun vs H Q E h => ?_) (fun cdv A outer s H vs Q E hr h => ?_), F.bindsN fun _ _ _ _ _ _ us hl => match us, hl with | [_, _], _ => rfl, F.kp⟩
  · obtain ⟨d, most, rfl, _⟩ := h
    rfl
  · obtain ⟨d, most, rfl, hd, hm1, hm16, k⟩ := h
    have hr1 : Room 1 _ := hr.mono (by decide)
    have hr2 : Room 2 _ := hr.mono (by decide)
    have hu := hu_of hr
    refine ⟨_, PSs.nox (pss_cons (ps_set (i := 2) sc_lplan.nd rfl (.inl rfl) (pe_tupleOfN (by rfl) T.s.l.tuple (pe_slice sl_list (pe_call GS hr2 rfl T.s.shuffled.g kS bS .nil pass0 (pa_cons (pv 0) (pa_cons (pe_lst (pa_cons pe_str (pa_cons pe_str (pa_cons pe_str (pa_cons pe_str (pa_cons pe_str pa_nil)))))) pa_nil))) po_none (po_some (pe_op op_add pe_int (pe_call GB hr1 rfl T.s.l.below.g kB bB .nil pass0 (pa_cons (pv 0) (pa_cons pe_int pa_nil))))))))
      (pss_cons (ps_set (i := 3) sc_lplan.nd rfl (.inl rfl) (pe_tupleOfN (by rfl) T.s.l.tuple (pe_slice sl_list (pe_call GS hr2 rfl T.s.shuffled.g kS bS .nil pass0 (pa_cons (pv 0) (pa_cons (pe_lst (pa_cons pe_str (pa_cons pe_str (pa_cons pe_str (pa_cons pe_str (pa_cons pe_str (pa_cons pe_str (pa_cons pe_str pa_nil)))))))) pa_nil))) po_none (po_some (pe_op op_add pe_int (pe_call GB hr1 rfl T.s.l.below.g kB bB .nil pass0 (pa_cons (pv 0) (pa_cons pe_int pa_nil))))))))
      (pss_cons (ps_asg (pe_tup (pa_cons (pe_op op_add pe_int (pe_call GB hr1 rfl T.s.l.below.g kB bB .nil pass0 (pa_cons (pv 0) (pa_cons (pv 1) pa_nil)))) (pa_cons (pe_lst pa_nil) (pa_cons (pe_lst pa_nil) (pa_cons pe_dnewT pa_nil)))))
        (pg_tup rfl (pgs_cons (pg_name (i := 4) sc_lplan.nd rfl (.inl rfl)) (pgs_cons (pg_name (i := 5) sc_lplan.nd rfl (.inl rfl)) (pgs_cons (pg_name (i := 6) sc_lplan.nd rfl (.inl rfl)) (pgs_cons (pg_name (i := 7) sc_lplan.nd rfl (.inl rfl)) pgs_nil))))))
      (pss_cons (ps_for PassesOwn.never rfl (pi_range1 (by rfl) T.s.l.range (pa_cons (pv 4) pa_nil)) (pg_name (i := 8) sc_lplan.nd rfl (.inl rfl))
        (pss_one (ps_expr (pe_bm PySem.F.plainAttrs_list PySem.F.slot_list_append PySem.F.type_list_append mt_append (pv 5) (pa_cons (pe_ifExp (pt_cmpR op_eq (pe_call GB hr1 rfl T.s.l.below.g kB bB .nil pass0 (pa_cons (pv 0) (pa_cons pe_int pa_nil))) pe_int (nomark _))
          (pe_call GB hr1 rfl T.s.l.below.g kB bB .nil pass0 (pa_cons (pv 0) (pa_cons (pe_callB call_len_seq (by rfl) T.s.l.len boot_len (pa_cons (pv 2) pa_nil)) pa_nil))) pe_int) pa_nil)))))
      (pss_cons (ps_for PassesOwn.never rfl (pi_range1 (by rfl) T.s.l.range (pa_cons (pe_ix ix_list (pe_lst (pa_cons pe_int (pa_cons pe_int (pa_cons pe_int (pa_cons pe_int pa_nil))))) (pe_call GB hr1 rfl T.s.l.below.g kB bB .nil pass0 (pa_cons (pv 0) (pa_cons pe_int pa_nil))) (fun _ _ => rfl)) pa_nil)) (pg_name (i := 8) sc_lplan.nd rfl (.inl rfl))
        (pss_one (ps_expr (pe_bm PySem.F.plainAttrs_list PySem.F.slot_list_append PySem.F.type_list_append mt_append (pv 6) (pa_cons (pe_tup (pa_cons (pe_call GB hr1 rfl T.s.l.below.g kB bB .nil pass0 (pa_cons (pv 0) (pa_cons (pv 4) pa_nil)))
          (pa_cons (pe_cmpR op_eq (pe_call GB hr1 rfl T.s.l.below.g kB bB .nil pass0 (pa_cons (pv 0) (pa_cons pe_int pa_nil))) pe_int (nomark _)) pa_nil))) pa_nil)))))
      (pss_cons (ps_for PassesOwn.never rfl (pi_range1 (by rfl) T.s.l.range (pa_cons (pe_callB call_len_seq (by rfl) T.s.l.len boot_len (pa_cons (pv 3) pa_nil)) pa_nil)) (pg_name (i := 9) sc_lplan.nd rfl (.inl rfl))
        (pss_one (ps_for PassesOwn.never rfl (pi_range1 (by rfl) T.s.l.range (pa_cons (pe_callB call_len_seq (by rfl) T.s.l.len boot_len (pa_cons (pv 2) pa_nil)) pa_nil)) (pg_name (i := 10) sc_lplan.nd rfl (.inl rfl))
          (pss_one (ps_if (pt_cmpR op_gt (pe_call GB hr1 rfl T.s.l.below.g kB bB .nil pass0 (pa_cons (pv 0) (pa_cons pe_int pa_nil))) pe_int (nomark _))
            (pss_cons (ps_set (i := 11) sc_lplan.nd rfl (.inl rfl) (pe_ix ix_list (pe_lst (pa_cons pe_str (pa_cons pe_str (pa_cons pe_str (pa_cons pe_str (pa_cons pe_str pa_nil)))))) (pe_call GB hr1 rfl T.s.l.below.g kB bB .nil pass0 (pa_cons (pv 0) (pa_cons pe_int pa_nil))) (fun _ _ => rfl)))
            (pss_one (ps_dput hu (pv 7) (pe_tup (pa_cons (pv 9) (pa_cons (pv 10) pa_nil))) (pe_tup (pa_cons (pe_call GB hr1 rfl T.s.l.below.g kB bB .nil pass0 (pa_cons (pv 0) (pa_cons (pe_callB call_len_seq (by rfl) T.s.l.len boot_len (pa_cons (pv 2) pa_nil)) pa_nil)))
              (pa_cons (pv 11) (pa_cons (pe_call GB hr1 rfl T.s.l.below.g kB bB .nil pass0 (pa_cons (pv 0) (pa_cons (pe_callB call_len_seq (by rfl) T.s.l.len boot_len (pa_cons (pv 3) pa_nil)) pa_nil))) pa_nil)))) rfl))) pss_nil)))))
      (pss_one (ps_ret (pe_tup (pa_cons (pv 2) (pa_cons (pv 3) (pa_cons (pe_callTy call_tuple_of (by rfl) T.s.l.tuple (by decide +kernel) (pa_cons (pv 5) pa_nil)) (pa_cons (pe_callTy call_tuple_of (by rfl) T.s.l.tuple (by decide +kernel) (pa_cons (pv 6) pa_nil)) (pa_cons (pv 7) pa_nil)))))))))))))), ?_⟩
    -- the signs
    refine ⟨_, rfl, (by show 5 ≤ sizeLine; decide), fun l0 nl0 => ?_⟩
    have d0 := (Drawn.refl hd).new (o := .lst [.str "no", .str "red", .str "blue", .str "longname", .str "x"]) nl0
    have hl0 := @upd_same H l0 (.lst [.str "no", .str "red", .str "blue", .str "longname", .str "x"])
    generalize upd H l0 (.lst [.str "no", .str "red", .str "blue", .str "longname", .str "x"]) = H1 at *
    refine ⟨d, l0, _, rfl, d0.at_, SqL.of hl0, by decide, fun r1 H2 ys1 hp1 dr1 nr1 hr1' => ?_⟩
    obtain ⟨bs1, pb1, rfl⟩ := perm_ex hp1 (base := sBase) (by kernel_rfl)
    have d2 := d0.trans dr1
    refine ⟨_, rfl, d, 4, rfl, d2.at_, by decide, by decide, fun r s c bs hrl hb => ?_⟩
    have hd1 : ∃ o, H d = some o := let ⟨_, _, _, _, e⟩ := hd; ⟨_, e⟩
    have ne_d : ∀ {Hx : Hp} {x : Addr}, DrawAt Hx d → Hx x = none → x ≠ d := fun ⟨_, _, _, _, q⟩ hx z => by rw [z, q] at hx; cases hx
    have d3 := d2.draw (s := s) (c := c) hb
    have r1d : r1 ≠ d := fun z => by
      obtain ⟨_, _, _, _, q⟩ := d0.at_
      rw [z, q] at nr1
      cases nr1
    have hr3 : (upd H2 d (drawL s c bs)) r1 = some (.lst (bs1.map sV)) := (upd_ne r1d).trans hr1'
    generalize upd H2 d (drawL s c bs) = H3 at *
    have l1 : bs1.length = 5 := pb1.length_eq
    have ec : cutV (bs1.map sV) none (some ((1 : Int) + (r : Int))) = (bs1.take (1 + r)).map sV := by
      have e : ((1 : Int) + (r : Int)) = ((1 + r : Nat) : Int) := by omega
      rw [e, cut_take (by rw [List.length_map]; omega), List.map_take]
    refine ⟨_, _, rfl, rfl, _, rfl, r1, _, rfl, SqL.of hr3, fun p1 np1 => ?_⟩
    rw [ec]
    have sN : NamesOk (bs1.take (1 + r)) := base_ok (by decide +kernel) (by decide +kernel) pb1 _
    have sl : (bs1.take (1 + r)).length = 1 + r := by rw [List.length_take]; omega
    have sIn : ∀ x ∈ bs1.take (1 + r), x ∈ sBase := fun x hx => pb1.mem_iff.mp (List.mem_of_mem_take hx)
    generalize bs1.take (1 + r) = signs at *
    have d4 := d3.new (o := .lst (signs.map sV)) np1
    have hp1' := @upd_same H3 p1 (.lst (signs.map sV))
    generalize upd H3 p1 (.lst (signs.map sV)) = H4 at *
    refine ⟨p1, _, rfl, SqL.of hp1', fun sa osa nsa oc od => ?_⟩
    have d5 := d4.new (o := .frz osa (.tup (signs.map sV))) nsa
    have hsa : TupN (upd H4 sa (.frz osa (.tup (signs.map sV)))) sa (signs.map sV) := ⟨osa, oc, od, upd_same⟩
    have sad : sa ≠ d := ne_d d4.at_ nsa
    generalize upd H4 sa (.frz osa (.tup (signs.map sV))) = H5 at *
    -- the moods
    refine ⟨_, rfl, (by show 7 ≤ sizeLine; decide), fun l2 nl2 => ?_⟩
    have d6 := d5.new (o := .lst [.str "go", .str "calm", .str "red", .str "b", .str "cc", .str "mmmmmmmm", .str "z"]) nl2
    have hl2 := @upd_same H5 l2 (.lst [.str "go", .str "calm", .str "red", .str "b", .str "cc", .str "mmmmmmmm", .str "z"])
    replace hsa := hsa.mono fun o z => sameUpd (o := .lst [.str "go", .str "calm", .str "red", .str "b", .str "cc", .str "mmmmmmmm", .str "z"]) (Same.refl H5) nl2 _ _ z
    generalize upd H5 l2 (.lst [.str "go", .str "calm", .str "red", .str "b", .str "cc", .str "mmmmmmmm", .str "z"]) = H6 at *
    refine ⟨d, l2, _, rfl, d6.at_, SqL.of hl2, by decide, fun r2 H7 ys2 hp2 dr2 nr2 hr2' => ?_⟩
    obtain ⟨bs2, pb2, rfl⟩ := perm_ex hp2 (base := mBase) (by kernel_rfl)
    have d7 := d6.trans dr2
    replace hsa := hsa.mono fun o z => dr2.same _ _ sad z
    have r2d : r2 ≠ d := ne_d d6.at_ nr2
    refine ⟨_, rfl, d, 3, rfl, d7.at_, by decide, by decide, fun q s2 c2 b2 hql hb2 => ?_⟩
    have d8 := d7.draw (s := s2) (c := c2) hb2
    replace hsa : TupN (upd H7 d (drawL s2 c2 b2)) sa (signs.map sV) := hsa.mono fun o z => (upd_ne sad).trans z
    have hr8 : (upd H7 d (drawL s2 c2 b2)) r2 = some (.lst (bs2.map sV)) := (upd_ne r2d).trans hr2'
    generalize upd H7 d (drawL s2 c2 b2) = H8 at *
    have l2' : bs2.length = 7 := pb2.length_eq
    have ec2 : cutV (bs2.map sV) none (some ((1 : Int) + (q : Int))) = (bs2.take (1 + q)).map sV := by
      have e : ((1 : Int) + (q : Int)) = ((1 + q : Nat) : Int) := by omega
      rw [e, cut_take (by rw [List.length_map]; omega), List.map_take]
    refine ⟨_, _, rfl, rfl, _, rfl, r2, _, rfl, SqL.of hr8, fun p2 np2 => ?_⟩
    rw [ec2]
    have mN : NamesOk (bs2.take (1 + q)) := base_ok (by decide +kernel) (by decide +kernel) pb2 _
    have ml : (bs2.take (1 + q)).length = 1 + q := by rw [List.length_take]; omega
    have mIn : ∀ x ∈ bs2.take (1 + q), x ∈ mBase := fun x hx => pb2.mem_iff.mp (List.mem_of_mem_take hx)
    generalize bs2.take (1 + q) = moods at *
    have d9 := d8.new (o := .lst (moods.map sV)) np2
    have hp2' := @upd_same H8 p2 (.lst (moods.map sV))
    replace hsa := hsa.mono fun o z => sameUpd (o := .lst (moods.map sV)) (Same.refl H8) np2 _ _ z
    generalize upd H8 p2 (.lst (moods.map sV)) = H9 at *
    refine ⟨p2, _, rfl, SqL.of hp2', fun ma oma nma mc md => ?_⟩
    have d10 := d9.new (o := .frz oma (.tup (moods.map sV))) nma
    have hma : TupN (upd H9 ma (.frz oma (.tup (moods.map sV)))) ma (moods.map sV) := ⟨oma, mc, md, upd_same⟩
    replace hsa := hsa.mono fun o z => sameUpd (o := .frz oma (.tup (moods.map sV))) (Same.refl H9) nma _ _ z
    have mad : ma ≠ d := ne_d d9.at_ nma
    generalize upd H9 ma (.frz oma (.tup (moods.map sV))) = H10 at *
    -- tiles, floor, robots, rules
    refine ⟨_, rfl, _, rfl, d, most, rfl, d10.at_, hm1, by omega, fun t0 s3 c3 b3 ht0 hb3 => ?_⟩
    have d11 := d10.draw (s := s3) (c := c3) hb3
    replace hsa : TupN (upd H10 d (drawL s3 c3 b3)) sa (signs.map sV) := hsa.mono fun o z => (upd_ne sad).trans z
    replace hma : TupN (upd H10 d (drawL s3 c3 b3)) ma (moods.map sV) := hma.mono fun o z => (upd_ne mad).trans z
    generalize upd H10 d (drawL s3 c3 b3) = H11 at *
    refine ⟨_, _, rfl, rfl, (by show 0 ≤ sizeLine; decide), fun fl nfl => ?_⟩
    have d12 := d11.new (o := .lst []) nfl
    have hfl := @upd_same H11 fl (.lst [])
    replace hsa := hsa.mono fun o z => sameUpd (o := .lst []) (Same.refl H11) nfl _ _ z
    replace hma := hma.mono fun o z => sameUpd (o := .lst []) (Same.refl H11) nfl _ _ z
    have fld : fl ≠ d := ne_d d11.at_ nfl
    have fl0 : H fl = none := d11.free hd1 nfl
    generalize upd H11 fl (.lst []) = H12 at *
    refine ⟨(by show 0 ≤ sizeLine; decide), fun rl nrl => ?_⟩
    have d13 := d12.new (o := .lst []) nrl
    have hrl' := @upd_same H12 rl (.lst [])
    have flrl : fl ≠ rl := ne_of_none hfl nrl
    replace hsa := hsa.mono fun o z => sameUpd (o := .lst []) (Same.refl H12) nrl _ _ z
    replace hma := hma.mono fun o z => sameUpd (o := .lst []) (Same.refl H12) nrl _ _ z
    replace hfl : (upd H12 rl (.lst [])) fl = some (.lst []) := (upd_ne flrl).trans hfl
    have rld : rl ≠ d := ne_d d12.at_ nrl
    have rl0 : H rl = none := d12.free hd1 nrl
    generalize upd H12 rl (.lst []) = H13 at *
    intro rd nrd
    have d14 := d13.new (o := .dT []) nrd
    have hrd := @upd_same H13 rd (.dT [])
    have flrd : fl ≠ rd := ne_of_none hfl nrd
    have rlrd : rl ≠ rd := ne_of_none hrl' nrd
    replace hsa := hsa.mono fun o z => sameUpd (o := .dT []) (Same.refl H13) nrd _ _ z
    replace hma := hma.mono fun o z => sameUpd (o := .dT []) (Same.refl H13) nrd _ _ z
    replace hfl : (upd H13 rd (.dT [])) fl = some (.lst []) := (upd_ne flrd).trans hfl
    replace hrl' : (upd H13 rd (.dT [])) rl = some (.lst []) := (upd_ne rlrd).trans hrl'
    have rdd : rd ≠ d := ne_d d13.at_ nrd
    have rd0 : H rd = none := d13.free hd1 nrd
    generalize upd H13 rd (.dT []) = H14 at *
    refine ⟨(by show 4 ≤ sizeLine; decide), fun tu ntu => ?_⟩
    have s15 := sameUpd (o := .tup [.int ((1 : Int) + (t0 : Int)), .ref fl, .ref rl, .ref rd]) (Same.refl H14) ntu
    have d15 := d14.new (o := .tup [.int ((1 : Int) + (t0 : Int)), .ref fl, .ref rl, .ref rd]) ntu
    replace hsa := hsa.mono fun o z => s15 _ _ z
    replace hma := hma.mono fun o z => s15 _ _ z
    replace hfl := s15 _ _ hfl
    replace hrl' := s15 _ _ hrl'
    replace hrd := s15 _ _ hrd
    refine ⟨tu, _, rfl, SqT.of upd_same, rfl, _, _, rfl, _, _, rfl, _, _, rfl, _, _, rfl, rfl, ?_⟩
    generalize upd H14 tu (.tup [.int ((1 : Int) + (t0 : Int)), .ref fl, .ref rl, .ref rd]) = Hb at *
    have sm0 : Same (cutH Hb [d, fl, rl, rd]) Hb := cutH_same
    -- what stands in all loops
    let St (Hx : Hp) : Prop := Same (cutH Hb [d, fl, rl, rd]) Hx ∧ DrawAt Hx d
    have drawS : ∀ {Hx : Hp} {s c : Int} {b : List Int}, St Hx → b.length ≤ 63 → St (upd Hx d (drawL s c b)) := fun h hb => ⟨cutS h.1 (by simp), ⟨_, _, _, hb, upd_same⟩⟩
    have sig : ∀ {Hx : Hp}, St Hx → TupN Hx sa (signs.map sV) := fun h => hsa.mono fun o z => h.1 _ _ (by
      rw [cutH_out]
      · exact z
      · simp only [List.mem_cons, List.not_mem_nil, or_false, not_or]
        exact ⟨sad, ne_of z hfl (by intro q; cases q), ne_of z hrl' (by intro q; cases q), ne_of z hrd (by intro q; cases q)⟩)
    have moo : ∀ {Hx : Hp}, St Hx → TupN Hx ma (moods.map sV) := fun h => hma.mono fun o z => h.1 _ _ (by
      rw [cutH_out]
      · exact z
      · simp only [List.mem_cons, List.not_mem_nil, or_false, not_or]
        exact ⟨mad, ne_of z hfl (by intro q; cases q), ne_of z hrl' (by intro q; cases q), ne_of z hrd (by intro q; cases q)⟩)
    refine ⟨_, rfl, ((1 + t0 : Nat) : Int), rfl, by omega, by omega, ?_⟩
    rw [Int.toNat_natCast]
    refine for_range (lo := 0) (n := 1 + t0) (fun i σ Hx => ∃ (o8 : Option V) (fs : List Nat), σ = [some (.ref d), some (.int most), some (.ref sa), some (.ref ma), some (.int (1 + t0 : Nat)), some (.ref fl), some (.ref rl), some (.ref rd), o8, none, none, none] ∧ St Hx ∧
      Hx fl = some (.lst (fs.map fun n : Nat => V.int n)) ∧ fs.length = i ∧ (∀ x ∈ fs, x < signs.length) ∧ Hx rl = some (.lst []) ∧ Hx rd = some (.dT [])) ⟨none, [], rfl, ⟨sm0, d15.at_⟩, hfl, rfl, by simp, hrl', hrd⟩ ?_ ?_
    · rintro i σ Hx hi ⟨o8, fs, rfl, hS, hfx, hfl2, hfs, hrx, hdx⟩
      have fin : ∀ (Hy : Hp) (v : Nat), v < signs.length → St Hy → Hy fl = some (.lst (fs.map fun n : Nat => V.int n)) → Hy rl = some (.lst []) → Hy rd = some (.dT []) →
          rAppend (.ref fl) [.int v] Hy (fun _ H1 => ∃ (o8 : Option V) (fs : List Nat), [some (V.ref d), some (.int most), some (.ref sa), some (.ref ma), some (.int (1 + t0 : Nat)), some (.ref fl), some (.ref rl), some (.ref rd), some (.int ((0 : Int) + (i : Nat))), none, none, none] = [some (.ref d), some (.int most), some (.ref sa), some (.ref ma), some (.int (1 + t0 : Nat)), some (.ref fl), some (.ref rl), some (.ref rd), o8, none, none, none] ∧ St H1 ∧
            H1 fl = some (.lst (fs.map fun n : Nat => V.int n)) ∧ fs.length = i + 1 ∧ (∀ x ∈ fs, x < signs.length) ∧ H1 rl = some (.lst []) ∧ H1 rd = some (.dT [])) := fun Hy v hv hy h1 h2 h3 => by
        refine ⟨fl, _, _, rfl, rfl, h1, by rw [List.length_map, sizeLine_eq]; omega, _, fs ++ [v], rfl, ⟨cutS hy.1 (by simp), ?_⟩, ?_, by simp [hfl2], ?_, (upd_ne (Ne.symm flrl)).trans h2, (upd_ne (Ne.symm flrd)).trans h3⟩
        · obtain ⟨a, b, c, l, e⟩ := hy.2
          exact ⟨a, b, c, l, (upd_ne (Ne.symm fld)).trans e⟩
        · rw [upd_same, List.map_append]
          rfl
        · intro x hx
          rcases List.mem_append.mp hx with z | z
          · exact hfs x z
          · rw [List.mem_singleton.mp z]
            exact hv
      refine ⟨_, rfl, .inl ⟨rfl, _, SqL.of hfx⟩, _, rfl, d, 3, rfl, hS.2, by decide, by decide, fun r s c b hr hb => ?_⟩
      refine ⟨rfl, _, rfl, ?_⟩
      refine ite2 (fun h => ?_) (fun h => ?_)
      · refine ⟨_, rfl, _, rfl, sa, _, rfl, .inr (sig (drawS hS hb)).sq, d, signs.length, by rw [List.length_map]; rfl, (drawS hS hb).2, by omega, by omega, fun r2 s2 c2 b2 hr2 hb2 => ?_⟩
        rw [upd_upd]
        exact fin _ r2 hr2 (drawS hS hb2) ((upd_ne fld).trans hfx) ((upd_ne rld).trans hrx) ((upd_ne rdd).trans hdx)
      · exact fin _ 0 (by omega) (drawS hS hb) ((upd_ne fld).trans hfx) ((upd_ne rld).trans hrx) ((upd_ne rdd).trans hdx)
    · rintro σ Hx ⟨o8, fs, rfl, hS, hfx, hfl2, hfs, hrx, hdx⟩
      -- the robots
      refine ⟨(by show 4 ≤ sizeLine; decide), fun l5 nl5 => ?_⟩
      have S5 : St (upd Hx l5 (.lst [.int 1, .int 1, .int 2, .int 3])) := ⟨cutN hS.1 nl5, let ⟨a, b, c, l, e⟩ := hS.2; ⟨a, b, c, l, sameUpd (Same.refl Hx) nl5 _ _ e⟩⟩
      have hl5 := @upd_same Hx l5 (.lst [.int 1, .int 1, .int 2, .int 3])
      have l5d : l5 ≠ d := ne_d hS.2 nl5
      have s5 := sameUpd (o := .lst [.int 1, .int 1, .int 2, .int 3]) (Same.refl Hx) nl5
      replace hfx := s5 _ _ hfx
      replace hrx := s5 _ _ hrx
      replace hdx := s5 _ _ hdx
      generalize upd Hx l5 (.lst [.int 1, .int 1, .int 2, .int 3]) = H5' at *
      refine ⟨_, rfl, d, 4, rfl, S5.2, by decide, by decide, fun r s c b hr hb => ?_⟩
      have S6 := drawS (s := s) (c := c) S5 hb
      have hl6 : (upd H5' d (drawL s c b)) l5 = some (.lst [.int 1, .int 1, .int 2, .int 3]) := (upd_ne l5d).trans hl5
      replace hfx : (upd H5' d (drawL s c b)) fl = _ := (upd_ne fld).trans hfx
      replace hrx : (upd H5' d (drawL s c b)) rl = _ := (upd_ne rld).trans hrx
      replace hdx : (upd H5' d (drawL s c b)) rd = _ := (upd_ne rdd).trans hdx
      generalize upd H5' d (drawL s c b) = H6' at *
      obtain ⟨nr, hnr, hnr1, hnr3⟩ : ∃ nr : Nat, ([V.int 1, .int 1, .int 2, .int 3])[r]? = some (.int nr) ∧ 1 ≤ nr ∧ nr ≤ 3 := by
        match r, hr with
        | 0, _ => exact ⟨1, rfl, by decide, by decide⟩
        | 1, _ => exact ⟨1, rfl, by decide, by decide⟩
        | 2, _ => exact ⟨2, rfl, by decide, by decide⟩
        | 3, _ => exact ⟨3, rfl, by decide, by decide⟩
      refine ⟨l5, _, _, _, rfl, rfl, SqL.of hl6, atI_nat hnr, (nr : Int), rfl, by omega, by omega, ?_⟩
      rw [Int.toNat_natCast]
      refine for_range (lo := 0) (n := nr) (fun i σ Hx => ∃ (o8 : Option V) (rs : List (Nat × Bool)) (ras : List Addr), σ = [some (.ref d), some (.int most), some (.ref sa), some (.ref ma), some (.int (1 + t0 : Nat)), some (.ref fl), some (.ref rl), some (.ref rd), o8, none, none, none] ∧ St Hx ∧
        Hx fl = some (.lst (fs.map fun n : Nat => V.int n)) ∧ Hx rl = some (.lst (ras.map V.ref)) ∧ Paired (RobAt Hx) ras rs ∧ rs.length = i ∧ (∀ x ∈ rs, x.1 < 1 + t0) ∧ Hx rd = some (.dT [])) ⟨o8, [], [], rfl, S6, hfx, hrx, .nil, rfl, by simp, hdx⟩ ?_ ?_
      · rintro i σ Hx2 hi ⟨o9, rs, ras, rfl, hS2, hf2, hr2, hpr2, hrl2, hrs2, hd2⟩
        refine ⟨_, rfl, .inl ⟨rfl, _, SqL.of hr2⟩, _, rfl, _, rfl, d, 1 + t0, rfl, hS2.2, by omega, by omega, fun t s c b ht hb => ?_⟩
        refine ⟨_, rfl, d, 2, rfl, (drawS hS2 hb).2, by decide, by decide, fun r3 s3 c3 b3 hr3 hb3 => ?_⟩
        rw [upd_upd]
        refine ⟨rfl, (by show 2 ≤ sizeLine; decide), fun tp ntp => ?_⟩
        have S3 := drawS (s := s3) (c := c3) hS2 hb3
        have hf3 : (upd Hx2 d (drawL s3 c3 b3)) fl = _ := (upd_ne fld).trans hf2
        have hr3' : (upd Hx2 d (drawL s3 c3 b3)) rl = _ := (upd_ne rld).trans hr2
        have hd3 : (upd Hx2 d (drawL s3 c3 b3)) rd = _ := (upd_ne rdd).trans hd2
        have hp3 : Paired (RobAt (upd Hx2 d (drawL s3 c3 b3))) ras rs := by
          obtain ⟨_, _, _, _, ed⟩ := hS2.2
          exact Paired.mapP hpr2 fun a q z => keepT ed (fun xs q => by cases q) _ _ z
        generalize upd Hx2 d (drawL s3 c3 b3) = H7' at *
        have s7 := sameUpd (o := .tup [.int t, .bl (decide (V.int (r3 : Nat) = V.int 0))]) (Same.refl H7') ntp
        have S4 : St (upd H7' tp (.tup [.int t, .bl (decide (V.int (r3 : Nat) = V.int 0))])) := ⟨cutN S3.1 ntp, let ⟨a, b, c, l, e⟩ := S3.2; ⟨a, b, c, l, s7 _ _ e⟩⟩
        have htp := @upd_same H7' tp (.tup [.int t, .bl (decide (V.int (r3 : Nat) = V.int 0))])
        replace hf3 := s7 _ _ hf3
        replace hr3' := s7 _ _ hr3'
        replace hd3 := s7 _ _ hd3
        replace hp3 : Paired (RobAt (upd H7' tp (.tup [.int t, .bl (decide (V.int (r3 : Nat) = V.int 0))]))) ras rs := Paired.mapP hp3 fun a q z => s7 _ _ z
        generalize upd H7' tp (.tup [.int t, .bl (decide (V.int (r3 : Nat) = V.int 0))]) = H8' at *
        refine ⟨rl, _, _, rfl, rfl, hr3', by rw [List.length_map, hp3.length, sizeLine_eq]; omega, ?_⟩
        have kt := keepT (o' := .lst (ras.map V.ref ++ [.ref tp])) hr3' (fun xs q => by cases q)
        refine ⟨_, rs ++ [(t, decide (V.int (r3 : Nat) = V.int 0))], ras ++ [tp], rfl, ⟨cutS S4.1 (by simp), ?_⟩, (upd_ne flrl).trans hf3, ?_, Paired_snoc (Paired.mapP hp3 fun a q z => kt _ _ z) (kt _ _ htp), by simp [hrl2], ?_, (upd_ne (Ne.symm rlrd)).trans hd3⟩
        · obtain ⟨a, b, c, l, e⟩ := S4.2
          exact ⟨a, b, c, l, (upd_ne (Ne.symm rld)).trans e⟩
        · rw [upd_same, List.map_append]
          rfl
        · intro x hx
          rcases List.mem_append.mp hx with z | z
          · exact hrs2 x z
          · rw [List.mem_singleton.mp z]
            exact ht
      · rintro σ Hx2 ⟨o9, rs, ras, rfl, hS2, hf2, hr2, hpr2, hrl2, hrs2, hd2⟩
        -- the rules
        refine ⟨_, rfl, ma, _, rfl, .inr (moo hS2).sq, _, rfl, by omega, by rw [List.length_map]; omega, ?_⟩
        rw [Int.toNat_natCast, List.length_map]
        let Ru (i j : Nat) (Hx : Hp) : Prop := ∃ (rules : List ((Nat × Nat) × Rule)) (kvs : List (List Key × V)), Hx rd = some (.dT kvs) ∧ Paired (RuleAt Hx) rules kvs ∧ SortedR rules ∧ (∀ kv ∈ rules, RuleOk signs.length moods.length kv ∧ (kv.1.1 < i ∨ (kv.1.1 = i ∧ kv.1.2 < j))) ∧ rules.length ≤ i * signs.length + j
        let Al (Hx : Hp) : Prop := St Hx ∧ Hx fl = some (.lst (fs.map fun n : Nat => V.int n)) ∧ Hx rl = some (.lst (ras.map V.ref)) ∧ Paired (RobAt Hx) ras rs
        have alDraw : ∀ {Hx : Hp} {s c : Int} {b : List Int} {i j : Nat}, Al Hx → Ru i j Hx → b.length ≤ 63 → Al (upd Hx d (drawL s c b)) ∧ Ru i j (upd Hx d (drawL s c b)) := fun {Hx s c b i j} h hr hb => by
          obtain ⟨_, _, _, _, ed⟩ := h.1.2
          have kt := keepT (o' := drawL s c b) ed (fun xs q => by cases q)
          obtain ⟨rules, kvs, r1, r2, r3⟩ := hr
          exact ⟨⟨drawS h.1 hb, (upd_ne fld).trans h.2.1, (upd_ne rld).trans h.2.2.1, Paired.mapP h.2.2.2 fun a q z => kt _ _ z⟩, ⟨rules, kvs, (upd_ne rdd).trans r1, Paired.mapP r2 fun a q z => z.mono kt, r3⟩⟩
        have alNew : ∀ {Hx : Hp} {x : Addr} {o : HO} {i j : Nat}, Al Hx → Ru i j Hx → Hx x = none → Al (upd Hx x o) ∧ Ru i j (upd Hx x o) := fun {Hx x o i j} h hr hx => by
          have sm := sameUpd (o := o) (Same.refl Hx) hx
          obtain ⟨rules, kvs, r1, r2, r3⟩ := hr
          exact ⟨⟨⟨cutN h.1.1 hx, let ⟨a, b, c, l, e⟩ := h.1.2; ⟨a, b, c, l, sm _ _ e⟩⟩, sm _ _ h.2.1, sm _ _ h.2.2.1, Paired.mapP h.2.2.2 fun a q z => sm _ _ z⟩, ⟨rules, kvs, sm _ _ r1, Paired.mapP r2 fun a q z => z.mono fun _ _ y => sm _ _ y, r3⟩⟩
        refine for_range (lo := 0) (n := moods.length) (fun i σ Hx => ∃ (o8 o9 o10 o11 : Option V), σ = [some (.ref d), some (.int most), some (.ref sa), some (.ref ma), some (.int (1 + t0 : Nat)), some (.ref fl), some (.ref rl), some (.ref rd), o8, o9, o10, o11] ∧ Al Hx ∧ Ru i 0 Hx)
          ⟨o9, none, none, none, rfl, ⟨hS2, hf2, hr2, hpr2⟩, [], [], hd2, .nil, List.Pairwise.nil, by simp, by simp⟩ ?_ ?_
        · rintro i σ Hx hi ⟨o8, o9, o10, o11, rfl, hA, hR⟩
          refine ⟨_, rfl, sa, _, rfl, .inr (sig hA.1).sq, _, rfl, by omega, by rw [List.length_map]; omega, ?_⟩
          rw [Int.toNat_natCast, List.length_map]
          refine for_range (lo := 0) (n := signs.length) (fun j σ Hx => ∃ (o10 o11 : Option V), σ = [some (.ref d), some (.int most), some (.ref sa), some (.ref ma), some (.int (1 + t0 : Nat)), some (.ref fl), some (.ref rl), some (.ref rd), o8, some (.int ((0 : Int) + (i : Nat))), o10, o11] ∧ Al Hx ∧ Ru i j Hx)
            ⟨o10, o11, rfl, hA, hR⟩ ?_ ?_
          · rintro j σ Hy hj ⟨p10, p11, rfl, hA, hR⟩
            have weak : ∀ {Hz : Hp}, Ru i j Hz → Ru i (j + 1) Hz := fun ⟨rules, kvs, r1, r2, r3, r4, r5⟩ => ⟨rules, kvs, r1, r2, r3, fun kv hk => ⟨(r4 kv hk).1, (r4 kv hk).2.elim .inl fun z => .inr ⟨z.1, by omega⟩⟩, by omega⟩
            refine ⟨_, rfl, d, 9, rfl, hA.1.2, by decide, by decide, fun r s c b hr hb => ?_⟩
            obtain ⟨hA1, hR1⟩ := alDraw (s := s) (c := c) hA hR hb
            generalize upd Hy d (drawL s c b) = H1' at *
            refine ⟨_, _, rfl, rfl, _, rfl, ?_⟩
            refine ite2 (fun h => ?_) (fun h => ?_)
            · refine ⟨(by show 5 ≤ sizeLine; decide), fun lm nlm => ?_⟩
              obtain ⟨hA2, hR2⟩ := alNew (o := .lst [.str "on", .str "on", .str "on", .str "back", .str "stay"]) hA1 hR1 nlm
              have hlm := @upd_same H1' lm (.lst [.str "on", .str "on", .str "on", .str "back", .str "stay"])
              have lmd : lm ≠ d := ne_d hA1.1.2 nlm
              generalize upd H1' lm (.lst [.str "on", .str "on", .str "on", .str "back", .str "stay"]) = H2' at *
              refine ⟨_, rfl, d, 5, rfl, hA2.1.2, by decide, by decide, fun r s c b hr hb => ?_⟩
              obtain ⟨hA3, hR3⟩ := alDraw (s := s) (c := c) hA2 hR2 hb
              have hlm3 : (upd H2' d (drawL s c b)) lm = _ := (upd_ne lmd).trans hlm
              generalize upd H2' d (drawL s c b) = H3' at *
              obtain ⟨mv, hmv, hmm⟩ : ∃ mv : Cs, ([V.str "on", .str "on", .str "on", .str "back", .str "stay"])[r]? = some (sV mv) ∧ mv ∈ moves := by
                match r, hr with
                | 0, _ => exact ⟨wOn, by kernel_rfl, by decide⟩
                | 1, _ => exact ⟨wOn, by kernel_rfl, by decide⟩
                | 2, _ => exact ⟨wOn, by kernel_rfl, by decide⟩
                | 3, _ => exact ⟨wBack, by kernel_rfl, by decide⟩
                | 4, _ => exact ⟨wStay, by kernel_rfl, by decide⟩
              refine ⟨lm, _, _, _, rfl, rfl, SqL.of hlm3, atI_nat hmv, ?_⟩
              refine ⟨_, rfl, _, rfl, sa, _, rfl, .inr (sig hA3.1).sq, d, signs.length, by rw [List.length_map]; rfl, hA3.1.2, by omega, by omega, fun lf s c b hlf hb => ?_⟩
              obtain ⟨hA4, hR4⟩ := alDraw (s := s) (c := c) hA3 hR3 hb
              generalize upd H3' d (drawL s c b) = H4' at *
              refine ⟨_, rfl, _, rfl, _, rfl, ma, _, rfl, .inr (moo hA4.1).sq, d, moods.length, by rw [List.length_map]; rfl, hA4.1.2, by omega, by omega, fun la s c b hla hb => ?_⟩
              obtain ⟨hA5, hR5⟩ := alDraw (s := s) (c := c) hA4 hR4 hb
              generalize upd H4' d (drawL s c b) = H5'' at *
              refine ⟨(by show 3 ≤ sizeLine; decide), fun tv ntv => ?_⟩
              obtain ⟨hA6, hR6⟩ := alNew (o := .tup [.int lf, sV mv, .int la]) hA5 hR5 ntv
              have htv := @upd_same H5'' tv (.tup [.int lf, sV mv, .int la])
              generalize upd H5'' tv (.tup [.int lf, sV mv, .int la]) = H6'' at *
              refine ⟨_, rfl, _, rfl, _, rfl, (by show 2 ≤ sizeLine; decide), fun tk ntk => ?_⟩
              have e0 : ∀ n : Nat, (0 : Int) + (n : Int) = (n : Int) := fun n => by omega
              have s7 := sameUpd (o := .tup [.int ((0 : Int) + (i : Nat)), .int ((0 : Int) + (j : Nat))]) (Same.refl H6'') ntk
              obtain ⟨hA7, hR7⟩ := alNew (o := .tup [.int ((0 : Int) + (i : Nat)), .int ((0 : Int) + (j : Nat))]) hA6 hR6 ntk
              have htk : (upd H6'' tk (.tup [.int ((0 : Int) + (i : Nat)), .int ((0 : Int) + (j : Nat))])) tk = some (.tup ((keyT (i, j)).map kV)) := by
                rw [upd_same, e0, e0]
                rfl
              have htv7 := s7 _ _ htv
              generalize upd H6'' tk (.tup [.int ((0 : Int) + (i : Nat)), .int ((0 : Int) + (j : Nat))]) = H7'' at *
              obtain ⟨rules, kvs, r1, r2, r3, r4, r5⟩ := hR7
              have hlen : rules.length ≤ 100 := by
                have : i * signs.length ≤ 3 * 4 := Nat.mul_le_mul (by omega) (by omega)
                omega
              refine ⟨rd, _, rfl, DPut.t (k := keyT (i, j)) r1 htk (by rw [← r2.length, sizeLine_eq]; omega), ?_⟩
              have hno : ∀ q ∈ rules, q.1 ≠ (i, j) := fun q hq z => by
                have := (r4 q hq).2
                rw [z] at this
                simp only at this
                omega
              have z1 := rules_put (k := (i, j)) (r := ⟨lf, mv, la⟩) htv7 r2
              rw [putA_new hno] at z1
              have kt := keepT (o' := .dT (putK kvs (keyT (i, j)) (.ref tv))) r1 (fun xs q => by cases q)
              refine ⟨_, _, rfl, ⟨⟨cutS hA7.1.1 (by simp), ?_⟩, (upd_ne flrd).trans hA7.2.1, (upd_ne rlrd).trans hA7.2.2.1, Paired.mapP hA7.2.2.2 fun a q z => kt _ _ z⟩, rules ++ [((i, j), ⟨lf, mv, la⟩)], _, upd_same, Paired.mapP z1 fun r kv q => q.mono kt, ?_, ?_, by simp; omega⟩
              · obtain ⟨a, b, c, l, e⟩ := hA7.1.2
                exact ⟨a, b, c, l, (upd_ne (Ne.symm rdd)).trans e⟩
              · unfold SortedR
                rw [List.map_append, List.pairwise_append]
                refine ⟨r3, List.pairwise_singleton _ _, fun a ha b hb => ?_⟩
                obtain ⟨q, hq, rfl⟩ := List.mem_map.mp ha
                rw [List.map_singleton, List.mem_singleton] at hb
                rw [hb]
                have := (r4 q hq).2
                simp only
                omega
              · intro kv hkv
                rcases List.mem_append.mp hkv with z | z
                · exact ⟨(r4 kv z).1, (r4 kv z).2.elim .inl fun y => .inr ⟨y.1, by omega⟩⟩
                · rw [List.mem_singleton.mp z]
                  exact ⟨⟨hi, hj, hlf, hla, hmm⟩, .inr ⟨rfl, Nat.lt_succ_self _⟩⟩
            · exact ⟨_, _, rfl, hA1, weak hR1⟩
          · rintro σ Hy ⟨p10, p11, rfl, hA, rules, kvs, r1, r2, r3, r4, r5⟩
            refine ⟨_, _, _, _, rfl, hA, rules, kvs, r1, r2, r3, fun kv hk => ⟨(r4 kv hk).1, .inl ?_⟩, ?_⟩
            · have := (r4 kv hk).2
              omega
            · rw [Nat.add_mul]
              omega
        · rintro σ Hx ⟨o8, o9, o10, o11, rfl, hA, rules, kvs, r1, r2, r3, r4, r5⟩
          have keepH : ∀ {b : Addr} {o : HO}, H b = some o → b ≠ d → Hx b = some o := fun {b o} e hb => by
            refine hA.1.1 _ _ ?_
            rw [cutH_out]
            · exact d15.same _ _ hb e
            · simp only [List.mem_cons, List.not_mem_nil, or_false, not_or]
              exact ⟨hb, ne_of_none e fl0, ne_of_none e rl0, ne_of_none e rd0⟩
          refine ⟨_, rfl, _, rfl, _, rfl, fl, _, rfl, .inl ⟨SqL.of hA.2.1, fun fa nfa => ?_⟩⟩
          have sA := sameUpd (o := .tup (fs.map fun n : Nat => V.int n)) (Same.refl Hx) nfa
          refine ⟨_, rfl, rl, _, rfl, .inl ⟨SqL.of (sA _ _ hA.2.2.1), fun ra nra => ?_⟩⟩
          have sB := sameUpd (o := .tup (ras.map V.ref)) (Same.refl (upd Hx fa (.tup (fs.map fun n : Nat => V.int n)))) nra
          have sAB := sA.trans sB
          refine ⟨_, rfl, (by show 5 ≤ sizeLine; decide), fun res nres => ?_⟩
          have sC := sameUpd (o := .tup [.ref sa, .ref ma, .ref fa, .ref ra, .ref rd]) (Same.refl (upd (upd Hx fa (.tup (fs.map fun n : Nat => V.int n))) ra (.tup (ras.map V.ref)))) nres
          have sT := sAB.trans sC
          have hfin : PlanV _ res ⟨signs, moods, fs, rs, rules⟩ := ⟨sa, ma, fa, ra, rd, ras, upd_same, (sig hA.1).mono fun o z => sT _ _ z, (moo hA.1).mono fun o z => sT _ _ z, sC _ _ (sB _ _ upd_same), sC _ _ upd_same,
            Paired.mapP hA.2.2.2 fun a q z => sT _ _ z, kvs, sT _ _ r1, Paired.mapP r2 fun a q z => z.mono fun _ _ y => sT _ _ y⟩
          refine k res _ ⟨signs, moods, fs, rs, rules⟩ ⟨fun b o hb e => sT _ _ (keepH e hb), ?_⟩ ?_ ?_ ?_ r3 ?_ hfin
          · obtain ⟨a, b, c, l, e⟩ := hA.1.2
            exact ⟨a, b, c, l, sT _ _ e⟩
          · refine ⟨sN, mN, ?_, ?_, ?_, ?_, ?_, ?_, hfs, ?_, ?_, ?_, ?_, fun kv hk => (r4 kv hk).1⟩
            · intro z
              have z' : signs = [] := z
              rw [z'] at sl
              simp at sl
              omega
            · show signs.length ≤ 4
              omega
            · intro z
              have z' : moods = [] := z
              rw [z'] at ml
              simp at ml
              omega
            · show moods.length ≤ 6
              omega
            · show 1 ≤ fs.length
              omega
            · show fs.length ≤ 16
              omega
            · intro z
              have z' : rs = [] := z
              rw [z'] at hrl2
              simp at hrl2
              omega
            · show rs.length ≤ 3
              omega
            · intro r hr
              have := hrs2 r hr
              show r.1 < fs.length
              omega
            · refine List.Pairwise.imp ?_ r3
              intro a b hab z
              rw [z] at hab
              omega
          · show fs.length ≤ most
            omega
          · refine ⟨?_, sIn, mIn⟩
            show moods.length ≤ 3
            omega
          · cases e : H res with
            | none => rfl
            | some o =>
              exfalso
              by_cases hb : res = d
              · obtain ⟨_, _, _, _, q⟩ := hA.1.2
                have := sAB _ _ q
                rw [← hb, nres] at this
                cases this
              · have := sAB _ _ (keepH e hb)
                rw [nres] at this
                cases this
end
end Sw

end

section
set_option maxRecDepth 100000
set_option maxHeartbeats 4000000
/-! sorted(d) of a dict whose keys are pairs of ints -/
namespace Sw
open PySem PySem.Spec PyProof.Rows L2 SwA
def PairAt (H : Hp) (b : Addr) (k : Nat × Nat) : Prop := H b = some (.tup [.int k.1, .int k.2])
def LeP (a b : Nat × Nat) : Prop := a.1 < b.1 ∨ (a.1 = b.1 ∧ a.2 ≤ b.2)
def rSortedDT : List V → Hp → VK → Prop := fun vs H Q => ∃ (d : Addr) (kvs : List (List Key × V)) (ks : List (Nat × Nat)), vs = [.ref d] ∧ Rd H d (.dT kvs) ∧ kvs.map (·.1) = ks.map keyT ∧
  ∀ (ys : List (Nat × Nat)) (bs : List Addr) (p : Addr), ys.Perm ks → ys.Pairwise LeP → Paired (PairAt H) bs ys → H p = none → Q (.ref p) (upd H p (.lst (bs.map V.ref)))
/-- what a value is to the order -/
def kOf (H : Hp) : Value → Int × Int
  | .ref t => match H t with
    | some (.tup [.int i, .int j]) => (i, j)
    | _ => (0, 0)
  | _ => (0, 0)
theorem kOf_at {H : Hp} {b : Addr} {k : Nat × Nat} (h : PairAt H b k) : kOf H (Value.ref b) = ((k.1 : Int), (k.2 : Int)) := by
  simp only [kOf, show H b = some (.tup [.int k.1, .int k.2]) from h]
theorem pairedL {α β : Type} {R : α → β → Prop} : ∀ {xs : List α} {ys : List β}, Paired R xs ys → ∀ {j : Nat} {x : α}, xs[j]? = some x → ∃ y, ys[j]? = some y ∧ R x y
  | _, _, .nil, _, _, h => by cases h
  | _, _, .cons r t, 0, _, h => by cases h; exact ⟨_, rfl, r⟩
  | _, _, .cons r t, j + 1, _, h => pairedL t (j := j) (by simpa using h)
theorem pairedR {α β : Type} {R : α → β → Prop} : ∀ {xs : List α} {ys : List β}, Paired R xs ys → ∀ {j : Nat} {y : β}, ys[j]? = some y → ∃ x, xs[j]? = some x ∧ R x y
  | _, _, .nil, _, _, h => by cases h
  | _, _, .cons r t, 0, _, h => by cases h; exact ⟨_, rfl, r⟩
  | _, _, .cons r t, j + 1, _, h => pairedR t (j := j) (by simpa using h)
theorem isKeys_pairs {H : Hp} : ∀ {kvs : List (List Key × V)} {bs : List Addr} {ks : List (Nat × Nat)}, IsKeys H kvs bs → kvs.map (·.1) = ks.map keyT → Paired (PairAt H) bs ks
  | _, _, [], .nil, _ => .nil
  | _, _, [], .cons _ _, e => by cases e
  | _, _, k :: ks, .nil, e => by cases e
  | _, _, k :: ks, .cons h t, e => by
    rw [List.map_cons, List.map_cons] at e
    injection e with e1 e2
    refine .cons ?_ (isKeys_pairs t e2)
    unfold PairAt
    rw [h, e1]
    rfl
theorem paired_perm {α β : Type} {R : α → β → Prop} {xs xs' : List α} (hp : xs'.Perm xs) : ∀ {ys : List β}, Paired R xs ys → ∃ ys', ys'.Perm ys ∧ Paired R xs' ys' := by
  induction hp with
  | nil => intro ys h; exact ⟨ys, .refl _, h⟩
  | @cons x l1 l2 _ ih =>
    intro ys h
    cases h with
    | cons r t =>
      obtain ⟨ys', p, q⟩ := ih t
      exact ⟨_ :: ys', p.cons _, .cons r q⟩
  | @swap x y l =>
    intro ys h
    cases h with
    | cons r t =>
      cases t with
      | cons r2 t2 => exact ⟨_, .swap _ _ _, .cons r2 (.cons r t2)⟩
  | @trans l1 l2 l3 _ _ ih1 ih2 =>
    intro ys h
    obtain ⟨y2, p2, q2⟩ := ih2 h
    obtain ⟨y1, p1, q1⟩ := ih1 q2
    exact ⟨y1, p1.trans p2, q1⟩
theorem pairs_sorted {H : Hp} : ∀ {bs : List Addr} {ys : List (Nat × Nat)}, Paired (PairAt H) bs ys → SrtO.Srtd (fun v u => SrtO.lexB (kOf H v) (kOf H u)) (bs.map Value.ref) → ys.Pairwise LeP
  | [], [], _, _ => .nil
  | b :: bs, y :: ys, .cons h t, hs => by
    obtain ⟨h1, h2⟩ := List.pairwise_cons.mp hs
    refine .cons (fun z hz => ?_) (pairs_sorted t h2)
    obtain ⟨j, hj⟩ := List.getElem?_of_mem hz
    obtain ⟨b2, hb2, hP⟩ := pairedR t hj
    have h3 := h1 (Value.ref b2) (List.mem_map.mpr ⟨b2, List.mem_of_getElem? hb2, rfl⟩)
    have e1 := kOf_at h
    have e2 := kOf_at hP
    simp only [e1, e2] at h3
    have h4 := SrtO.lexB_no.mp h3
    simp only at h4
    unfold LeP
    omega
theorem cr_sortedDT {X : Cx} (hc : X.calm = true) : CallR X (.builtin "sorted") rSortedDT := by
  intro pins s σ H xs us Q I r h
  obtain ⟨d, kvs, kks, rfl, hd, hkk, q⟩ := h
  obtain ⟨u, rfl, rx⟩ := r.one
  cases rx
  obtain ⟨z, hs, ks, pr, o, es, ep, ho, hx, hdt, he, hn⟩ := (show ObjOk X.prog X.w H s.heap d (.dT kvs) from hd.ok I.hok)
  have l1 : es.size = ks.length := size_of_entries he
  have l2 : kvs.length = ks.length := Paired.length pr
  refine Calls.call_function_entry PyProof.Rows.kind_sorted PyProof.Rows.plain_sorted PyProof.Rows.entry_sorted (PyProof.Rows.args_sorted1 _) ?_
  unfold Builtin.«sorted»
  refine wpAny_bind (m := checkCount "sorted" 1 1 _) (wpAny_pure ?_)
  refine wpAny_bind (PySem.W.kdu_collect (A := X.A.in1) (kdl_raw hs hx hdt) (I.ok.hd hc) ho (by omega) fun h' tk acc hk it => ?_)
  have ea : acc.toList = ks.map fun x => Value.ref x.2.1 := by
    have hl : acc.toList.length = ks.length := by rw [Array.length_toList, it.1]; exact l1
    apply List.ext_getElem?
    intro j
    rw [List.getElem?_map]
    cases hj : acc.toList[j]? with
    | none =>
      have h1 := List.getElem?_eq_none_iff.mp hj
      rw [List.getElem?_eq_none (by omega)]
      all_goals rfl
    | some v =>
      obtain ⟨en, hen, hv⟩ := it.2 j v (by rw [← Array.getElem?_toList]; exact hj)
      have qe := entry_at he j
      rw [hen] at qe
      cases hb : ks[j]? with
      | none =>
        rw [hb] at qe
        exact nomatch (show some en = none from qe)
      | some b =>
        rw [hb] at qe
        have e2 : en = entryOfKey (tupleKind (mixKind X.prog X.w)) b := Option.some.inj qe
        rw [hv, e2]
        all_goals rfl
  have eb : acc.toList = (ks.map fun x => x.2.1).map Value.ref := by rw [ea, List.map_map]; all_goals rfl
  have hP := isKeys_pairs (isKeys_of pr) hkk
  generalize (ks.map fun x => x.2.1) = bs0 at eb hP
  have hbl : bs0.length = ks.length := by
    have e := congrArg List.length eb
    rw [List.length_map, Array.length_toList, it.1] at e
    omega
  rw [eb]
  have hzz : (bs0.map Value.ref).length ≤ sizeLine := by rw [List.length_map]; omega
  have I1 : Inv X pins σ H { s with heap := h', toks := tk } := I.kept hk
  refine wpAny_bind (wpAny_newList ?_ hzz)
  have hoL : (h'.push (seqObj "list" (bs0.map Value.ref).toArray 0)).get? h'.objs.size = some (seqObj "list" (bs0.map Value.ref).toArray 0) := Heap.get?_push_size _ rfl
  show wpAny _ _ _ _ _ { s with heap := h'.push (seqObj "list" (bs0.map Value.ref).toArray 0), toks := tk }
  refine wpAny_bind (wpAny_holding (wpAny_call_entry PyProof.Rows.slot_list_sort ⟨_, hoL, rfl⟩ PyProof.Rows.entry_list_sort
    (SrtO.list_sort_ord (s := { s with heap := h'.push (seqObj "list" (bs0.map Value.ref).toArray 0), toks := tk }) (SrtO.swo_lex (kOf H)) hoL hzz (fun h2 => SrtO.pairs_sortableO (by omega) (fun v hv => ?_) (fun o e => ?_)) fun out hs2 hb2 => ⟨_, rfl, ?_⟩)
    (PyProof.Rows.args_list_sort _)))
  · obtain ⟨b, hb, rfl⟩ := List.mem_map.mp hv
    obtain ⟨j, hj⟩ := List.getElem?_of_mem hb
    obtain ⟨k, _, hk2⟩ := pairedL hP hj
    have e1 := kOf_at hk2
    rw [e1]
    obtain ⟨_, its2, r2, o2, ho2, hc2, n2, hd2⟩ := I1.hok _ _ hk2
    obtain ⟨u1, u2, rfl, ri, rj⟩ := vals2 r2
    obtain ⟨t1, rfl⟩ := ri
    obtain ⟨t2, rfl⟩ := rj
    exact ⟨b, o2, t1, t2, n2, rfl, Heap.get?_push_of_some _ ho2, hc2, hd2⟩
  · have e' : some o = some (seqObj "list" (bs0.map Value.ref).toArray 0) := e.symm.trans hoL
    cases e'
    intro c
    exact absurd (Value.type.inj c) (by decide)
  · obtain ⟨e', he'⟩ := PyProof.Rows.sortedHeap_at (vs := bs0.map Value.ref) (out := out.toArray) hoL
    have h3 : ∀ u ∈ out, ∃ a, u = Value.ref a := fun u hu => by
      obtain ⟨b, _, e⟩ := List.mem_map.mp (hb2.perm.mem_iff.mp hu)
      exact ⟨b, e.symm⟩
    obtain ⟨bs, rfl⟩ : ∃ bs : List Addr, out = bs.map Value.ref := by
      clear hs2 hb2 he'
      induction out with
      | nil => exact ⟨[], rfl⟩
      | cons u out ih =>
        obtain ⟨a, rfl⟩ := h3 u List.mem_cons_self
        obtain ⟨bs, rfl⟩ := ih fun v hv => h3 v (List.mem_cons_of_mem _ hv)
        exact ⟨a :: bs, rfl⟩
    have hperm : bs.Perm bs0 := by
      have := hb2.perm.map (fun v : Value => match v with | .ref a => a | _ => 0)
      simpa [List.map_map, Function.comp_def] using this
    obtain ⟨ys, hyp, hyP⟩ := paired_perm hperm hP
    have hlen : (bs.map V.ref).length ≤ sizeLine := by
      rw [List.length_map, hperm.length_eq]
      omega
    refine wpAny_pure ⟨_, rfl, .ref h'.objs.size, upd H h'.objs.size (.lst (bs.map V.ref)), I1.laid (t' := tk) (fun b u e => ?_) (Nat.le_refl _)
      (show ObjOk X.prog X.w _ _ _ (.lst (bs.map V.ref)) from ⟨hlen, bs.map Value.ref, e', vals_refs _, he'⟩), rfl, q ys bs _ hyp (pairs_sorted hyP hs2) hyP (I1.hok.fresh (Nat.le_refl _))⟩
    have hb : b < h'.objs.size := Heap.lt_size e
    rw [PyProof.Rows.sortedHeap_old (Nat.ne_of_lt hb) (by rw [size_push']; exact Nat.lt_succ_of_lt hb)]
    exact Heap.get?_push_of_some _ e
end Sw

end

section
set_option maxRecDepth 100000
set_option maxHeartbeats 4000000
/-! the law's own: the lines of a plan -/
namespace Sw
open PySem PySem.Spec PyProof.Rows L2 SwA
theorem sx_app (a b : Cs) : sx a ++ sx b = sx (a ++ b) := by
  have e : (sx a).cps ++ (sx b).cps = (sx (a ++ b)).cps := by simp [sx]
  exact congrArg Str.mk e
theorem sx_len (a : Cs) : (sx a).length = a.length := by simp [sx, Str.length]
theorem words_join : ∀ ws : List Cs, wordsOf ws = TL.joinL [32] ws
  | [] => rfl
  | [w] => rfl
  | w :: v :: r => by
    show w ++ 32 :: wordsOf (v :: r) = w ++ ([32] ++ TL.joinL [32] (v :: r))
    rw [words_join (v :: r)]
    rfl
theorem join_sx (a : Cs) (ys : List Cs) : Txt.join (sx a) (ys.map sx) = sx (TL.joinL a ys) := SX.join_S a ys
theorem str_dec {n : Nat} (h : n < 100) : (toString (n : Int) : Str) = sx (dec n) := by
  have : ∀ m < 100, (toString ((m : Nat) : Int) : Str) = sx (dec m) := by decide +kernel
  exact this n h
theorem log_small {n : Nat} (h : n < 100) : ((n : Nat) : Int).natAbs.log2 < 1920 := by
  rw [Int.natAbs_natCast]
  by_cases h0 : n = 0
  · subst h0; decide
  · have : n.log2 < 7 := (Nat.log2_lt h0).mpr (by omega)
    omega
theorem joinL_len (S : Cs) : ∀ ws : List Cs, (TL.joinL S ws).length ≤ (ws.map (·.length)).sum + ws.length * S.length
  | [] => by simp [TL.joinL]
  | [w] => by simp [TL.joinL]
  | w :: v :: r => by
    have ih := joinL_len S (v :: r)
    show (w ++ (S ++ TL.joinL S (v :: r))).length ≤ _
    rw [List.length_append, List.length_append]
    rw [List.map_cons, List.sum_cons, List.length_cons (a := w), Nat.add_mul, Nat.one_mul]
    omega
theorem sum_le {ws : List Cs} {b : Nat} (h : ∀ w ∈ ws, w.length ≤ b) : (ws.map (·.length)).sum ≤ ws.length * b := by
  induction ws with
  | nil => simp
  | cons w r ih =>
    have h1 := h w List.mem_cons_self
    have h2 := ih fun v hv => h v (List.mem_cons_of_mem _ hv)
    rw [List.map_cons, List.sum_cons, List.length_cons, Nat.add_mul, Nat.one_mul]
    omega
theorem lens_sx (ws : List Cs) : ((ws.map sx).map (·.length)) = ws.map (·.length) := by
  rw [List.map_map]
  exact List.map_congr_left fun w _ => sx_len w
theorem names_len {ws : List Cs} (h : NamesOk ws) : ∀ w ∈ ws, w.length ≤ 8 := fun w hw => (h.ok w hw).1.2.2
theorem dec_len (n : Nat) : (dec n).length ≤ 2 := by unfold dec; split <;> simp
abbrev lnV (ws : List Cs) : V := sV (lineOf ws)
theorem map_sV (ws : List Cs) : ws.map sV = (ws.map sx).map V.str := by rw [List.map_map]; rfl
theorem lenS {a b : Cs} (hl : a.length + b.length ≤ 10000) : (sx a).length + (sx b).length ≤ sizeLine := by rw [sx_len, sx_len, sizeLine_eq]; omega
theorem lenJ {a : Cs} {ys : List Cs} (hl : (ys.map (·.length)).sum + ys.length * a.length ≤ 100000) : ((ys.map sx).map (·.length)).sum + (ys.map sx).length * (sx a).length ≤ 16777216 := by rw [lens_sx, List.length_map, sx_len]; omega
theorem sqJ {K : PySem.W.Frag} {H : Hp} {p : Addr} {ys : List Cs} (h : SqL K H p (ys.map sV) ∨ SqT K H p (ys.map sV)) : SqL K H p ((ys.map sx).map V.str) ∨ SqT K H p ((ys.map sx).map V.str) := by rw [← map_sV]; exact h
theorem LeP.antisymm {a b : Nat × Nat} (h1 : LeP a b) (h2 : LeP b a) : a = b := by
  unfold LeP at h1 h2
  exact Prod.ext (by omega) (by omega)
theorem perm_sorted : ∀ {ys ks : List (Nat × Nat)}, ys.Perm ks → ys.Pairwise LeP → ks.Pairwise LeP → ys = ks
  | [], ks, hp, _, _ => (List.nil_perm.mp hp).symm
  | y :: ys, [], hp, _, _ => absurd (List.perm_nil.mp hp) (by simp)
  | y :: ys, k :: ks, hp, h1, h2 => by
    obtain ⟨a1, a2⟩ := List.pairwise_cons.mp h1
    obtain ⟨b1, b2⟩ := List.pairwise_cons.mp h2
    have e : y = k := by
      rcases List.mem_cons.mp (hp.mem_iff.mp List.mem_cons_self) with z | z
      · exact z
      · rcases List.mem_cons.mp (hp.mem_iff.mpr (List.mem_cons_self (a := k) (l := ks))) with q | q
        · exact q.symm
        · exact LeP.antisymm (a1 k q) (b1 y z)
    subst e
    rw [perm_sorted (hp.cons_inv) a2 b2]
theorem SortedR.le {rules : List ((Nat × Nat) × Rule)} (h : SortedR rules) : (rules.map (·.1)).Pairwise LeP := List.Pairwise.imp (fun {a b} q => by unfold LeP; omega) h
theorem head_lines {n : Nat} {signs moods : List Cs} (h1 : signs ≠ []) (h2 : moods ≠ []) :
    [V.str (sx (wCorridor ++ [32] ++ dec n ++ [59])), V.str (sx (wSigns ++ [32] ++ TL.joinL [32] signs ++ [59])), V.str (sx (wMoods ++ [32] ++ TL.joinL [32] moods ++ [59]))] = (headW n signs moods).map lnV := by
  obtain ⟨s0, sr, rfl⟩ := List.exists_cons_of_ne_nil h1
  obtain ⟨m0, mr, rfl⟩ := List.exists_cons_of_ne_nil h2
  show _ = [lnV [wCorridor, dec n], lnV (wSigns :: s0 :: sr), lnV (wMoods :: m0 :: mr)]
  unfold lnV lineOf
  rw [words_join, words_join, words_join]
  simp [TL.joinL]
theorem put_range {floor : List Nat} {i : Nat} : (List.range (i + 1)).filterMap (fun t => if 0 < floor.getD t 0 then some (t, floor.getD t 0) else none) = (List.range i).filterMap (fun t => if 0 < floor.getD t 0 then some (t, floor.getD t 0) else none) ++ (if 0 < floor.getD i 0 then [(i, floor.getD i 0)] else []) := by
  rw [List.range_succ, List.filterMap_append]
  congr 1
  by_cases h : 0 < floor.getD i 0
  · simp only [List.filterMap_cons, List.filterMap_nil, if_pos h]
  · simp only [List.filterMap_cons, List.filterMap_nil, if_neg h]
theorem snoc_ln {A B : List (List Cs)} {x : List Cs} {v : V} (h : lnV x = v) : (A ++ B).map lnV ++ [v] = (A ++ (B ++ [x])).map lnV := by
  rw [← h]
  simp
theorem snoc_lf {α : Type} {A : List (List Cs)} {L : List α} {f : α → List Cs} {q : α} {v : V} (h : lnV (f q) = v) : (A ++ L.map f).map lnV ++ [v] = (A ++ (L ++ [q]).map f).map lnV := by
  rw [← h]
  simp
theorem inc_len {n : Nat} : ∀ {l : List Nat} {lo : Nat}, l.Pairwise (· < ·) → (∀ x ∈ l, lo ≤ x ∧ x < n) → l.length ≤ n - lo
  | [], _, _, _ => Nat.zero_le _
  | x :: r, lo, hp, h => by
    obtain ⟨h1, h2⟩ := List.pairwise_cons.mp hp
    have hx := h x List.mem_cons_self
    have ih := inc_len (lo := x + 1) h2 fun y hy => ⟨h1 y hy, (h y (List.mem_cons_of_mem _ hy)).2⟩
    rw [List.length_cons]
    omega
theorem rules_few {pl : Plan} (wf : WfP pl) (so : SortedR pl.rules) : pl.rules.length ≤ 24 := by
  have h4 := wf.s4
  have h6 := wf.m6
  have := inc_len (n := 24) (lo := 0) (l := pl.rules.map fun kv => kv.1.1 * 4 + kv.1.2) ?_ ?_
  · rw [List.length_map] at this
    exact this
  · rw [List.pairwise_map]
    unfold SortedR at so
    rw [List.pairwise_map] at so
    refine List.Pairwise.imp_of_mem (fun {a b} ha hb q => ?_) so
    have := (wf.ru a ha).k2
    have := (wf.ru b hb).k2
    omega
  · intro x hx
    obtain ⟨kv, hk, rfl⟩ := List.mem_map.mp hx
    have := (wf.ru kv hk).k2
    have := (wf.ru kv hk).k1
    omega
theorem rules_keys {H : Hp} : ∀ {rs : List ((Nat × Nat) × Rule)} {kvs : List (List Key × V)}, Paired (RuleAt H) rs kvs → kvs.map (·.1) = (rs.map (·.1)).map keyT
  | _, _, .nil => rfl
  | _, _, .cons h t => by rw [List.map_cons, List.map_cons, List.map_cons, rules_keys t, h.1]
theorem nm_get {ws : List Cs} {g : Nat} (h : g < ws.length) : (ws.map sV)[g]? = some (sV (ws.getD g [])) := by
  rw [List.getElem?_map, List.getD_eq_getElem?_getD, List.getElem?_eq_getElem h]
  rfl
theorem line_len {pl : Plan} (wf : WfP pl) : ∀ ws ∈ linesW pl, (lineOf ws).length ≤ 100 := by
  have key : ∀ (ws : List Cs), ws.length ≤ 7 → (∀ w ∈ ws, w.length ≤ 8) → (lineOf ws).length ≤ 100 := by
    intro ws h7 h8
    have h1 := joinL_len [32] ws
    have h2 := sum_le h8
    have h3 : ws.length * 8 ≤ 7 * 8 := Nat.mul_le_mul_right 8 h7
    simp only [List.length_singleton, Nat.mul_one] at h1
    unfold lineOf
    rw [words_join, List.length_append, List.length_singleton]
    omega
  have h4 := wf.s4
  have h6 := wf.m6
  intro ws hws
  rcases List.mem_append.mp hws with h | h
  · simp only [headW, List.mem_cons, List.not_mem_nil, or_false] at h
    rcases h with z | z | z <;> rw [z]
    · refine key _ (by simp) fun w hw => ?_
      simp only [List.mem_cons, List.not_mem_nil, or_false] at hw
      rcases hw with q | q <;> rw [q]
      · decide
      · exact Nat.le_trans (dec_len _) (by decide)
    · refine key _ (by simp; omega) fun w hw => ?_
      rcases List.mem_cons.mp hw with q | q
      · rw [q]; decide
      · exact names_len wf.sN w q
    · refine key _ (by simp; omega) fun w hw => ?_
      rcases List.mem_cons.mp hw with q | q
      · rw [q]; decide
      · exact names_len wf.mN w q
  · obtain ⟨st, hst, rfl⟩ := List.mem_map.mp h
    obtain ⟨_, hw⟩ := stm_words wf st hst
    refine key _ (by cases st <;> simp [stmW]) fun w hw2 => ?_
    rcases hw w hw2 with q | q
    · exact q.2.2
    · exact Nat.le_trans q.2.2.1 (by decide)
theorem lines_few {pl : Plan} (wf : WfP pl) (so : SortedR pl.rules) : (linesW pl).length ≤ 50 := by
  have h1 := rules_few wf so
  have h2 := List.length_filterMap_le (fun t => if 0 < pl.floor.getD t 0 then some (t, pl.floor.getD t 0) else none) (List.range pl.floor.length)
  rw [List.length_range] at h2
  have h3 := wf.r3
  have h4 := wf.n16
  unfold linesW stmsOf putsL
  simp only [List.length_append, List.length_map, headW, List.length_cons, List.length_nil]
  omega
theorem text_len {pl : Plan} (wf : WfP pl) (so : SortedR pl.rules) : (((linesW pl).map lineOf).map (·.length)).sum + (linesW pl).length ≤ 5100 ∧ (textOf pl).length ≤ 6000 := by
  have h1 : (((linesW pl).map lineOf).map (·.length)).sum ≤ ((linesW pl).map lineOf).length * 100 := sum_le fun w hw => by
    obtain ⟨ws, h, rfl⟩ := List.mem_map.mp hw
    exact line_len wf ws h
  have h2 := lines_few wf so
  have h3 := joinL_len [10] ((linesW pl).map lineOf)
  rw [List.length_map] at h1 h3
  simp only [List.length_singleton] at h3
  unfold textOf
  omega
structure LinT (K : PySem.W.Frag) (mg : Str → Option Value) : Prop where
  p : PlaT K mg
  str : mg "str" = none
  sorted : mg "sorted" = none
  lines : DeT K mg "_law_lines" s__law_lines
  text : DeT K mg "_law_text" s__law_text
section
variable {P : Program} {w : World} {K : PySem.W.Frag} {mg : Str → Option Value} {base : Heap}
/-- the rules' dict may have another order -/
def spLinesP : Sp := fun vs H Q _ => ∃ (a : Addr) (pl : Plan) (rs : List ((Nat × Nat) × Rule)), vs = [.ref a] ∧ PlanV H a { pl with rules := rs } ∧ rs.Perm pl.rules ∧ WfP pl ∧ SortedR pl.rules ∧
  ∀ (l : Addr) (H' : Hp), H l = none → Same H H' → H' l = some (.lst ((linesW pl).map lnV)) → Q (.ref l) H'
def spLines : Sp := fun vs H Q _ => ∃ (a : Addr) (pl : Plan), vs = [.ref a] ∧ PlanV H a pl ∧ WfP pl ∧ SortedR pl.rules ∧
  ∀ (l : Addr) (H' : Hp), H l = none → Same H H' → H' l = some (.lst ((linesW pl).map lnV)) → Q (.ref l) H'
abbrev liN : List Str := ["_law_plan_here", "_law_signs", "_law_moods", "_law_floor", "_law_robots", "_law_rules", "_law_lines_here", "_law_tile", "_law_is_right", "_law_mood", "_law_sign", "_law_left", "_law_move", "_law_later", "_law_words"]
theorem sc_lines : FnScope liN ["_law_plan_here"] (defScope s__law_lines) := ⟨rfl, rfl, rfl, by decide +kernel, rfl, by decide +kernel, by decide +kernel⟩
theorem ok_linesP (T : LinT K mg) : FnE P w K mg base CX0 1 ("_law_lines", none) ["_law_plan_here"] spLinesP := by
  obtain ⟨fd, F⟩ := T.lines.d
  refine ⟨fd, F.ok sc_lines (fun vs H Q E h => ?_) (fun cdv A outer s H vs Q E hr h => ?_), F.bindsN fun _ _ _ _ _ _ us hl => match us, hl with | [_], _ => rfl, F.kp⟩
  · obtain ⟨a, pl, rs, rfl, _⟩ := h
    rfl
  · obtain ⟨a, pl, rs, rfl, hP, hpm, wf, so, k⟩ := h
    have hu := hu_of hr
    refine ⟨_, PSs.nox (pss_cons (ps_asg (pv 0)
        (pg_tup rfl (pgs_cons (pg_name (i := 1) sc_lines.nd rfl (.inl rfl)) (pgs_cons (pg_name (i := 2) sc_lines.nd rfl (.inl rfl)) (pgs_cons (pg_name (i := 3) sc_lines.nd rfl (.inl rfl)) (pgs_cons (pg_name (i := 4) sc_lines.nd rfl (.inl rfl)) (pgs_cons (pg_name (i := 5) sc_lines.nd rfl (.inl rfl)) pgs_nil)))))))
      (pss_cons (ps_set (i := 6) sc_lines.nd rfl (.inl rfl) (pe_lst (pa_cons (pe_op op_add_str (pe_op op_add_str pe_str (pe_callTy call_str_int (by rfl) T.str (by decide +kernel) (pa_cons (pe_callB call_len_seq (by rfl) T.p.s.l.len boot_len (pa_cons (pv 3) pa_nil)) pa_nil))) pe_str) (pa_cons (pe_op op_add_str (pe_op op_add_str pe_str (pe_join pe_str (pv 1))) pe_str) (pa_cons (pe_op op_add_str (pe_op op_add_str pe_str (pe_join pe_str (pv 2))) pe_str) pa_nil)))))
      (pss_cons (ps_for PassesOwn.never rfl (pi_tup (pv 4)) (pg_tup rfl (pgs_cons (pg_name (i := 7) sc_lines.nd rfl (.inl rfl)) (pgs_cons (pg_name (i := 8) sc_lines.nd rfl (.inl rfl)) pgs_nil)))
        (pss_one (ps_expr (pe_bm PySem.F.plainAttrs_list PySem.F.slot_list_append PySem.F.type_list_append mt_append (pv 6) (pa_cons (pe_op op_add_str (pe_op op_add_str pe_str (pe_callTy call_str_int (by rfl) T.str (by decide +kernel) (pa_cons (pv 7) pa_nil))) (pe_ifExp (pt_val (pv 8)) pe_str pe_str)) pa_nil)))))
      (pss_cons (ps_for PassesOwn.never rfl (pi_range1 (by rfl) T.p.s.l.range (pa_cons (pe_callB call_len_seq (by rfl) T.p.s.l.len boot_len (pa_cons (pv 3) pa_nil)) pa_nil)) (pg_name (i := 7) sc_lines.nd rfl (.inl rfl))
        (pss_one (ps_if (pt_cmpR op_gt (pe_ix ix_tup (pv 3) (pv 7) (fun _ _ => rfl)) pe_int (nomark _))
          (pss_one (ps_expr (pe_bm PySem.F.plainAttrs_list PySem.F.slot_list_append PySem.F.type_list_append mt_append (pv 6) (pa_cons (pe_op op_add_str (pe_op op_add_str (pe_op op_add_str (pe_op op_add_str pe_str (pe_ix ix_tup (pv 1) (pe_ix ix_tup (pv 3) (pv 7) (fun _ _ => rfl)) (fun _ _ => rfl))) pe_str) (pe_callTy call_str_int (by rfl) T.str (by decide +kernel) (pa_cons (pv 7) pa_nil))) pe_str) pa_nil)))) pss_nil)))
      (pss_cons (ps_for PassesOwn.never rfl (pi_list (pe_callB (cr_sortedDT rfl) (by rfl) T.sorted (by decide +kernel) (pa_cons (pv 5) pa_nil))) (pg_tup rfl (pgs_cons (pg_name (i := 9) sc_lines.nd rfl (.inl rfl)) (pgs_cons (pg_name (i := 10) sc_lines.nd rfl (.inl rfl)) pgs_nil)))
        (pss_cons (ps_asg (pe_dget hu (pv 5) (pe_tup (pa_cons (pv 9) (pa_cons (pv 10) pa_nil))) (fun _ _ => rfl))
          (pg_tup rfl (pgs_cons (pg_name (i := 11) sc_lines.nd rfl (.inl rfl)) (pgs_cons (pg_name (i := 12) sc_lines.nd rfl (.inl rfl)) (pgs_cons (pg_name (i := 13) sc_lines.nd rfl (.inl rfl)) pgs_nil)))))
        (pss_cons (ps_set (i := 14) sc_lines.nd rfl (.inl rfl) (pe_lst (pa_cons pe_str (pa_cons (pe_ix ix_tup (pv 2) (pv 9) (fun _ _ => rfl)) (pa_cons (pe_ix ix_tup (pv 1) (pv 10) (fun _ _ => rfl)) (pa_cons pe_str (pa_cons (pe_ix ix_tup (pv 1) (pv 11) (fun _ _ => rfl)) (pa_cons (pv 12) (pa_cons (pe_ix ix_tup (pv 2) (pv 13) (fun _ _ => rfl)) pa_nil)))))))))
        (pss_one (ps_expr (pe_bm PySem.F.plainAttrs_list PySem.F.slot_list_append PySem.F.type_list_append mt_append (pv 6) (pa_cons (pe_op op_add_str (pe_join pe_str (pv 14)) pe_str) pa_nil)))))))
      (pss_one (ps_ret (pv 6)))))))), ?_⟩
    obtain ⟨sa, ma, fa, ra, rd, ras, e0, e1, e2, e3, e4, e5, kvs, e6, e7⟩ := hP
    replace e1 : TupN H sa (pl.signs.map sV) := e1
    replace e2 : TupN H ma (pl.moods.map sV) := e2
    replace e3 : H fa = some (.tup (pl.floor.map fun n : Nat => V.int n)) := e3
    replace e5 : Paired (RobAt H) ras pl.robots := e5
    replace e7 : Paired (RuleAt H) rs kvs := e7
    refine ⟨_, rfl, a, _, rfl, SqT.of e0, rfl, _, _, rfl, _, _, rfl, _, _, rfl, _, _, rfl, _, _, rfl, rfl, ?_⟩
    have h16 := wf.n16
    have hdn := dec_len pl.floor.length
    have hsl : (pl.signs.map (·.length)).sum ≤ 4 * 8 := Nat.le_trans (sum_le (names_len wf.sN)) (Nat.mul_le_mul_right 8 wf.s4)
    have hml : (pl.moods.map (·.length)).sum ≤ 6 * 8 := Nat.le_trans (sum_le (names_len wf.mN)) (Nat.mul_le_mul_right 8 wf.m6)
    have hs4 := wf.s4
    have hm6 := wf.m6
    refine ⟨_, rfl, fa, _, rfl, .inr (SqT.of e3), _, rfl, ?_⟩
    rw [List.length_map]
    refine ⟨log_small (by omega), ?_⟩
    rw [str_dec (show pl.floor.length < 100 by omega)]
    refine ⟨sx (wCorridor ++ [32]), sx (dec pl.floor.length), (by kernel_rfl), rfl, lenS (by simp [wCorridor]; omega), ?_⟩
    rw [sx_app]
    refine ⟨sx (wCorridor ++ [32] ++ dec pl.floor.length), sx ([59]), rfl, (by kernel_rfl), lenS (by simp [wCorridor]; omega), ?_⟩
    rw [sx_app]
    have lj1 := joinL_len [32] pl.signs
    have lj2 := joinL_len [32] pl.moods
    simp only [List.length_singleton, Nat.mul_one] at lj1 lj2
    refine ⟨⟨_, rfl⟩, _, rfl, sx [32], _, (pl.signs).map sx, (by kernel_rfl), rfl, sqJ (.inr e1.sq), lenJ (by simp only [List.length_singleton]; omega), ?_⟩
    rw [join_sx]
    refine ⟨sx (wSigns ++ [32]), sx (TL.joinL [32] pl.signs), (by kernel_rfl), rfl, lenS (by simp [wSigns]; omega), ?_⟩
    rw [sx_app]
    refine ⟨sx (wSigns ++ [32] ++ TL.joinL [32] pl.signs), sx ([59]), rfl, (by kernel_rfl), lenS (by simp [wSigns]; omega), ?_⟩
    rw [sx_app]
    refine ⟨⟨_, rfl⟩, _, rfl, sx [32], _, (pl.moods).map sx, (by kernel_rfl), rfl, sqJ (.inr e2.sq), lenJ (by simp only [List.length_singleton]; omega), ?_⟩
    rw [join_sx]
    refine ⟨sx (wMoods ++ [32]), sx (TL.joinL [32] pl.moods), (by kernel_rfl), rfl, lenS (by simp [wMoods]; omega), ?_⟩
    rw [sx_app]
    refine ⟨sx (wMoods ++ [32] ++ TL.joinL [32] pl.moods), sx ([59]), rfl, (by kernel_rfl), lenS (by simp [wMoods]; omega), ?_⟩
    rw [sx_app]
    refine ⟨(by show 3 ≤ sizeLine; decide), fun l nl => ?_⟩
    have s1 : Same H (upd H l (.lst ((headW pl.floor.length pl.signs pl.moods).map lnV))) := sameUpd (Same.refl H) nl
    rw [head_lines wf.s1 wf.m1]
    have hl1 := @upd_same H l (.lst ((headW pl.floor.length pl.signs pl.moods).map lnV))
    generalize upd H l (.lst ((headW pl.floor.length pl.signs pl.moods).map lnV)) = H1 at *
    -- robots
    refine ⟨_, rfl, ra, rfl, ⟨_, SqT.of (s1 _ _ e4)⟩, ?_⟩
    refine for_tup (K := K) (a := ra) (xs := ras.map V.ref) (fun i σ H2 => ∃ o7 o8 : Option V, σ = [some (.ref a), some (.ref sa), some (.ref ma), some (.ref fa), some (.ref ra), some (.ref rd), some (.ref l), o7, o8, none, none, none, none, none, none] ∧ Same H H2 ∧
      H2 l = some (.lst ((headW pl.floor.length pl.signs pl.moods ++ (pl.robots.take i).map fun r => stmW pl.signs pl.moods (robS r)).map lnV))) ⟨none, none, rfl, s1, by rw [List.take_zero, List.map_nil, List.append_nil]; exact hl1⟩ (fun i σ H2 _ ⟨_, _, _, sm, _⟩ => SqT.of (sm _ _ e4)) ?_ ?_
    · rintro i x σ H2 hx ⟨o7, o8, rfl, sm, hl2⟩
      rw [List.getElem?_map] at hx
      cases hra : ras[i]? with
      | none => rw [hra] at hx; cases hx
      | some rai =>
        rw [hra] at hx
        cases hx
        obtain ⟨r, hr', hrob⟩ := pairedL e5 hra
        have hrt := wf.rt r (List.mem_of_getElem? hr')
        have hir : i < pl.robots.length := (List.getElem?_eq_some_iff.mp hr').1
        have hr3 := wf.r3
        have dl := dec_len r.1
        refine ⟨rai, _, rfl, SqT.of (sm _ _ hrob), rfl, _, _, rfl, _, _, rfl, rfl, ?_⟩
        refine ⟨_, rfl, .inl ⟨rfl, _, SqL.of hl2⟩, _, rfl, _, rfl, log_small (by omega), ?_⟩
        rw [str_dec (show r.1 < 100 by omega)]
        refine ⟨sx (wRobot ++ [32]), sx (dec r.1), (by kernel_rfl), rfl, lenS (by simp [wRobot]; omega), ?_⟩
        rw [sx_app]
        have et : (pl.robots.take (i + 1)).map (fun r => stmW pl.signs pl.moods (robS r)) = (pl.robots.take i).map (fun r => stmW pl.signs pl.moods (robS r)) ++ [stmW pl.signs pl.moods (robS r)] := by
          rw [List.take_succ, hr', List.map_append]
          rfl
        have hll : ((headW pl.floor.length pl.signs pl.moods ++ (pl.robots.take i).map fun r => stmW pl.signs pl.moods (robS r)).map lnV).length < sizeLine := by
          rw [List.length_map, List.length_append, List.length_map, List.length_take, sizeLine_eq]
          simp [headW]
          omega
        refine ⟨_, rfl, _, rfl, ?_⟩
        cases hb : r.2 with
        | true =>
          refine ⟨sx (wRobot ++ [32] ++ dec r.1), sx (32 :: wRight ++ [59]), rfl, (by kernel_rfl), lenS (by simp [wRobot, wRight]; omega), ?_⟩
          rw [sx_app]
          refine ⟨l, _, _, rfl, rfl, hl2, hll, _, _, rfl, sameUpd sm nl, ?_⟩
          rw [upd_same, et]
          have : lnV (stmW pl.signs pl.moods (robS r)) = V.str (sx (wRobot ++ [32] ++ dec r.1 ++ (32 :: wRight ++ [59]))) := by
            unfold lnV lineOf robS
            rw [words_join, hb]
            simp [stmW, TL.joinL, wayOf]
          rw [snoc_ln this]
        | false =>
          refine ⟨sx (wRobot ++ [32] ++ dec r.1), sx (32 :: wLeft ++ [59]), rfl, (by kernel_rfl), lenS (by simp [wRobot, wLeft]; omega), ?_⟩
          rw [sx_app]
          refine ⟨l, _, _, rfl, rfl, hl2, hll, _, _, rfl, sameUpd sm nl, ?_⟩
          rw [upd_same, et]
          have : lnV (stmW pl.signs pl.moods (robS r)) = V.str (sx (wRobot ++ [32] ++ dec r.1 ++ (32 :: wLeft ++ [59]))) := by
            unfold lnV lineOf robS
            rw [words_join, hb]
            simp [stmW, TL.joinL, wayOf]
          rw [snoc_ln this]
    rintro σ H2 ⟨o7, o8, rfl, s2, hl2⟩
    rw [List.length_map, e5.length, List.take_length] at hl2
    generalize hA : headW pl.floor.length pl.signs pl.moods ++ pl.robots.map (fun r => stmW pl.signs pl.moods (robS r)) = LA at hl2
    have hLA : LA.length ≤ 6 := by
      rw [← hA, List.length_append, List.length_map]
      have := wf.r3
      simp [headW]
      omega
    -- puts
    refine ⟨_, rfl, fa, _, rfl, .inr (SqT.of (s2 _ _ e3)), ?_⟩
    refine ⟨_, rfl, by rw [List.length_map]; omega, by rw [List.length_map]; omega, ?_⟩
    refine for_range (lo := 0) (n := ((pl.floor.map fun n : Nat => V.int n).length : Int).toNat) (fun i σ H3 => ∃ o7 : Option V, σ = [some (.ref a), some (.ref sa), some (.ref ma), some (.ref fa), some (.ref ra), some (.ref rd), some (.ref l), o7, o8, none, none, none, none, none, none] ∧ Same H H3 ∧
      H3 l = some (.lst ((LA ++ ((List.range i).filterMap (fun t => if 0 < pl.floor.getD t 0 then some (t, pl.floor.getD t 0) else none)).map fun q => stmW pl.signs pl.moods (putS q)).map lnV))) ⟨o7, rfl, s2, by rw [List.range_zero, List.filterMap_nil, List.map_nil, List.append_nil]; exact hl2⟩ ?_ ?_
    · rintro i σ H3 hi ⟨o7, rfl, sm, hl3⟩
      rw [Int.toNat_natCast, List.length_map] at hi
      have hg : (pl.floor.map fun n : Nat => V.int n)[i]? = some (.int (pl.floor.getD i 0 : Nat)) := by
        rw [List.getElem?_map, List.getD_eq_getElem?_getD, List.getElem?_eq_getElem hi]
        rfl
      have hgs : pl.floor.getD i 0 < pl.signs.length := by
        rw [List.getD_eq_getElem?_getD, List.getElem?_eq_getElem hi]
        exact wf.fl _ (List.getElem_mem hi)
      have ez : (0 : Int) + (i : Nat) = (i : Nat) := by omega
      rw [ez]
      refine ⟨_, rfl, _, rfl, fa, _, _, _, rfl, rfl, SqT.of (sm _ _ e3), atI_nat hg, _, _, rfl, rfl, _, rfl, ?_⟩
      refine ite2 (fun h => ?_) (fun h => ?_)
      · have h0 : 0 < pl.floor.getD i 0 := by
          have := of_decide_eq_true h
          omega
        have hsg : (pl.signs.map sV)[pl.floor.getD i 0]? = some (sV (pl.signs.getD (pl.floor.getD i 0) [])) := by
          rw [List.getElem?_map, List.getD_eq_getElem?_getD (l := pl.signs), List.getElem?_eq_getElem hgs]
          rfl
        have hs8 : (pl.signs.getD (pl.floor.getD i 0) []).length ≤ 8 := names_len wf.sN _ (getD_in hgs)
        have hsa := e1.mono (fun o z => sm _ _ z)
        have dl := dec_len i
        refine ⟨_, rfl, .inl ⟨rfl, _, SqL.of hl3⟩, _, rfl, _, rfl, _, rfl, fa, _, _, _, rfl, rfl, SqT.of (sm _ _ e3), atI_nat hg, sa, _, _, _, rfl, rfl, hsa.sq, atI_nat hsg, ?_⟩
        generalize hgg : pl.floor.getD i 0 = g at *
        refine ⟨sx (wPut ++ [32]), sx (pl.signs.getD g []), (by kernel_rfl), rfl, lenS (by simp [wPut] at hs8 ⊢; omega), ?_⟩
        rw [sx_app]
        refine ⟨sx (wPut ++ [32] ++ pl.signs.getD g []), sx [32], rfl, (by kernel_rfl), lenS (by simp [wPut] at hs8 ⊢; omega), ?_⟩
        rw [sx_app]
        refine ⟨_, rfl, _, rfl, log_small (by omega), ?_⟩
        rw [str_dec (show i < 100 by omega)]
        refine ⟨sx (wPut ++ [32] ++ pl.signs.getD g [] ++ [32]), sx (dec i), rfl, rfl, lenS (by simp [wPut] at hs8 ⊢; omega), ?_⟩
        rw [sx_app]
        refine ⟨sx (wPut ++ [32] ++ pl.signs.getD g [] ++ [32] ++ dec i), sx [59], rfl, (by kernel_rfl), lenS (by simp [wPut] at hs8 ⊢; omega), ?_⟩
        rw [sx_app]
        have hfl := List.length_filterMap_le (fun t => if 0 < pl.floor.getD t 0 then some (t, pl.floor.getD t 0) else none) (List.range i)
        rw [List.length_range] at hfl
        refine ⟨l, _, _, rfl, rfl, hl3, ?_, _, rfl, sameUpd sm nl, ?_⟩
        · rw [List.length_map, List.length_append, List.length_map, sizeLine_eq]
          omega
        · have : lnV (stmW pl.signs pl.moods (putS (i, g))) = V.str (sx (wPut ++ [32] ++ pl.signs.getD g [] ++ [32] ++ dec i ++ [59])) := by
            unfold lnV lineOf putS
            rw [words_join]
            simp [stmW, TL.joinL]
          rw [upd_same, put_range, hgg, if_pos h0, snoc_lf (f := fun q => stmW pl.signs pl.moods (putS q)) this]
      · have h0 : ¬ 0 < pl.floor.getD i 0 := by
          have := of_decide_eq_false (Bool.eq_false_iff.mpr h)
          omega
        refine ⟨_, rfl, sm, ?_⟩
        rw [put_range, if_neg h0, List.append_nil]
        exact hl3
    rintro σ H3 ⟨o7', rfl, s3, hl3⟩
    rw [Int.toNat_natCast, List.length_map] at hl3
    have hLB : (LA ++ (putsL pl.floor).map fun q => stmW pl.signs pl.moods (putS q)).length ≤ 30 := by
      have hfl := List.length_filterMap_le (fun t => if 0 < pl.floor.getD t 0 then some (t, pl.floor.getD t 0) else none) (List.range pl.floor.length)
      rw [List.length_range] at hfl
      rw [List.length_append, List.length_map]
      unfold putsL
      omega
    replace hl3 : H3 l = some (.lst ((LA ++ (putsL pl.floor).map fun q => stmW pl.signs pl.moods (putS q)).map lnV)) := hl3
    generalize hB : LA ++ (putsL pl.floor).map (fun q => stmW pl.signs pl.moods (putS q)) = LB at hl3 hLB
    -- rules
    have hru := rules_few wf so
    refine ⟨_, rfl, rd, kvs, rs.map (·.1), rfl, Rd.of (s3 _ _ e6), rules_keys e7, fun ys bs p hperm hso hpair np => ?_⟩
    obtain rfl := perm_sorted (hperm.trans (hpm.map _)) hso so.le
    have s4 := sameUpd (o := .lst (bs.map V.ref)) (Same.refl H3) np
    have hp4 := @upd_same H3 p (.lst (bs.map V.ref))
    have hpl : p ≠ l := fun z => by rw [z, hl3] at np; cases np
    replace hl3 := s4 _ _ hl3
    have np0 : H p = none := s3.free np
    replace s3 := s3.trans s4
    have hpair : Paired (PairAt (upd H3 p (.lst (bs.map V.ref)))) bs (pl.rules.map (·.1)) := Paired.mapP hpair fun _ _ q => s4 _ _ q
    generalize upd H3 p (.lst (bs.map V.ref)) = H4 at *
    refine ⟨p, rfl, ⟨_, SqL.of hp4⟩, ?_⟩
    refine for_list (K := K) (a := p) (xs := bs.map V.ref) (fun i σ H5 => ∃ o9 o10 o11 o12 o13 o14 : Option V, σ = [some (.ref a), some (.ref sa), some (.ref ma), some (.ref fa), some (.ref ra), some (.ref rd), some (.ref l), o7', o8, o9, o10, o11, o12, o13, o14] ∧ Same (cutH H4 [l]) H5 ∧
      H5 l = some (.lst ((LB ++ (pl.rules.take i).map fun r => stmW pl.signs pl.moods (rulS r)).map lnV))) ⟨none, none, none, none, none, none, rfl, cutH_same, by rw [List.take_zero, List.map_nil, List.append_nil]; exact hl3⟩
      (fun i σ H5 _ ⟨_, _, _, _, _, _, _, sm, _⟩ => SqL.of (sm _ _ (by rw [cutH_out (by simpa using hpl)]; exact hp4))) ?_ ?_
    · rintro i x σ H5 hx ⟨o9, o10, o11, o12, o13, o14, rfl, sm, hl5⟩
      have up : ∀ b o, b ≠ l → H4 b = some o → H5 b = some o := fun b o hb e => sm _ _ (by rw [cutH_out (by simpa using hb)]; exact e)
      rw [List.getElem?_map] at hx
      cases hbi : bs[i]? with
      | none => rw [hbi] at hx; cases hx
      | some bi =>
        rw [hbi] at hx
        cases hx
        obtain ⟨ky, hky, hpr⟩ := pairedL hpair hbi
        rw [List.getElem?_map] at hky
        cases hri : pl.rules[i]? with
        | none => rw [hri] at hky; cases hky
        | some kv =>
          rw [hri] at hky
          cases hky
          have hmem := List.mem_of_getElem? hri
          have rk := wf.ru kv hmem
          have hir : i < pl.rules.length := (List.getElem?_eq_some_iff.mp hri).1
          have nel : ∀ {b : Addr} {o : HO}, H b = some o → b ≠ l := fun e z => by rw [z, nl] at e; cases e
          have bil : bi ≠ l := fun z => by
            have q : H4 bi = _ := hpr
            rw [z, hl3] at q
            cases q
          refine ⟨bi, _, rfl, SqT.of (up _ _ bil hpr), rfl, _, _, rfl, _, _, rfl, rfl, ?_⟩
          refine ⟨_, rfl, _, rfl, _, rfl, (by show 2 ≤ sizeLine; decide), fun t nt => ?_⟩
          have s6 := sameUpd (o := .tup [.int kv.1.1, .int kv.1.2]) (Same.refl H5) nt
          have ht := @upd_same H5 t (.tup [.int kv.1.1, .int kv.1.2])
          have sm6 := sm.trans s6
          replace hl5 := s6 _ _ hl5
          replace up : ∀ b o, b ≠ l → H4 b = some o → (upd H5 t (.tup [.int kv.1.1, .int kv.1.2])) b = some o := fun b o hb e => s6 _ _ (up b o hb e)
          generalize upd H5 t (.tup [.int kv.1.1, .int kv.1.2]) = H6 at *
          have e7' : Paired (RuleAt H6) rs kvs := Paired.mapP e7 fun _ _ q => q.mono fun b xs z => up _ _ (nel z) (s3 _ _ z)
          obtain ⟨tv, hv1, hv2⟩ := (rules_get (k := kv.1) e7').2 kv.2 (getA_mem ((hpm.map _).nodup_iff.mpr wf.rn) (hpm.mem_iff.mpr hmem))
          refine ⟨rd, .ref tv, rfl, by rw [← hv1]; exact DGet.t (k := keyT kv.1) (up _ _ (nel e6) (s3 _ _ e6)) ht, ?_⟩
          refine ⟨tv, _, rfl, SqT.of hv2, rfl, _, _, rfl, _, _, rfl, _, _, rfl, rfl, ?_⟩
          have hma : TupN H6 ma (pl.moods.map sV) := e2.mono fun o z => up _ _ (nel z) (s3 _ _ z)
          have hsa : TupN H6 sa (pl.signs.map sV) := e1.mono fun o z => up _ _ (nel z) (s3 _ _ z)
          refine ⟨_, rfl, _, rfl, ma, _, _, _, rfl, rfl, hma.sq, atI_nat (nm_get rk.k1), _, rfl, _, rfl, sa, _, _, _, rfl, rfl, hsa.sq, atI_nat (nm_get rk.k2), _, rfl, _, rfl, sa, _, _, _, rfl, rfl, hsa.sq, atI_nat (nm_get rk.l), _, rfl, _, rfl, _, rfl, ma, _, _, _, rfl, rfl, hma.sq, atI_nat (nm_get rk.la), ?_⟩
          refine ⟨(by show 7 ≤ sizeLine; decide), fun wl nwl => ?_⟩
          have e8 : [V.str (Str.ofString "when"), sV (pl.moods.getD kv.1.1 []), sV (pl.signs.getD kv.1.2 []), V.str (Str.ofString "leave"), sV (pl.signs.getD kv.2.left []), sV kv.2.move, sV (pl.moods.getD kv.2.later [])] = (stmW pl.signs pl.moods (rulS kv)).map sV := by
            show _ = [sV wWhen, sV (pl.moods.getD kv.1.1 []), sV (pl.signs.getD kv.1.2 []), sV wLeave, sV (pl.signs.getD kv.2.left []), sV kv.2.move, sV (pl.moods.getD kv.2.later [])]
            congr 1
          rw [e8]
          have s7 := sameUpd (o := .lst ((stmW pl.signs pl.moods (rulS kv)).map sV)) (Same.refl H6) nwl
          have hwl := @upd_same H6 wl (.lst ((stmW pl.signs pl.moods (rulS kv)).map sV))
          have sm7 := sm6.trans s7
          replace hl5 := s7 _ _ hl5
          generalize upd H6 wl (.lst ((stmW pl.signs pl.moods (rulS kv)).map sV)) = H7 at *
          have l8 : ∀ w ∈ stmW pl.signs pl.moods (rulS kv), w.length ≤ 8 := by
            have hmv : ∀ m ∈ moves, m.length ≤ 8 := by decide +kernel
            intro w hw
            have hw' : w = wWhen ∨ w = pl.moods.getD kv.1.1 [] ∨ w = pl.signs.getD kv.1.2 [] ∨ w = wLeave ∨ w = pl.signs.getD kv.2.left [] ∨ w = kv.2.move ∨ w = pl.moods.getD kv.2.later [] := by simpa [rulS, stmW] using hw
            rcases hw' with z | z | z | z | z | z | z <;> rw [z]
            · decide
            · exact names_len wf.mN _ (getD_in rk.k1)
            · exact names_len wf.sN _ (getD_in rk.k2)
            · decide
            · exact names_len wf.sN _ (getD_in rk.l)
            · exact hmv _ rk.mv
            · exact names_len wf.mN _ (getD_in rk.la)
          have ls := sum_le l8
          have l7 : (stmW pl.signs pl.moods (rulS kv)).length = 7 := rfl
          rw [l7] at ls
          have lj := joinL_len [32] (stmW pl.signs pl.moods (rulS kv))
          rw [l7] at lj
          simp only [List.length_singleton] at lj
          refine ⟨_, rfl, .inl ⟨rfl, _, SqL.of hl5⟩, ⟨_, rfl⟩, _, rfl, sx [32], wl, (stmW pl.signs pl.moods (rulS kv)).map sx, (by kernel_rfl), rfl, sqJ (.inl (SqL.of hwl)), lenJ (by rw [l7]; simp only [List.length_singleton]; omega), ?_⟩
          rw [join_sx]
          refine ⟨sx (TL.joinL [32] (stmW pl.signs pl.moods (rulS kv))), sx [59], rfl, (by kernel_rfl), lenS (by simp only [List.length_singleton]; omega), ?_⟩
          rw [sx_app]
          refine ⟨l, _, _, rfl, rfl, hl5, ?_, _, _, _, _, _, _, rfl, cutS sm7 (by simp), ?_⟩
          · rw [List.length_map, List.length_append, List.length_map, List.length_take, sizeLine_eq]
            omega
          · have : lnV (stmW pl.signs pl.moods (rulS kv)) = V.str (sx (TL.joinL [32] (stmW pl.signs pl.moods (rulS kv)) ++ [59])) := by
              unfold lnV lineOf
              rw [words_join]
            have et : (pl.rules.take (i + 1)) = pl.rules.take i ++ [kv] := by
              rw [List.take_succ, hri]
              rfl
            rw [upd_same, et, snoc_lf (f := fun r => stmW pl.signs pl.moods (rulS r)) this]
    rintro σ H5 ⟨o9, o10, o11, o12, o13, o14, rfl, sm, hl5⟩
    have hbl : bs.length = pl.rules.length := by rw [hpair.length, List.length_map]
    rw [List.length_map, hbl, List.take_length] at hl5
    refine ⟨_, rfl, k l H5 nl (fun b o e => sm _ _ ?_) ?_⟩
    · rw [cutH_out]
      · exact s3 _ _ e
      · intro z
        rw [List.mem_singleton.mp z, nl] at e
        cases e
    · rw [hl5, ← hB, ← hA]
      unfold linesW stmsOf
      simp [List.append_assoc, Function.comp_def]
/-! ### _law_text -/
theorem ok_lines (T : LinT K mg) : FnE P w K mg base CX0 1 ("_law_lines", none) ["_law_plan_here"] spLines := by
  obtain ⟨fd, G, b, k⟩ := ok_linesP (P := P) (w := w) (base := base) T
  exact ⟨fd, G.imp fun vs H Q E ⟨a, pl, e, hP, wf, so, k⟩ => ⟨a, pl, pl.rules, e, hP, .refl _, wf, so, k⟩, b, k⟩
def spTextP : Sp := fun vs H Q _ => ∃ (a : Addr) (pl : Plan) (rs : List ((Nat × Nat) × Rule)), vs = [.ref a] ∧ PlanV H a { pl with rules := rs } ∧ rs.Perm pl.rules ∧ WfP pl ∧ SortedR pl.rules ∧ ∀ H' : Hp, Same H H' → Q (sV (textOf pl)) H'
def spText : Sp := fun vs H Q _ => ∃ (a : Addr) (pl : Plan), vs = [.ref a] ∧ PlanV H a pl ∧ WfP pl ∧ SortedR pl.rules ∧ ∀ H' : Hp, Same H H' → Q (sV (textOf pl)) H'
theorem sc_text : FnScope ["_law_plan_here"] ["_law_plan_here"] (defScope s__law_text) := ⟨rfl, rfl, rfl, by decide +kernel, rfl, by decide +kernel, by decide +kernel⟩
theorem ok_textP (T : LinT K mg) : FnE P w K mg base CX0 2 ("_law_text", none) ["_law_plan_here"] spTextP := by
  obtain ⟨fd, F⟩ := T.text.d
  obtain ⟨fdL, GL, bL, kL⟩ := ok_linesP (P := P) (w := w) (base := base) T
  refine ⟨fd, F.ok sc_text (fun vs H Q E h => ?_) (fun cdv A outer s H vs Q E hr h => ?_), F.bindsN fun _ _ _ _ _ _ us hl => match us, hl with | [_], _ => rfl, F.kp⟩
  · obtain ⟨a, pl, rs, rfl, _⟩ := h
    rfl
  · obtain ⟨a, pl, rs, rfl, hP, hpm, wf, so, k⟩ := h
    refine ⟨_, PSs.nox (pss_one (ps_ret (pe_join pe_str (pe_call GL hr rfl T.lines.g kL bL .nil pass0 (pa_cons (pv 0) pa_nil))))), ?_⟩
    obtain ⟨t1, t2⟩ := text_len wf so
    refine ⟨⟨_, rfl⟩, _, rfl, a, pl, rs, rfl, hP, hpm, wf, so, fun l H' nl sm hl => ?_⟩
    have e : (linesW pl).map lnV = (((linesW pl).map lineOf).map sx).map V.str := by rw [List.map_map, List.map_map]; rfl
    rw [e] at hl
    refine ⟨sx [10], l, ((linesW pl).map lineOf).map sx, (by kernel_rfl), rfl, .inl (SqL.of hl), lenJ (by rw [List.length_map]; simp only [List.length_singleton]; omega), ?_⟩
    rw [join_sx]
    exact k H' sm
theorem ok_text (T : LinT K mg) : FnE P w K mg base CX0 2 ("_law_text", none) ["_law_plan_here"] spText := by
  obtain ⟨fd, G, b, k⟩ := ok_textP (P := P) (w := w) (base := base) T
  exact ⟨fd, G.imp fun vs H Q E ⟨a, pl, e, hP, wf, so, k⟩ => ⟨a, pl, pl.rules, e, hP, .refl _, wf, so, k⟩, b, k⟩
end
end Sw

end

section
set_option maxRecDepth 100000
set_option maxHeartbeats 4000000
/-! data: what may be compared -/
namespace Sw
open PySem PySem.Spec PyProof.Rows L2 SwA
def ShD (n : Nat) (d : PyData) : Prop := d.canLay0 = true ∧ d.depth ≤ n
theorem ShD.mono {n m : Nat} {d : PyData} (h : ShD n d) (hl : n ≤ m) : ShD m d := ⟨h.1, Nat.le_trans h.2 hl⟩
theorem shd_all {n : Nat} : ∀ {ds : List PyData}, (∀ d ∈ ds, ShD n d) → PyData.canLayAll0 ds = true ∧ PyData.depthAll ds ≤ n
  | [], _ => ⟨rfl, by simp [PyData.depthAll]⟩
  | d :: ds, h => by
    have h1 := h d List.mem_cons_self
    have h2 := shd_all (ds := ds) fun x hx => h x (List.mem_cons_of_mem _ hx)
    refine ⟨?_, ?_⟩
    · rw [PyData.canLayAll0, h1.1, h2.1]; rfl
    · rw [PyData.depthAll]
      have := h1.2
      have := h2.2
      omega
theorem shd_list {n : Nat} {ds : List PyData} (h : ∀ d ∈ ds, ShD n d) : ShD (n + 1) (.list ds) := by
  have h2 := shd_all h
  refine ⟨by rw [PyData.canLay0]; exact h2.1, ?_⟩
  rw [PyData.depth]
  have := h2.2
  omega
theorem shd_tuple {n : Nat} {ds : List PyData} (h : ∀ d ∈ ds, ShD n d) : ShD (n + 1) (.tuple ds) := by
  have h2 := shd_all h
  refine ⟨by rw [PyData.canLay0]; exact h2.1, ?_⟩
  rw [PyData.depth]
  have := h2.2
  omega
theorem shd_int (i : Int) : ShD 1 (.int i) := ⟨by rw [PyData.canLay0], by rw [PyData.depth]; decide⟩
theorem shd_bool (i : Bool) : ShD 1 (.bool i) := ⟨by rw [PyData.canLay0], by rw [PyData.depth]; decide⟩
theorem shd_none : ShD 1 .none := ⟨by rw [PyData.canLay0], by rw [PyData.depth]; decide⟩
theorem shd_str {x : Str} (h : x.cps.all (· < 0x110000) = true) : ShD 1 (.str x) := ⟨by rw [PyData.canLay0]; exact h, by rw [PyData.depth]; decide⟩
theorem shd_sx {cs : Cs} (h : ∀ c ∈ cs, c < 0x110000) : ShD 1 (.str (sx cs)) := shd_str (by
  rw [← Array.all_toList]
  simpa [sx] using h)
theorem shd_nm {cs : Cs} (h : ∀ c ∈ cs, isL c = true) : ShD 1 (.str (sx cs)) := shd_sx fun c hc => by
  have := h c hc
  unfold isL at this
  rw [Bool.and_eq_true, Nat.ble_eq, Nat.ble_eq] at this
  omega
theorem ShD.shaped {n : Nat} {d : PyData} (h : ShD n d) (hn : n ≤ 64) : SeqAt.shaped d = true := Bool.and_eq_true_iff.mpr ⟨h.1, decide_eq_true (Nat.le_trans h.2 hn)⟩
theorem ShD.eqv {n : Nat} {d : PyData} (h : ShD n d) : PyData.eqv d d = true := SeqAt.eqv_refl _ h.1
end Sw

end

section
set_option maxRecDepth 100000
set_option maxHeartbeats 4000000
/-! tuples and lists of numbers and of names, as data -/
namespace Sw
open PySem PySem.Spec PyProof.Rows L2 SwA
/-- a number or None -/
abbrev oV (r : Option Nat) : V := match r with
  | some u => .int u
  | none => .non
abbrev natsD (l : List Nat) : List PyData := l.map fun n : Nat => PyData.int n
abbrev strsD (l : List Cs) : List PyData := l.map fun z => PyData.str (sx z)
theorem dpa_nats {K : PySem.W.Frag} {H : Hp} : ∀ l : List Nat, DpAll K H (l.map fun n : Nat => V.int n) (natsD l)
  | [] => .nil
  | _ :: l => .cons (.int _) (dpa_nats l)
theorem dpa_strs {K : PySem.W.Frag} {H : Hp} : ∀ l : List Cs, DpAll K H (l.map sV) (strsD l)
  | [] => .nil
  | _ :: l => .cons (.str _) (dpa_strs l)
theorem sh_nats (l : List Nat) : ShD 2 (.tuple (natsD l)) := shd_tuple fun d hd => by
  obtain ⟨n, _, rfl⟩ := List.mem_map.mp hd
  exact shd_int _
theorem sh_natsL (l : List Nat) : ShD 2 (.list (natsD l)) := shd_list fun d hd => by
  obtain ⟨n, _, rfl⟩ := List.mem_map.mp hd
  exact shd_int _
theorem eqvA_nats : ∀ xs ys : List Nat, PyData.eqvAll (natsD xs) (natsD ys) = decide (xs = ys)
  | [], [] => by simp [PyData.eqvAll]
  | [], _ :: _ => by simp [PyData.eqvAll]
  | _ :: _, [] => by simp [PyData.eqvAll]
  | x :: xs, y :: ys => by
    have ih := eqvA_nats xs ys
    simp only [List.map_cons, PyData.eqvAll, PyData.eqv] at ih ⊢
    rw [ih]
    by_cases h : x = y
    · subst h
      by_cases h2 : xs = ys
      · simp [h2]
      · simp [h2]
    · have : ((x : Int) == (y : Int)) = false := by simp; omega
      simp [this, h]
theorem eqv_nats (xs ys : List Nat) : PyData.eqv (.tuple (natsD xs)) (.tuple (natsD ys)) = decide (xs = ys) := by
  rw [PyData.eqv]
  exact eqvA_nats xs ys
theorem eqv_natsL (xs ys : List Nat) : PyData.eqv (.list (natsD xs)) (.list (natsD ys)) = decide (xs = ys) := by
  rw [PyData.eqv]
  exact eqvA_nats xs ys
end Sw

end

section
set_option maxRecDepth 100000
set_option maxHeartbeats 4000000
/-! plain things and tuples of plain things, as data -/
namespace Sw
open PySem PySem.Spec PyProof.Rows L2 SwA
inductive FlD : V → PyData → Prop
  | non : FlD .non .none
  | bl (b : Bool) : FlD (.bl b) (.bool b)
  | int (i : Int) : FlD (.int i) (.int i)
  | str (x : Str) : FlD (.str x) (.str x)
theorem FlD.dp {K : PySem.W.Frag} {H : Hp} {v : V} {d : PyData} (h : FlD v d) : Dp K H v d := by
  cases h
  · exact .non
  · exact .bl _
  · exact .int _
  · exact .str _
/-- a plain thing, or a tuple of such -/
def ElD (H : Hp) (v : V) (d : PyData) : Prop := FlD v d ∨ ∃ (a : Addr) (xs : List V) (ds : List PyData), v = .ref a ∧ H a = some (.tup xs) ∧ d = .tuple ds ∧ Paired FlD xs ds
theorem ElD.keep {H H' : Hp} (s : ∀ a xs, H a = some (.tup xs) → H' a = some (.tup xs)) {v : V} {d : PyData} (h : ElD H v d) : ElD H' v d := h.elim .inl fun ⟨a, xs, ds, e1, e2, e3, e4⟩ => .inr ⟨a, xs, ds, e1, s _ _ e2, e3, e4⟩
theorem dpa_fl {K : PySem.W.Frag} {H : Hp} : ∀ {vs : List V} {ds : List PyData}, Paired FlD vs ds → DpAll K H vs ds
  | _, _, .nil => .nil
  | _, _, .cons h t => .cons h.dp (dpa_fl t)
theorem ElD.dp {K : PySem.W.Frag} {H : Hp} {v : V} {d : PyData} (h : ElD H v d) : Dp K H v d := by
  rcases h with h | ⟨a, xs, ds, rfl, e2, rfl, e4⟩
  · exact h.dp
  · exact .tup (SqT.of e2) (dpa_fl e4)
theorem dpa_el {K : PySem.W.Frag} {H : Hp} : ∀ {vs : List V} {ds : List PyData}, Paired (ElD H) vs ds → DpAll K H vs ds
  | _, _, .nil => .nil
  | _, _, .cons h t => .cons h.dp (dpa_el t)
theorem el_nats {H : Hp} : ∀ l : List Nat, Paired (ElD H) (l.map fun n : Nat => V.int n) (natsD l)
  | [] => .nil
  | _ :: l => .cons (.inl (.int _)) (el_nats l)
theorem el_strs {H : Hp} : ∀ l : List Cs, Paired (ElD H) (l.map sV) (strsD l)
  | [] => .nil
  | _ :: l => .cons (.inl (.str _)) (el_strs l)
theorem el_app {H : Hp} : ∀ {a : List V} {b : List PyData} {c : List V} {d : List PyData}, Paired (ElD H) a b → Paired (ElD H) c d → Paired (ElD H) (a ++ c) (b ++ d)
  | _, _, _, _, .nil, h => h
  | _, _, _, _, .cons x t, h => .cons x (el_app t h)
abbrev oD (r : Option Nat) : PyData := match r with
  | some u => .int u
  | none => .none
theorem fl_oV (r : Option Nat) : FlD (oV r) (oD r) := by
  cases r
  · exact .non
  · exact .int _
end Sw

end

section
set_option maxRecDepth 100000
set_option maxHeartbeats 4000000
/-! sorted(d), sorted(l) of tuples of plain things, as data -/
namespace Sw
open PySem PySem.Spec PyProof.Rows L2 SwA
abbrev tupE (enc : Addr → List PyData) : Addr → PyData := fun a => .tuple (enc a)
/-- the order of data -/
abbrev srtD (enc : Addr → List PyData) (xs : List Addr) : List Addr := xs.mergeSort (PySem.W.dataLe false (tupE enc))
/-- tuples at these places, all of one form -/
def TupsD (H : Hp) (enc : Addr → List PyData) (bs : List Addr) : Prop := (∀ b ∈ bs, ∃ xs, H b = some (.tup xs) ∧ Paired FlD xs (enc b) ∧ (∃ x r, enc b = x :: r) ∧ (enc b).length ≤ 8) ∧ ∀ a ∈ bs, ∀ b ∈ bs, PySem.W.alikeAll (enc a) (enc b) = true
theorem srt_perm (enc : Addr → List PyData) (xs : List Addr) : (srtD enc xs).Perm xs := List.mergeSort_perm _ _
theorem srt_id {enc : Addr → List PyData} {xs : List Addr} (h : xs.Pairwise fun a b => PySem.W.dataLe false (tupE enc) a b = true) : srtD enc xs = xs := List.mergeSort_of_pairwise h
theorem read_fl {h : Heap} {v : V} {d : PyData} {u : Value} (hk : FlD v d) (r1 : RelV v u) : Reads h u d [] := by
  cases hk with
  | non => cases r1; exact .none
  | bl b => cases r1; exact .bool b
  | int i => obtain ⟨t, rfl⟩ := r1; exact .int i t
  | str x => obtain ⟨t, rfl⟩ := r1; exact .str x t
theorem reads_fl {h : Heap} : ∀ {xs : List V} {ds : List PyData} {us : List Value}, Paired FlD xs ds → Vals xs us → ReadsAll h us ds []
  | _, _, _, .nil, r => by cases r; exact .nil
  | _, _, _, .cons hk t, r => by
    cases r with
    | cons r1 r2 => exact ReadsAll.cons (read_fl hk r1) (reads_fl (h := h) t r2)
theorem reads_tup {X : Cx} {pins : List (Addr × Obj)} {σ : L2.St} {H : Hp} {s : Shared} (I : Inv X pins σ H s) {b : Addr} {xs : List V} {ds : List PyData} (hb : H b = some (.tup xs)) (hx : Paired FlD xs ds) : Reads s.heap (.ref b) (.tuple ds) [] := by
  obtain ⟨_, its, rl, o, h1, h2, n, h3⟩ := (show ObjOk X.prog X.w H s.heap b (.tup xs) from I.hok b _ hb)
  exact .tuple h1 h2 h3 (by simpa using reads_fl hx rl)
theorem each_ref : ∀ bs : List Addr, PySem.W.EachIs (fun (v : Value) (b : Addr) => v = Value.ref b) (bs.map Value.ref) bs
  | [] => .nil
  | _ :: bs => .cons rfl (each_ref bs)
theorem each_of_all {R : Value → Addr → Prop} : ∀ {bs : List Addr}, (∀ b ∈ bs, R (Value.ref b) b) → PySem.W.EachIs R (bs.map Value.ref) bs
  | [], _ => .nil
  | b :: bs, h => .cons (h b List.mem_cons_self) (each_of_all fun c hc => h c (List.mem_cons_of_mem _ hc))
theorem out_ref : ∀ {out : List Value} {bs : List Addr}, PySem.W.EachIs (fun (v : Value) (b : Addr) => v = Value.ref b) out bs → out = bs.map Value.ref
  | _, _, .nil => rfl
  | _, _, .cons h t => by rw [h, out_ref t]; rfl
theorem depth_fl : ∀ {xs : List V} {ds : List PyData}, Paired FlD xs ds → PyData.depthAll ds ≤ 1
  | _, _, .nil => by simp [PyData.depthAll]
  | _, _, .cons h t => by
    have := depth_fl t
    rw [PyData.depthAll]
    have h1 : ∀ {v : V} {d : PyData}, FlD v d → d.depth ≤ 1 := fun h => by cases h <;> simp [PyData.depth]
    have := h1 h
    omega
theorem TupsD.al {H : Hp} {enc : Addr → List PyData} {bs : List Addr} (h : TupsD H enc bs) : PySem.W.AllAlike (bs.map (tupE enc)) := by
  intro d hd d' hd'
  obtain ⟨b, hb, rfl⟩ := List.mem_map.mp hd
  obtain ⟨b', hb', rfl⟩ := List.mem_map.mp hd'
  exact h.2 b hb b' hb'
theorem TupsD.so {H : Hp} {enc : Addr → List PyData} {bs : List Addr} (h : TupsD H enc bs) : PySem.W.Sortable (bs.map (tupE enc)) := .inl fun d hd => by
  obtain ⟨b, hb, rfl⟩ := List.mem_map.mp hd
  obtain ⟨_, _, _, ⟨x, r, e⟩, _⟩ := h.1 b hb
  exact ⟨x, r, by show PyData.tuple (enc b) = _; rw [e]⟩
theorem TupsD.dep {H : Hp} {enc : Addr → List PyData} {bs : List Addr} (h : TupsD H enc bs) : ∀ b ∈ bs, (tupE enc b).depth ≤ 2 := fun b hb => by
  obtain ⟨_, _, hx, _⟩ := h.1 b hb
  have := depth_fl hx
  show (PyData.tuple (enc b)).depth ≤ 2
  rw [PyData.depth]
  omega
def rSortedDN (P : Program) (w : World) : List V → Hp → VK → Prop := fun vs H Q => ∃ (d : Addr) (kvs : List KvN) (enc : Addr → List PyData), vs = [.ref d] ∧ DictN P w H d kvs ∧ TupsD H enc (kvs.map (·.2.1)) ∧
  ∀ (p : Addr), H p = none → Q (.ref p) (upd H p (.lst ((srtD enc (kvs.map (·.2.1))).map V.ref)))
theorem relN_keys : ∀ {kvs : List KvN} {xs : List (NestedKey × Addr × Value)}, RelN kvs xs → xs.map (fun x => x.2.1) = kvs.map (fun x => x.2.1)
  | _, _, .nil => rfl
  | _, _, .cons h t => by rw [List.map_cons, List.map_cons, relN_keys t, h.2.1]
theorem cr_sortedDN {X : Cx} {P : Program} {w : World} (hP : X.prog = P) (hw : X.w = w) (hc : X.calm = true) (hu : X.A.units + 20 < cLine) : CallR X (.builtin "sorted") (rSortedDN P w) := by
  subst hP hw
  intro pins s σ H xs us Q I r h
  obtain ⟨d, kvs, enc, rfl, dn, hT, q⟩ := h
  obtain ⟨u, rfl, rx⟩ := r.one
  cases rx
  obtain ⟨⟨z, hs, ks, rel, o, es, ep, ho, hx, hdt, he, hn⟩, _⟩ := (show ObjOk X.prog X.w H s.heap d (DNo X.prog X.w d kvs) from I.hok d _ dn.1)
  have l1 : es.size = ks.length := size_of_entries he
  have l2 : kvs.length = ks.length := Paired.length rel
  refine Calls.call_function_entry PyProof.Rows.kind_sorted PyProof.Rows.plain_sorted PyProof.Rows.entry_sorted (PyProof.Rows.args_sorted1 _) ?_
  unfold Builtin.«sorted»
  refine wpAny_bind (m := checkCount "sorted" 1 1 _) (wpAny_pure ?_)
  refine wpAny_bind (PySem.W.kdu_collect (A := X.A.in1) (kdl_raw hs hx hdt) (I.ok.hd hc) ho (by omega) fun h' tk acc hk it => ?_)
  have ea : acc.toList = ks.map fun x => Value.ref x.2.1 := by
    have hl : acc.toList.length = ks.length := by rw [Array.length_toList, it.1]; exact l1
    apply List.ext_getElem?
    intro j
    rw [List.getElem?_map]
    cases hj : acc.toList[j]? with
    | none =>
      have h1 := List.getElem?_eq_none_iff.mp hj
      rw [List.getElem?_eq_none (by omega)]
      all_goals rfl
    | some v =>
      obtain ⟨en, hen, hv⟩ := it.2 j v (by rw [← Array.getElem?_toList]; exact hj)
      have qe := entry_at he j
      rw [hen] at qe
      cases hb : ks[j]? with
      | none =>
        rw [hb] at qe
        exact nomatch (show some en = none from qe)
      | some b =>
        rw [hb] at qe
        have e2 : en = entryOfKey (nestedKind X.prog X.w) b := Option.some.inj qe
        rw [hv, e2]
        all_goals rfl
  have eb : acc.toList = (kvs.map fun x => x.2.1).map Value.ref := by rw [ea, ← relN_keys rel, List.map_map]; all_goals rfl
  have hbl : (kvs.map fun x => x.2.1).length = ks.length := by rw [List.length_map, l2]
  generalize (kvs.map fun x => x.2.1) = bs0 at *
  rw [eb]
  have hzz : (bs0.map Value.ref).length ≤ sizeLine := by rw [List.length_map]; omega
  have I1 : Inv X pins σ H { s with heap := h', toks := tk } := I.kept hk
  refine wpAny_bind (wpAny_newList ?_ hzz)
  have hoL : (h'.push (seqObj "list" (bs0.map Value.ref).toArray 0)).get? h'.objs.size = some (seqObj "list" (bs0.map Value.ref).toArray 0) := Heap.get?_push_size _ rfl
  show wpAny _ _ _ _ _ { s with heap := h'.push (seqObj "list" (bs0.map Value.ref).toArray 0), toks := tk }
  have hu2 : X.A.in1.units = X.A.units + 1 := Around.in1_units _
  refine wpAny_bind (wpAny_holding (PySem.W.list_sort_data (β := Addr) (R := fun (v : Value) (b : Addr) => v = Value.ref b) (enc := tupE enc) (bs := bs0) (vs := bs0.map Value.ref) (s := { s with heap := h'.push (seqObj "list" (bs0.map Value.ref).toArray 0), toks := tk }) hoL (each_ref bs0)
    (each_of_all fun b hb => ?_) hT.al hT.so (by omega) (fun b hb => ?_) fun out hlen hout => ?_))
  · obtain ⟨xs, e1, e2, _⟩ := hT.1 b hb
    have rd := reads_tup I1 e1 e2
    exact ⟨[], PyProof.Rows.Reads.keeps (fun b o e => Heap.get?_push_of_some _ e) rd, by simp⟩
  · have := hT.dep b hb
    omega
  · obtain rfl := out_ref hout
    obtain ⟨e', he'⟩ := PyProof.Rows.sortedHeap_at (vs := bs0.map Value.ref) (out := ((srtD enc bs0).map Value.ref).toArray) hoL
    have hlen2 : ((srtD enc bs0).map V.ref).length ≤ sizeLine := by
      rw [List.length_map, (srt_perm enc bs0).length_eq]
      omega
    refine wpAny_pure ⟨_, rfl, .ref h'.objs.size, upd H h'.objs.size (.lst ((srtD enc bs0).map V.ref)), I1.laid (t' := tk) (fun b u e => ?_) (Nat.le_refl _)
      (show ObjOk X.prog X.w _ _ _ (.lst ((srtD enc bs0).map V.ref)) from ⟨hlen2, (srtD enc bs0).map Value.ref, e', vals_refs _, he'⟩), rfl, q _ (I1.hok.fresh (Nat.le_refl _))⟩
    have hb : b < h'.objs.size := Heap.lt_size e
    rw [PyProof.Rows.sortedHeap_old (Nat.ne_of_lt hb) (by rw [size_push']; exact Nat.lt_succ_of_lt hb)]
    exact Heap.get?_push_of_some _ e
def rSortedLD (K : PySem.W.Frag) : List V → Hp → VK → Prop := fun vs H Q => ∃ (l : Addr) (bs : List Addr) (enc : Addr → List PyData), vs = [.ref l] ∧ SqL K H l (bs.map V.ref) ∧ TupsD H enc bs ∧
  ∀ (p : Addr), H p = none → Q (.ref p) (upd H p (.lst ((srtD enc bs).map V.ref)))
end Sw

end

section
set_option maxRecDepth 100000
set_option maxHeartbeats 4000000
/-! a def with cells whose body gives out a token; expressions that want one -/
namespace L2
open PySem PySem.Spec PyProof.Rows
section
variable {M : Model} {A : Around} {E : Value → Shared → Prop} {s₀ s : Shared} {m cm : Str → Option Value} {env : Env}
theorem stLCT {n : Str} {v : Value} {Q : Unit → Shared → Prop} (x : InCallC s₀ env.locals m env.cells cm s) (hk : env.scope.kind = .function) (hl : env.kindOf n = some .local)
    (h : ∀ s', 1 ≤ s'.toks → InCallC s₀ env.locals (fun y => if y = n then some v else m y) env.cells cm s' → Q () s') : wpAny M A (storeName env n v) Q E s := by
  refine wpAny_storeName_local hl x.toInCall.ns (fun h' hn' hs' => h _ (by first | exact Nat.le_add_left 1 s.toks | (show 1 ≤ s.toks + 1; omega)) ⟨⟨?_, hn', fun b o e => ?_, x.toInCall.fresh⟩, fun k c hc => ?_, x.apart, x.above⟩) (by rw [hk]; rfl)
  · obtain ⟨h₁, tk, rfl⟩ := x.toInCall.same
    exact ⟨h', _, rfl⟩
  · exact hs'.extBut b o (Nat.ne_of_lt (Nat.lt_of_lt_of_le (Heap.lt_size e) x.toInCall.fresh)) (x.toInCall.keep b o e)
  · exact (x.cell k c hc).sameBut hs' (Nat.ne_of_gt (x.above k c (mem_of_lookup hc)))
theorem newFunctionEnv_cellsT {scope : Scope} {globals : Addr} {n0 : Str} {v0 : Value} {bs : List (Str × Value)} {qual : Str} {func : Option Addr} {code : Value} {builtins : Addr} {Q : Env → Shared → Prop}
    (hk : scope.kind = .function) (h0 : scope.names.lookup n0 = some .local)
    (hkind : ∀ x ∈ bs, scope.names.lookup x.1 = some .local ∨ (scope.names.lookup x.1 = some .cell ∧ ((cellsFrom (s.heap.objs.size + 1) scope.names []).lookup x.1).isSome = true))
    (hQ : ∀ env, env = newEnv scope s.heap.objs.size globals (cellsFrom (s.heap.objs.size + 1) scope.names []) qual func code none builtins →
      ∀ s', 1 ≤ s'.toks → InCallC s env.locals (bindL env.kindOf ((n0, v0) :: bs) fun _ => none) env.cells (bindC env.kindOf ((n0, v0) :: bs) fun _ => none) s' → Q env s') :
    wpAny M A (newFunctionEnv scope globals [] ((n0, v0) :: bs) qual func code none builtins) Q E s := by
  simp only [newFunctionEnv, Option.isSome_none, Bool.false_eq_true, if_false]
  refine wpAny_bind (wpAny_alloc ?_)
  refine wpAny_bind (wpAny_layCells _ (fun name kind cells => by cases hkc : kind == NameKind.cell <;> simp [hkc]) _ _ _ _ ?_)
  have ok := cellsFrom_ok scope.names (s.heap.push { cls := .type "frame", data := .dict #[] }) (s.heap.objs.size + 1) [] ⟨fun _ _ hm => (nomatch hm), List.Pairwise.nil⟩ (by rw [Heap.size_push]; exact Nat.le_refl _)
  rw [Heap.size_push] at ok
  rw [show ({ s with heap := s.heap.push { cls := .type "frame", data := .dict #[] } } : Shared).heap.objs.size = s.heap.objs.size + 1 from Heap.size_push ..]
  have hl : (newEnv scope s.heap.objs.size globals (cellsFrom (s.heap.objs.size + 1) scope.names []) qual func code none builtins).kindOf n0 = some .local := by
    first
    | exact h0
    | (simp only [Env.kindOf]; exact h0)
    | (unfold Env.kindOf; rw [if_pos hk]; exact h0)
    | simpa [Env.kindOf, newEnv, hk] using h0
  refine wpAny_bind ?_
  rw [List.forIn_cons]
  refine wpAny_bind (wpAny_bind (stLCT (s₀ := s) (m := fun _ => none) (cm := fun _ => none) (env := newEnv scope s.heap.objs.size globals (cellsFrom (s.heap.objs.size + 1) scope.names []) qual func code none builtins)
    ⟨⟨⟨_, _, rfl⟩, (Heap.Ns.new s.heap (.type "frame")).keeps (pushCells_keeps _ _), fun b o e => pushCells_keeps _ _ b o (Heap.get?_push_of_some _ e), Nat.le_refl _⟩,
      fun n c hc => (ok.empty n c (mem_of_lookup hc)).1, ok.apart, fun n c hm => (ok.empty n c hm).2⟩ hk hl fun s1 ht x1 => wpAny_pure ?_))
  refine wpAny_with_toks (n := 1) ht ?_
  refine wpAny_mono (wpAny_bindParams (s₀ := s) (env := newEnv scope s.heap.objs.size globals (cellsFrom (s.heap.objs.size + 1) scope.names []) qual func code none builtins) _ (fun _ _ _ => rfl) hk bs _ _ s1
    (fun _ s' => 1 ≤ s'.toks → wpAny M A (pure (newEnv scope s.heap.objs.size globals (cellsFrom (s.heap.objs.size + 1) scope.names []) qual func code none builtins)) Q E s') x1 hkind fun s' x ht' => wpAny_pure (hQ _ rfl s' ht' (by
      unfold bindL bindC
      rw [if_pos hl, if_pos hl]
      exact x))) (fun _ _ z => z) fun _ _ z _ => z
end
theorem fn_ofTC {CX : CXT} {P : Program} {w : World} {K : PySem.W.Frag} {mg : Str → Option Value} {base : Heap} {k : Nat} {f : Addr} {name qual : Str} {params : Arguments} {body : List Stmt} {scope : Scope} {dV kV doc pm cdv ct oc : Value} {an od : Option Addr}
    {osl : Array (Option Value)} {N : List Str} {p0 : Str} {pr : List Str} {sp : Sp} (lk : K.lookup f = some ⟨oc, od, .func (PySem.W.fnOf name qual params body scope dV kV doc pm an cdv ct), osl⟩) (hcd : PySem.W.codeIn K cdv qual = true) (S : FnScope N (p0 :: pr) scope)
    (hp0 : scope.names.lookup p0 = some .local) (len : ∀ vs H Q E, sp vs H Q E → vs.length = (p0 :: pr).length)
    (hbody : ∀ (A : Around) (outer : List Env) (s : Shared) (H : Hp) (vs : List V) (Q : VK) (E : XK), Room k (A.deeper (envOfC qual scope s.heap.objs.size f cdv)) → sp vs H Q E →
      ∃ t, PSsT (cxOf CX P w K mg base N qual scope f cdv A outer s H E) body t ∧ t { nx := fun _ H' => Q .non H', rt := Q } (start N vs) H) :
    FnOk P w K mg base CX (k + 1) f (PySem.W.fnOf name qual params body scope dV kV doc pm an cdv ct) (p0 :: pr) sp := by
  refine ⟨len, fun A outer s H args us vs Q E hr e0 hb r hsp => ?_⟩
  have hl := len _ _ _ _ hsp
  have KX : K.In s.heap := e0.mod.kin.keeps fun b o e => (e0.bs b o e).1
  have lim : s.heap.NoLimit := e0.mod.nolimit.keeps fun b o e => (e0.bs b o e).1
  have hkind : ∀ y ∈ (p0 :: pr).zip us, scope.names.lookup y.1 = some .local ∨ (scope.names.lookup y.1 = some .cell ∧ ((cellsFrom (s.heap.objs.size + 1) scope.names []).lookup y.1).isSome = true) := fun ⟨n, v⟩ hy => by
    rcases S.par n (List.of_mem_zip hy).1 with q | q
    · exact .inl q
    · exact .inr ⟨q, PySem.W.cellsFrom_some _ _ _ (.inl q)⟩
  refine codeAny_call_function hr.depth (KX _ _ lk) rfl S.co S.gen rfl (PySem.W.codeRec_of KX hcd) (hb _ _ _ _ ?_)
  have hul : us.length = (p0 :: pr).length := by rw [← r.length, hl]
  cases us with
  | nil => cases hul
  | cons u0 ur =>
  refine newFunctionEnv_cellsT (n0 := p0) (v0 := u0) (bs := pr.zip ur) S.kind hp0 (fun y hy => hkind y (List.mem_cons_of_mem _ hy)) fun env he s1 hto x => ?_
  subst he
  refine ⟨lim.keeps x.toInCall.keep, codeAny_func ?_⟩
  obtain ⟨t, ht, hq⟩ := hbody A outer s H vs Q E (hr.deeper _) hsp
  have I : Inv (cxOf CX P w K mg base N qual scope f cdv A outer s H E) [] (start N vs) H s1 := inv_start S hr.hd e0 hl r x
  refine wpAny_mono (ht [] s1 (start N vs) H _ hto I hq) (fun fl s' hs => ?_) fun e s' hs => hs
  have fin : ∀ {σ' : St} {H' : Hp} {v : V} {u : Value}, Inv (cxOf CX P w K mg base N qual scope f cdv A outer s H E) [] σ' H' s' → RelV v u → Q v H' → CE outer P w H s Q u s' :=
    fun {σ' H' v u} J rv q => ⟨v, H', J.os, J.bare, J.base, J.hok, rv, q⟩
  cases fl with
  | ret u =>
    obtain ⟨v, σ', H', J, rv, q⟩ := hs
    exact fin J rv q
  | next =>
    obtain ⟨σ', H', J, q⟩ := hs
    exact fin (v := V.non) (u := Value.none) J rfl q
  | brk =>
    obtain ⟨_, _, _, q⟩ := hs
    exact False.elim q
  | cont =>
    obtain ⟨_, _, _, q⟩ := hs
    exact False.elim q
theorem FunD.okT {P : Program} {w : World} {K : PySem.W.Frag} {mg : Str → Option Value} {base : Heap} {x qual : Str} {params : Arguments} {body : List Stmt} {scope : Scope} {dvs : List V} {kws : List (Str × V)} {f : Addr} {fd : FuncData}
    {CX : CXT} {N : List Str} {p0 : Str} {pr : List Str} {k : Nat} {sp : Sp} (F : FunD K x qual params body scope dvs kws f fd) (S : FnScope N (p0 :: pr) scope) (hp0 : scope.names.lookup p0 = some .local) (len : ∀ vs H Q E, sp vs H Q E → vs.length = (p0 :: pr).length)
    (hbody : ∀ (cdv : Value) (A : Around) (outer : List Env) (s : Shared) (H : Hp) (vs : List V) (Q : VK) (E : XK), Room k (A.deeper (envOfC qual scope s.heap.objs.size f cdv)) → sp vs H Q E →
      ∃ t, PSsT (cxOf CX P w K mg base N qual scope f cdv A outer s H E) body t ∧ t { nx := fun _ H' => Q .non H', rt := Q } (start N vs) H) : FnOk P w K mg base CX (k + 1) f fd (p0 :: pr) sp := by
  obtain ⟨oc, od, dV, kV, doc, pm, an, cdv, ct, osl, rfl, lk, hcd, _, _⟩ := F.ex
  exact fn_ofTC lk hcd S hp0 len fun A outer s H vs Q E hr hsp => hbody cdv A outer s H vs Q E hr hsp
section
variable {X : Cx} {o e : Expr} {es : List Expr} {to te tb : TE} {t : TA} {b : Expr} {p pos : Pos}
theorem pet_m0 {id : String} {name : Str} {apos pos : Pos} {r : V → List V → Hp → VK → Prop} (slot : Slot "str" name id) (ty : typeOf (.builtin id) = pure (.type "method_descriptor")) (rule : MtR X id r) (ho : PET X o to)
    (hbase : attributeBase o name X.env (eval o X.env) = eval o X.env := by rfl) (hline : (apos.endLine == pos.line) = true := by rfl) : PET X (.Call (.Attribute o name apos) [] [] pos) (tM0 r to) := by
  intro pins s σ H Q h0 I h
  refine PySem.Call_method0 hbase hline (thn (ho pins s σ H _ h0 I h) fun v s1 ⟨x, H1, I1, r1, q1⟩ => ?_)
  obtain ⟨⟨a, rfl⟩, q1⟩ := q1
  obtain ⟨t, rfl⟩ := _root_.id r1
  exact ⟨"str", _, F.plainAttrs_str, slot, ty, typeIs_str _ _ _, (fun _ e => nomatch e), Calls.callWith_builtin rfl (PySem.evalArgs_none (rule pins s1 σ H1 _ [] _ [] Q I1 r1 .nil q1))⟩
theorem pet_words {apos pos : Pos} (ho : PET X o to) (hbase : attributeBase o "split" X.env (eval o X.env) = eval o X.env := by rfl) (hline : (apos.endLine == pos.line) = true := by rfl) :
    PET X (.Call (.Attribute o "split" apos) [] [] pos) (tM0 (fun x xs H Q => ∃ a, x = .str a ∧ xs = [] ∧ a.length + 2 ≤ sizeLine ∧ rNewStrs (Txt.words a) H Q) to) :=
  pet_m0 F.slot_str_split F.type_str_split mt_words ho hbase hline
theorem pet_call {CX : CXT} {k : Nat} {f : Addr} {fd : FuncData} {ps : List Str} {sp : Sp} {dvs : List V} {ds : List Value} {E : XK} {x : Str} (F : FnOk X.prog X.w X.K X.mg X.base CX k f fd ps sp) (hr : Room k X.A) (hg : Gl X x) (hm : X.mg x = some (.ref f)) (hk : PySem.W.keepIn X.K (.ref f) = true) (hb : Binds X.K fd ps ds) (hd : Vals dvs ds) (hx : Passes CX X E)
    (ha : PAT X (e :: es) t) (hdb : (x == ("__debug__" : Str)) = false := by decide) (he : starEach (e :: es) X.env = (false, eval e X.env) :: starEach es X.env := by rfl) (hpl : (backTo pos (starEach es X.env)).any (·.1) = false := by rfl) :
    PET X (.Call (.Name x p) (e :: es) [] pos) (tCall sp dvs E t) := by
  intro pins s σ H Q h0 I h
  refine wpAny_Call_Name_kw (ld_glob I hg hm ?_ hdb)
  refine PySem.W.callWith_K (h₀ := X.base) I.ok.mod.kin hk (thn (ha pos pins s σ H _ h0 I h) fun us s1 ⟨vs, H1, I1, r, q⟩ => ⟨I1.kIn, ?_⟩) he hpl
  exact run_fn F hr hb hd hx I1 r q
theorem pst_set {i : Nat} {x : Str} {pos' : Pos} (hN : X.N.Nodup) (hi : X.N[i]? = some x) (hx : Loc X.env.scope x) (he : PET X e te) (hs : swapsWith e (some (.Name x pos')) pos.line X.env = pure false := by rfl) (hf : X.fn x = true ∨ X.env.scope.names.lookup x = some .local := by first | exact .inl rfl | exact .inr rfl | assumption) :
    PST X (.Assign [.Name x pos'] e pos) (tAsg te (gName i)) := by
  intro pins s σ H D h0 I h
  refine wpAny_Assign_Name (thn (he pins s σ H _ h0 I h) fun v s1 ⟨y, H1, I1, r1, q1⟩ => ?_) hs
  exact store_ok I1 hN hi hx r1 (fun s2 I2 => ⟨_, H1, I2, q1⟩) hf
/-- a[b] -/
theorem pet_ix {a b : Expr} {ta : TE} {r : R2} (hr : IxR X r) (ha : PET X a ta) (hb : PE X b tb) (hs : PlainIx b) : PET X (.Subscript a b pos) (tOp r ta tb) := by
  intro pins s σ H Q h0 I h
  refine Subscript_ (thn (ha pins s σ H _ h0 I h) fun v s1 ⟨x, H1, I1, r1, q1⟩ => ?_)
  refine thn (hb.run pins s1 σ H1 _ I1 q1) fun u s2 ⟨y, H2, I2, r2, q2⟩ => ?_
  exact hr a b pins s2 σ H2 x y v u Q I2 r1 r2 q2 (hs _ _)
theorem PSsT.nox {st : List Stmt} {t : TS} (h : PSsT X.nox st t) : PSsT X st t := fun pins s σ H D h0 I hw => wpAny_mono (h pins s σ H D h0 (I.wish _) hw) (fun _ _ q => q.unwish) fun _ _ z => False.elim z
end
end L2

end

section
set_option maxRecDepth 100000
set_option maxHeartbeats 4000000
/-! statements in any order -/
namespace Sw
open PySem
def rOf : Stm → Option (Nat × Bool)
  | .robot t r => some (t, r)
  | _ => none
def pOf : Stm → Option (Nat × Nat)
  | .put g t => some (t, g)
  | _ => none
def uOf : Stm → Option ((Nat × Nat) × Rule)
  | .rule k r => some (k, r)
  | _ => none
section
variable {tiles : Nat} {signs moods : List Cs}
def prW (signs moods : List Cs) (kv : (Nat × Nat) × Rule) : Cs × Cs := (moods.getD kv.1.1 [], signs.getD kv.1.2 [])
theorem fold_mix : ∀ {ss : List Stm} {st : PSt}, ss.foldl (applyS signs moods) st = { st with robots := st.robots ++ ss.filterMap rOf, spots := st.spots ++ ss.filterMap pOf, rules := st.rules ++ ss.filterMap uOf, pairs := st.pairs ++ (ss.filterMap uOf).map (prW signs moods) }
  | [], st => by simp
  | .robot t r :: ss, st => by
    rw [List.foldl_cons, fold_mix]
    simp [applyS, rOf, pOf, uOf]
    exact ⟨rfl, rfl, rfl⟩
  | .put g t :: ss, st => by
    rw [List.foldl_cons, fold_mix]
    simp [applyS, rOf, pOf, uOf]
    exact ⟨rfl, rfl, rfl⟩
  | .rule k r :: ss, st => by
    rw [List.foldl_cons, fold_mix]
    simp [applyS, rOf, pOf, uOf, prW]
    exact ⟨rfl, rfl⟩
theorem nodup_mid {α β : Type} {f : α → β} {a : List α} {x : α} {b : List α} (h : ((a ++ x :: b).map f).Nodup) : ∀ q ∈ a, f q ≠ f x := fun q hq z => by
  rw [List.map_append, List.nodup_append] at h
  exact h.2.2 (f q) (List.mem_map.mpr ⟨q, hq, rfl⟩) (f x) (by simp) z
theorem fits_mix (hN : NamesOk signs) (hM : NamesOk moods) : ∀ {ss : List Stm} {st : PSt}, (∀ r ∈ ss.filterMap rOf, r.1 < tiles) → st.robots.length + (ss.filterMap rOf).length ≤ 3 → (∀ q ∈ ss.filterMap pOf, q.1 < tiles ∧ q.2 < signs.length) →
    ((st.spots ++ ss.filterMap pOf).map (·.1)).Nodup → (∀ kv ∈ st.rules ++ ss.filterMap uOf, RuleOk signs.length moods.length kv) → ((st.rules ++ ss.filterMap uOf).map (·.1)).Nodup → st.pairs = st.rules.map (prW signs moods) → Fits tiles signs moods st ss
  | [], _, _, _, _, _, _, _, _ => trivial
  | .robot t r :: ss, st, h1, h2, h3, h4, h5, h6, h7 => by
    have e1 : (Stm.robot t r :: ss).filterMap rOf = (t, r) :: ss.filterMap rOf := rfl
    rw [e1] at h1 h2
    refine ⟨⟨h1 (t, r) List.mem_cons_self, by rw [List.length_cons] at h2; omega⟩, fits_mix hN hM (fun x hx => h1 x (List.mem_cons_of_mem _ hx)) ?_ h3 h4 h5 h6 h7⟩
    show (st.robots ++ [(t, r)]).length + _ ≤ 3
    rw [List.length_append, List.length_singleton]
    rw [List.length_cons] at h2
    omega
  | .put g t :: ss, st, h1, h2, h3, h4, h5, h6, h7 => by
    have e1 : (Stm.put g t :: ss).filterMap pOf = (t, g) :: ss.filterMap pOf := rfl
    rw [e1] at h3 h4
    obtain ⟨a1, a2⟩ := h3 (t, g) List.mem_cons_self
    refine ⟨⟨a1, a2, nodup_mid (f := fun q : Nat × Nat => q.1) h4⟩, fits_mix hN hM h1 h2 (fun x hx => h3 x (List.mem_cons_of_mem _ hx)) ?_ h5 h6 h7⟩
    show (((st.spots ++ [(t, g)]) ++ _).map (·.1)).Nodup
    rw [List.append_assoc]
    exact h4
  | .rule k r :: ss, st, h1, h2, h3, h4, h5, h6, h7 => by
    have e1 : (Stm.rule k r :: ss).filterMap uOf = (k, r) :: ss.filterMap uOf := rfl
    rw [e1] at h5 h6
    have o := h5 (k, r) (List.mem_append_right _ List.mem_cons_self)
    have nk := nodup_mid (f := fun q : (Nat × Nat) × Rule => q.1) h6
    refine ⟨⟨o.k1, o.k2, o.l, o.la, o.mv, ?_, nk⟩, fits_mix hN hM h1 h2 h3 h4 ?_ ?_ ?_⟩
    · rw [h7]
      intro z
      obtain ⟨q, hq, e⟩ := List.mem_map.mp z
      obtain ⟨ea, eb⟩ := Prod.mk.inj e
      have oq := h5 q (List.mem_append_left _ hq)
      exact nk q hq (Prod.ext (name_inj hM.nd oq.k1 o.k1 ea) (name_inj hN.nd oq.k2 o.k2 eb))
    · show ∀ kv ∈ (st.rules ++ [(k, r)]) ++ _, _
      rw [List.append_assoc]
      exact h5
    · show (((st.rules ++ [(k, r)]) ++ _).map (·.1)).Nodup
      rw [List.append_assoc]
      exact h6
    · show st.pairs ++ [_] = _
      rw [h7]
      show _ = (st.rules ++ [(k, r)]).map _
      rw [List.map_append]
      rfl
end
end Sw

end

section
set_option maxRecDepth 100000
set_option maxHeartbeats 4000000
/-! texts of words with gaps -/
namespace Sw
open PySem
/-- a part of a text: a word, a number, or ; -/
def Part (w : Cs) : Prop := (Wd w ∨ Nm w) ∨ w = wSemi
def ktP (w : Cs) : KT := if w = wSemi then (.sign, wSemi) else ktOf w
/-- segments of a row: spaces, then a part -/
def rowT (l : List (Nat × Cs)) : Cs := (l.map fun q => List.replicate q.1 32 ++ q.2).flatten
def SpL (l : List (Nat × Cs)) : Prop := ∀ q ∈ l, 1 ≤ q.1
theorem semi_not {w : Cs} (h : Wd w ∨ Nm w) : w ≠ wSemi := fun z => by
  subst z
  rcases h with ⟨q, _⟩ | ⟨q, _⟩
  · exact absurd (q 59 (by simp [wSemi])) (by decide)
  · exact absurd (q 59 (by simp [wSemi])) (by decide)
theorem lex_spaces {line : Nat} {r : Cs} : ∀ {n f col : Nat}, n ≤ f → lexRow line f col (List.replicate n 32 ++ r) = lexRow line (f - n) (col + n) r
  | 0, f, col, _ => by simp
  | n + 1, f, col, h => by
    obtain ⟨f', rfl⟩ : ∃ f', f = f' + 1 := ⟨f - 1, by omega⟩
    rw [List.replicate_succ, List.cons_append, lex_space rfl, lex_spaces (by omega)]
    congr 1 <;> omega
theorem brk_segs {l : List (Nat × Cs)} (h : SpL l) : Brk (rowT l) := fun c hc => by
  cases l with
  | nil => cases hc
  | cons q l =>
    have := h q List.mem_cons_self
    obtain ⟨n, e⟩ : ∃ n, q.1 = n + 1 := ⟨q.1 - 1, by omega⟩
    have e2 : (rowT (q :: l)).head? = some 32 := by
      unfold rowT
      rw [List.map_cons, List.flatten_cons, e, List.replicate_succ]
      rfl
    rw [e2] at hc
    cases hc
    exact ⟨rfl, rfl⟩
theorem lex_segs {line : Nat} : ∀ {l : List (Nat × Cs)} {q : Nat × Cs} {f col : Nat}, SpL l → (∀ x ∈ q :: l, Part x.2) → (rowT (q :: l)).length ≤ f → ∃ T, lexRow line f col (rowT (q :: l)) = .ok T ∧ T.map kt = (q :: l).map fun x => ktP x.2 := by
  intro l
  induction l with
  | nil =>
    intro q f col _ hp hf
    have e : rowT [q] = List.replicate q.1 32 ++ q.2 := by simp [rowT]
    rw [e] at hf ⊢
    rw [List.length_append, List.length_replicate] at hf
    rw [lex_spaces (by omega)]
    have ef : ∀ f c, lexRow line f c [] = .ok [] := fun f c => by cases f <;> rfl
    rcases hp q List.mem_cons_self with hw | hw
    · obtain ⟨f', hf'⟩ : ∃ f', f - q.1 = f' + 1 := ⟨f - q.1 - 1, by rcases hw with ⟨_, q, _⟩ | ⟨_, q, _⟩ <;> omega⟩
      rw [hf']
      have h0 := lex_word (line := line) (col := col + q.1) (f := f') (r := []) hw (fun c hc => by cases hc) (ef _ _)
      rw [List.append_nil] at h0
      refine ⟨_, h0, ?_⟩
      show [ktOf q.2] = [ktP q.2]
      unfold ktP
      rw [if_neg (semi_not hw)]
    · rw [hw] at hf ⊢
      obtain ⟨f', hf'⟩ : ∃ f', f - q.1 = f' + 1 := ⟨f - q.1 - 1, by simp [wSemi] at hf; omega⟩
      rw [hf']
      refine ⟨_, lex_semi (ef _ _), ?_⟩
      show [(Kd.sign, [59])] = [ktP q.2]
      rw [hw]
      rfl
  | cons q2 l ih =>
    intro q f col hs hp hf
    have e : rowT (q :: q2 :: l) = List.replicate q.1 32 ++ (q.2 ++ rowT (q2 :: l)) := by simp [rowT]
    rw [e] at hf ⊢
    rw [List.length_append, List.length_replicate, List.length_append] at hf
    rw [lex_spaces (by omega)]
    have hb := brk_segs hs
    have hp2 := fun x hx => hp x (List.mem_cons_of_mem _ hx)
    rcases hp q List.mem_cons_self with hw | hw
    · obtain ⟨f', hf'⟩ : ∃ f', f - q.1 = f' + 1 := ⟨f - q.1 - 1, by rcases hw with ⟨_, q, _⟩ | ⟨_, q, _⟩ <;> omega⟩
      have h1 : 1 ≤ q.2.length := by rcases hw with ⟨_, q, _⟩ | ⟨_, q, _⟩ <;> exact q
      rw [hf']
      obtain ⟨T, t1, t2⟩ := ih (q := q2) (f := f') (col := col + q.1 + q.2.length) (fun x hx => hs x (List.mem_cons_of_mem _ hx)) hp2 (by omega)
      refine ⟨_, lex_word hw hb t1, ?_⟩
      rw [List.map_cons, t2]
      show ktOf q.2 :: _ = ktP q.2 :: _
      unfold ktP
      rw [if_neg (semi_not hw)]
    · rw [hw] at hf ⊢
      have hl : wSemi.length = 1 := rfl
      obtain ⟨f', hf'⟩ : ∃ f', f - q.1 = f' + 1 := ⟨f - q.1 - 1, by omega⟩
      rw [hf']
      obtain ⟨T, t1, t2⟩ := ih (q := q2) (f := f') (col := col + q.1 + 1) (fun x hx => hs x (List.mem_cons_of_mem _ hx)) hp2 (by omega)
      refine ⟨_, lex_semi t1, ?_⟩
      rw [List.map_cons, t2]
      show (Kd.sign, [59]) :: _ = ktP q.2 :: _
      rw [hw]
      rfl
/-- the tail's segments begin with a space -/
def RowOk : List (Nat × Cs) → Prop
  | [] => True
  | _ :: l => SpL l
theorem lex_row {line : Nat} : ∀ {l : List (Nat × Cs)}, RowOk l → (∀ x ∈ l, Part x.2) → ∃ T, lexRow line (rowT l).length 0 (rowT l) = .ok T ∧ T.map kt = l.map fun x => ktP x.2
  | [], _, _ => ⟨[], rfl, rfl⟩
  | _ :: _, h, hp => lex_segs h hp (Nat.le_refl _)
theorem lex_rows : ∀ {rs : List (List (Nat × Cs))} {line : Nat}, (∀ l ∈ rs, RowOk l ∧ ∀ x ∈ l, Part x.2) → ∃ T, lexRows line (rs.map rowT) = .ok T ∧ T.map kt = (rs.map fun l => l.map fun x => ktP x.2).flatten
  | [], _, _ => ⟨[], rfl, rfl⟩
  | l :: rs, line, h => by
    obtain ⟨h1, h2⟩ := h l List.mem_cons_self
    obtain ⟨T, t1, t2⟩ := lex_row (line := line) h1 h2
    obtain ⟨U, u1, u2⟩ := lex_rows (rs := rs) (line := line + 1) fun x hx => h x (List.mem_cons_of_mem _ hx)
    refine ⟨T ++ U, ?_, ?_⟩
    · show (match lexRow line (rowT l).length 0 (rowT l) with | .error e => Except.error e | .ok ts => match lexRows (line + 1) (rs.map rowT) with | .error e => .error e | .ok us => .ok (ts ++ us)) = _
      rw [t1, u1]
    · rw [List.map_append, t2, u2]
      rfl
/-- the four gaps -/
def gapS : Nat → Cs
  | 0 => [32]
  | 1 => [32, 32]
  | 2 => [10]
  | _ => [10, 32]
def gapT (l : List (Nat × Cs)) : Cs := (l.map fun q => gapS q.1 ++ q.2).flatten
def rowsG : List (Nat × Cs) → List (Nat × Cs) → List (List (Nat × Cs))
  | cur, [] => [cur]
  | cur, (g, w) :: r => if g < 2 then rowsG (cur ++ [(g + 1, w)]) r else cur :: rowsG [(g - 2, w)] r
theorem rowsG_ne : ∀ (l cur : List (Nat × Cs)), ∃ a b, rowsG cur l = a :: b
  | [], cur => ⟨_, _, rfl⟩
  | (g, w) :: r, cur => by
    unfold rowsG
    split
    · exact rowsG_ne r _
    · exact ⟨_, _, rfl⟩
theorem rowT_snoc (a : List (Nat × Cs)) (q : Nat × Cs) : rowT (a ++ [q]) = rowT a ++ (List.replicate q.1 32 ++ q.2) := by simp [rowT]
theorem gap_rows : ∀ {l cur : List (Nat × Cs)}, (∀ q ∈ l, q.1 < 4) → rowT cur ++ gapT l = TL.joinL [10] ((rowsG cur l).map rowT)
  | [], cur, _ => by
    show rowT cur ++ [] = _
    rw [List.append_nil]
    rfl
  | (g, w) :: r, cur, h => by
    have hr := fun q hq => h q (List.mem_cons_of_mem _ hq)
    have hg : g < 4 := h (g, w) List.mem_cons_self
    have e : gapT ((g, w) :: r) = gapS g ++ w ++ gapT r := by simp [gapT]
    unfold rowsG
    split
    · rename_i hg2
      rw [← gap_rows (cur := cur ++ [(g + 1, w)]) hr, rowT_snoc, e]
      have : gapS g = List.replicate (g + 1) 32 := by
        match g, hg2 with
        | 0, _ => rfl
        | 1, _ => rfl
      rw [this]
      simp only [List.append_assoc]
    · rename_i hg2
      obtain ⟨a, b, eab⟩ := rowsG_ne r [(g - 2, w)]
      have ih := gap_rows (l := r) (cur := [(g - 2, w)]) hr
      rw [List.map_cons]
      rw [eab] at ih ⊢
      rw [List.map_cons] at ih ⊢
      show _ = rowT cur ++ ([10] ++ TL.joinL [10] (rowT a :: b.map rowT))
      rw [← ih, e]
      have e1 : rowT [(g - 2, w)] = List.replicate (g - 2) 32 ++ w := by simp [rowT]
      have e2 : gapS g = [10] ++ List.replicate (g - 2) 32 := by
        match g, hg, hg2 with
        | 2, _, _ => rfl
        | 3, _, _ => rfl
        | 0, _, z => exact absurd (by decide) z
        | 1, _, z => exact absurd (by decide) z
      rw [e1, e2]
      simp only [List.append_assoc]
theorem rowsG_ok : ∀ {l cur : List (Nat × Cs)}, RowOk cur → (∀ x ∈ cur, Part x.2) → (∀ x ∈ l, Part x.2) → ∀ r ∈ rowsG cur l, RowOk r ∧ ∀ x ∈ r, Part x.2
  | [], cur, h, h1, _, r, hr => by
    rw [List.mem_singleton.mp hr]
    exact ⟨h, h1⟩
  | (g, w) :: l, cur, h, h1, h2, r, hr => by
    have hl := fun q hq => h2 q (List.mem_cons_of_mem _ hq)
    have hw : Part w := h2 (g, w) List.mem_cons_self
    unfold rowsG at hr
    split at hr
    · refine rowsG_ok (cur := cur ++ [(g + 1, w)]) ?_ ?_ hl r hr
      · cases cur with
        | nil => intro q hq; cases hq
        | cons a c =>
          intro q hq
          rcases List.mem_append.mp hq with z | z
          · exact h q z
          · rw [List.mem_singleton.mp z]
            exact Nat.succ_le_succ (Nat.zero_le _)
      · intro x hx
        rcases List.mem_append.mp hx with z | z
        · exact h1 x z
        · rw [List.mem_singleton.mp z]
          exact hw
    · rcases List.mem_cons.mp hr with z | z
      · rw [z]
        exact ⟨h, h1⟩
      · refine rowsG_ok (cur := [(g - 2, w)]) (fun q hq => by cases hq) ?_ hl r z
        intro x hx
        rw [List.mem_singleton.mp hx]
        exact hw
theorem rowsG_flat (k : Nat × Cs → KT) (hk : ∀ a b w, k (a, w) = k (b, w)) : ∀ {l cur : List (Nat × Cs)}, ((rowsG cur l).map fun r => r.map k).flatten = cur.map k ++ l.map k
  | [], cur => by simp [rowsG]
  | (g, w) :: l, cur => by
    unfold rowsG
    split
    · rw [rowsG_flat k hk]
      simp [hk (g + 1) g w]
    · rw [List.map_cons, List.flatten_cons, rowsG_flat k hk]
      simp [hk (g - 2) g w]
theorem part_no10 {w : Cs} (h : Part w) : 10 ∉ w := fun z => by
  rcases h with (⟨q, _⟩ | ⟨q, _⟩) | h
  · exact absurd (q 10 z) (by decide)
  · exact absurd (q 10 z) (by decide)
  · rw [h] at z
    exact absurd z (by decide)
/-- such a text is read as its parts -/
theorem tokenize_gaps {l : List (Nat × Cs)} (hg : ∀ q ∈ l, q.1 < 4) (hp : ∀ q ∈ l, Part q.2) : ∃ T, tokenize (gapT l) = .ok T ∧ T.map kt = (l.map fun q => ktP q.2) ++ [(.fin, [])] := by
  have hok := rowsG_ok (cur := []) (l := l) trivial (fun x hx => by cases hx) hp
  have hr : rowsOf (gapT l) = (rowsG [] l).map rowT := by
    have e := gap_rows (cur := []) hg
    have e0 : rowT [] ++ gapT l = gapT l := rfl
    rw [e0] at e
    rw [e]
    refine TL.spl_join ?_ ?_
    · obtain ⟨a, b, eab⟩ := rowsG_ne l []
      rw [eab]
      simp
    · intro p hp'
      obtain ⟨r, hr, rfl⟩ := List.mem_map.mp hp'
      intro z
      unfold rowT at z
      obtain ⟨x, hx, zx⟩ := List.mem_flatten.mp z
      obtain ⟨q, hq, rfl⟩ := List.mem_map.mp hx
      rcases List.mem_append.mp zx with y | y
      · exact absurd (List.eq_of_mem_replicate y) (by decide)
      · exact part_no10 ((hok r hr).2 q hq) y
  obtain ⟨T, t1, t2⟩ := lex_rows (line := 0) hok
  refine ⟨T ++ [⟨.fin, [], ((rowsG [] l).map rowT).length, 0⟩], ?_, ?_⟩
  · unfold tokenize
    rw [hr, t1]
  · rw [List.map_append, t2, rowsG_flat (fun q => ktP q.2) (fun _ _ _ => rfl)]
    rfl
end Sw

end

section
set_option maxRecDepth 100000
set_option maxHeartbeats 4000000
/-! a plan's statements in another order, with other gaps -/
namespace Sw
open PySem
def partsOf (lss : List (List Cs)) : List Cs := (lss.map fun ws => ws ++ [wSemi]).flatten
structure Mix (pl : Plan) (r0 : Nat × Bool) (ss : List Stm) : Prop where
  ro : pl.robots = r0 :: ss.filterMap rOf
  p1 : ∀ q ∈ ss.filterMap pOf, q.1 < pl.floor.length ∧ q.2 = pl.floor.getD q.1 0
  p2 : ((ss.filterMap pOf).map (·.1)).Nodup
  p3 : ∀ q ∈ putsL pl.floor, q ∈ ss.filterMap pOf
  ru : (ss.filterMap uOf).Perm pl.rules
def Fine (pl : Plan) : Stm → Prop
  | .robot t _ => t < pl.floor.length
  | .put g t => t < pl.floor.length ∧ g < pl.signs.length
  | .rule k r => RuleOk pl.signs.length pl.moods.length (k, r)
theorem fine_words {pl : Plan} (h : WfP pl) : ∀ {s : Stm}, Fine pl s → ∀ w ∈ stmW pl.signs pl.moods s, Wd w ∨ Nm w := by
  have kw : ∀ w, w ∈ kws → Wd w ∨ Nm w := fun w hw => .inl (kw_wd w hw)
  have si : ∀ g, g < pl.signs.length → Wd (pl.signs.getD g []) ∨ Nm (pl.signs.getD g []) := fun g hg => .inl (h.sN.ok _ (getD_in hg)).1
  have mo : ∀ g, g < pl.moods.length → Wd (pl.moods.getD g []) ∨ Nm (pl.moods.getD g []) := fun g hg => .inl (h.mN.ok _ (getD_in hg)).1
  have n16 := h.n16
  intro s hs w hw
  cases s with
  | robot t r =>
    have hs : t < pl.floor.length := hs
    simp only [stmW, List.mem_cons, List.not_mem_nil, or_false] at hw
    rcases hw with rfl | rfl | rfl
    · exact kw _ (by decide +kernel)
    · exact .inr (dec_nm (by omega)).1
    · cases r <;> exact kw _ (by decide +kernel)
  | put g t =>
    have hs : t < pl.floor.length ∧ g < pl.signs.length := hs
    simp only [stmW, List.mem_cons, List.not_mem_nil, or_false] at hw
    rcases hw with rfl | rfl | rfl
    · exact kw _ (by decide +kernel)
    · exact si _ hs.2
    · exact .inr (dec_nm (by omega)).1
  | rule k r =>
    have o : RuleOk pl.signs.length pl.moods.length (k, r) := hs
    simp only [stmW, List.mem_cons, List.not_mem_nil, or_false] at hw
    rcases hw with rfl | rfl | rfl | rfl | rfl | rfl | rfl
    · exact kw _ (by decide +kernel)
    · exact mo _ o.k1
    · exact si _ o.k2
    · exact kw _ (by decide +kernel)
    · exact si _ o.l
    · refine kw _ ?_
      have : ∀ w ∈ moves, w ∈ kws := by decide +kernel
      exact this _ o.mv
    · exact mo _ o.la
theorem head_words {pl : Plan} (h : WfP pl) : ∀ ws ∈ headW pl.floor.length pl.signs pl.moods, ∀ w ∈ ws, Wd w ∨ Nm w := by
  have kw : ∀ w, w ∈ kws → Wd w ∨ Nm w := fun w hw => .inl (kw_wd w hw)
  have n16 := h.n16
  intro ws hws w hw
  simp only [headW, List.mem_cons, List.not_mem_nil, or_false] at hws
  rcases hws with rfl | rfl | rfl
  · simp only [List.mem_cons, List.not_mem_nil, or_false] at hw
    rcases hw with rfl | rfl
    · exact kw _ (by decide +kernel)
    · exact .inr (dec_nm (by omega)).1
  · rcases List.mem_cons.mp hw with rfl | hw
    · exact kw _ (by decide +kernel)
    · exact .inl (h.sN.ok w hw).1
  · rcases List.mem_cons.mp hw with rfl | hw
    · exact kw _ (by decide +kernel)
    · exact .inl (h.mN.ok w hw).1
theorem fl_at {pl : Plan} (h : WfP pl) {t : Nat} (ht : t < pl.floor.length) : pl.floor.getD t 0 < pl.signs.length := by
  refine h.fl _ ?_
  rw [List.getD_eq_getElem?_getD, List.getElem?_eq_getElem ht]
  exact List.getElem_mem ht
theorem Mix.fine {pl : Plan} {r0 : Nat × Bool} {ss : List Stm} (h : WfP pl) (m : Mix pl r0 ss) : ∀ s ∈ Stm.robot r0.1 r0.2 :: ss, Fine pl s := by
  intro s hs
  rcases List.mem_cons.mp hs with rfl | hs
  · exact h.rt r0 (by rw [m.ro]; exact List.mem_cons_self)
  cases s with
  | robot t r => exact h.rt (t, r) (by rw [m.ro]; exact List.mem_cons_of_mem _ (List.mem_filterMap.mpr ⟨_, hs, rfl⟩))
  | put g t =>
    obtain ⟨a, b⟩ := m.p1 (t, g) (List.mem_filterMap.mpr ⟨_, hs, rfl⟩)
    have b : g = pl.floor.getD t 0 := b
    exact ⟨a, by rw [b]; exact fl_at h a⟩
  | rule k r => exact h.ru (k, r) (m.ru.mem_iff.mp (List.mem_filterMap.mpr ⟨_, hs, rfl⟩))
theorem parts_kt : ∀ {lss : List (List Cs)}, (∀ ws ∈ lss, ∀ w ∈ ws, Wd w ∨ Nm w) → (partsOf lss).map ktP = (lss.map fun ws => ws.map ktOf ++ [(Kd.sign, wSemi)]).flatten ∧ ∀ w ∈ partsOf lss, Part w
  | [], _ => ⟨rfl, fun w hw => by cases hw⟩
  | ws :: lss, h => by
    obtain ⟨e1, e2⟩ := parts_kt (lss := lss) fun x hx => h x (List.mem_cons_of_mem _ hx)
    have hw := h ws List.mem_cons_self
    have e : partsOf (ws :: lss) = (ws ++ [wSemi]) ++ partsOf lss := rfl
    rw [e]
    refine ⟨?_, fun w hw2 => ?_⟩
    · rw [List.map_append, e1, List.map_append]
      have : ws.map ktP = ws.map ktOf := List.map_congr_left fun w hx => by
        unfold ktP
        rw [if_neg (semi_not (hw w hx))]
      rw [this]
      rfl
    · rcases List.mem_append.mp hw2 with z | z
      · rcases List.mem_append.mp z with y | y
        · exact .inl (hw w y)
        · exact .inr (List.mem_singleton.mp y)
      · exact e2 w z
theorem floor_mix {pl : Plan} {r0 : Nat × Bool} {ss : List Stm} (m : Mix pl r0 ss) : ((List.range pl.floor.length).map fun i => (getA (ss.filterMap pOf) i).getD 0) = pl.floor := by
  refine List.ext_getElem (by simp) fun i h1 h2 => ?_
  rw [List.getElem_map, List.getElem_range]
  have hf : pl.floor.getD i 0 = pl.floor[i] := by rw [List.getD_eq_getElem?_getD, List.getElem?_eq_getElem h2]; rfl
  by_cases hq : ∃ q ∈ ss.filterMap pOf, q.1 = i
  · obtain ⟨q, hq, e⟩ := hq
    obtain ⟨a, b⟩ := m.p1 q hq
    have : getA (ss.filterMap pOf) i = some q.2 := getA_mem m.p2 (by rw [← e]; exact hq)
    rw [this, ← hf, ← e, ← b]
    rfl
  · rw [getA_none fun q hq2 z => hq ⟨q, hq2, z⟩, ← hf]
    cases hz : pl.floor.getD i 0 with
    | zero => rfl
    | succ n =>
      refine absurd ⟨(i, pl.floor.getD i 0), m.p3 _ ?_, rfl⟩ hq
      unfold putsL
      refine List.mem_filterMap.mpr ⟨i, List.mem_range.mpr h2, ?_⟩
      rw [if_pos (by omega)]
/-- THE SAME PLAN, its rules in the text's order -/
theorem loads_mix {pl : Plan} (h : WfP pl) {r0 : Nat × Bool} {ss : List Stm} (m : Mix pl r0 ss) {l : List (Nat × Cs)} (hg : ∀ q ∈ l, q.1 < 4)
    (hl : l.map (·.2) = partsOf (headW pl.floor.length pl.signs pl.moods ++ (Stm.robot r0.1 r0.2 :: ss).map (stmW pl.signs pl.moods))) :
    ∃ s, loads (gapT l) = .ok (pl.floor.length, s) ∧ s.faults = [] ∧ planOf pl.floor.length s = { pl with rules := ss.filterMap uOf } := by
  have hw : ∀ ws ∈ headW pl.floor.length pl.signs pl.moods ++ (Stm.robot r0.1 r0.2 :: ss).map (stmW pl.signs pl.moods), ∀ w ∈ ws, Wd w ∨ Nm w := fun ws hws => by
    rcases List.mem_append.mp hws with z | z
    · exact head_words h ws z
    · obtain ⟨s, hs, rfl⟩ := List.mem_map.mp z
      exact fine_words h (m.fine h s hs)
  obtain ⟨k1, k2⟩ := parts_kt hw
  obtain ⟨T, hT, hK⟩ := tokenize_gaps hg (fun q hq => k2 q.2 (by rw [← hl]; exact List.mem_map.mpr ⟨q, hq, rfl⟩))
  have e0 : (l.map fun q => ktP q.2) = (partsOf (headW pl.floor.length pl.signs pl.moods ++ (Stm.robot r0.1 r0.2 :: ss).map (stmW pl.signs pl.moods))).map ktP := by
    rw [← hl, List.map_map]
    rfl
  rw [e0, k1] at hK
  have er : (Stm.robot r0.1 r0.2 :: ss).filterMap rOf = r0 :: ss.filterMap rOf := rfl
  have ep : (Stm.robot r0.1 r0.2 :: ss).filterMap pOf = ss.filterMap pOf := rfl
  have eu : (Stm.robot r0.1 r0.2 :: ss).filterMap uOf = ss.filterMap uOf := rfl
  have hfit : Fits pl.floor.length pl.signs pl.moods (stN0 pl.signs pl.moods) (.robot r0.1 r0.2 :: ss) := by
    refine fits_mix h.sN h.mN ?_ ?_ ?_ ?_ ?_ ?_ rfl
    · rw [er, ← m.ro]
      exact h.rt
    · rw [er, ← m.ro]
      simpa [stN0] using h.r3
    · rw [ep]
      intro q hq
      obtain ⟨a, b⟩ := m.p1 q hq
      exact ⟨a, by rw [b]; exact fl_at h a⟩
    · rw [ep]
      exact m.p2
    · rw [eu]
      exact fun kv hkv => h.ru kv (m.ru.mem_iff.mp hkv)
    · rw [eu]
      exact (m.ru.map (·.1)).nodup_iff.mpr h.rn
  obtain ⟨n, hp⟩ := parse_ok (T := T) (tiles := pl.floor.length) (signs := pl.signs) (moods := pl.moods) h.sN h.mN h.s1 h.m1 h.s4 h.m6 h.n1 h.n16 hK hfit
  rw [fold_mix, er, ep, eu, ← m.ro] at hp
  refine ⟨_, (by
    unfold loads
    rw [hT]
    exact hp), rfl, ?_⟩
  unfold planOf
  simp only [stN0, List.nil_append]
  rw [floor_mix m]
end Sw

end

section
set_option maxRecDepth 100000
set_option maxHeartbeats 4000000
/-! a text of lines in another order is read -/
namespace Sw
open PySem
abbrev mixL (pl : Plan) (r0 : Nat × Bool) (ss : List Stm) : List (List Cs) := headW pl.floor.length pl.signs pl.moods ++ (Stm.robot r0.1 r0.2 :: ss).map (stmW pl.signs pl.moods)
theorem mixL_words {pl : Plan} (h : WfP pl) {r0 : Nat × Bool} {ss : List Stm} (m : Mix pl r0 ss) : ∀ ws ∈ mixL pl r0 ss, ∀ w ∈ ws, Wd w ∨ Nm w := fun ws hws => by
  rcases List.mem_append.mp hws with z | z
  · exact head_words h ws z
  · obtain ⟨s, hs, rfl⟩ := List.mem_map.mp z
    exact fine_words h (m.fine h s hs)
theorem loads_kts {pl : Plan} (h : WfP pl) {r0 : Nat × Bool} {ss : List Stm} (m : Mix pl r0 ss) {X : Cs} {T : List Tk} (hT : tokenize X = .ok T) (hK : T.map kt = ((mixL pl r0 ss).map fun ws => ws.map ktOf ++ [(Kd.sign, wSemi)]).flatten ++ [(.fin, [])]) :
    ∃ s, loads X = .ok (pl.floor.length, s) ∧ s.faults = [] ∧ planOf pl.floor.length s = { pl with rules := ss.filterMap uOf } := by
  have er : (Stm.robot r0.1 r0.2 :: ss).filterMap rOf = r0 :: ss.filterMap rOf := rfl
  have ep : (Stm.robot r0.1 r0.2 :: ss).filterMap pOf = ss.filterMap pOf := rfl
  have eu : (Stm.robot r0.1 r0.2 :: ss).filterMap uOf = ss.filterMap uOf := rfl
  have hfit : Fits pl.floor.length pl.signs pl.moods (stN0 pl.signs pl.moods) (.robot r0.1 r0.2 :: ss) := by
    refine fits_mix h.sN h.mN ?_ ?_ ?_ ?_ ?_ ?_ rfl
    · rw [er, ← m.ro]
      exact h.rt
    · rw [er, ← m.ro]
      simpa [stN0] using h.r3
    · rw [ep]
      intro q hq
      obtain ⟨a, b⟩ := m.p1 q hq
      exact ⟨a, by rw [b]; exact fl_at h a⟩
    · rw [ep]
      exact m.p2
    · rw [eu]
      exact fun kv hkv => h.ru kv (m.ru.mem_iff.mp hkv)
    · rw [eu]
      exact (m.ru.map (·.1)).nodup_iff.mpr h.rn
  obtain ⟨n, hp⟩ := parse_ok (T := T) (tiles := pl.floor.length) (signs := pl.signs) (moods := pl.moods) h.sN h.mN h.s1 h.m1 h.s4 h.m6 h.n1 h.n16 hK hfit
  rw [fold_mix, er, ep, eu, ← m.ro] at hp
  refine ⟨_, (by
    unfold loads
    rw [hT]
    exact hp), rfl, ?_⟩
  unfold planOf
  simp only [stN0, List.nil_append]
  rw [floor_mix m]
theorem loads_mixL {pl : Plan} (h : WfP pl) {r0 : Nat × Bool} {ss : List Stm} (m : Mix pl r0 ss) (hne : ∀ ws ∈ mixL pl r0 ss, ws ≠ []) :
    ∃ s, loads (TL.joinL [10] ((mixL pl r0 ss).map lineOf)) = .ok (pl.floor.length, s) ∧ s.faults = [] ∧ planOf pl.floor.length s = { pl with rules := ss.filterMap uOf } := by
  obtain ⟨T, hT, hK⟩ := tokenize_lines (lss := mixL pl r0 ss) (by unfold mixL; simp) fun ws hws => ⟨hne ws hws, mixL_words h m ws hws⟩
  exact loads_kts h m hT hK
end Sw

end

section
set_option maxRecDepth 100000
set_option maxHeartbeats 4000000
/-! the parts of a text of lines: its words, a space ahead of ; -/
namespace Sw
open PySem PySem.Spec L2 PySem.StrLaws SwA
def semiG (c : Nat) : Cs := if c = 59 then [32, 59] else [c]
theorem isL_sp {c : Nat} (h : isL c = true) : Unicode.isSpace c = false := by
  have key : ∀ c, c < 128 → isL c = true → Unicode.isSpace c = false := by decide +kernel
  refine key c ?_ h
  simp only [isL, Bool.and_eq_true, Nat.ble_eq] at h
  omega
theorem isD_sp {c : Nat} (h : isD c = true) : Unicode.isSpace c = false := by
  have key : ∀ c, c < 128 → isD c = true → Unicode.isSpace c = false := by decide +kernel
  refine key c ?_ h
  simp only [isD, Bool.and_eq_true, Nat.ble_eq] at h
  omega
theorem wd_sp {w : Cs} (h : Wd w ∨ Nm w) : w ≠ [] ∧ ∀ c ∈ w, Unicode.isSpace c = false ∧ c ≠ 59 := by
  rcases h with ⟨a, b, _⟩ | ⟨a, b, _⟩
  · exact ⟨fun z => by subst z; simp at b, fun c hc => ⟨isL_sp (a c hc), (isL_ne (a c hc)).1⟩⟩
  · exact ⟨fun z => by subst z; simp at b, fun c hc => ⟨isD_sp (a c hc), (isD_ne (a c hc)).1⟩⟩
theorem fold_w : ∀ {w : Cs} {ws : List Cs} {u : Cs}, (∀ c ∈ w, Unicode.isSpace c = false) → w.foldl TL.wstep (ws, u) = (ws, u ++ w)
  | [], ws, u, _ => by simp
  | c :: w, ws, u, h => by
    have e : TL.wstep (ws, u) c = (ws, u ++ [c]) := if_neg (by rw [h c List.mem_cons_self]; decide)
    rw [List.foldl_cons, e, fold_w fun x hx => h x (List.mem_cons_of_mem _ hx), List.append_assoc]
    rfl
theorem fold_sp {c : Nat} {ws : List Cs} {u : Cs} (hc : Unicode.isSpace c = true) : TL.wstep (ws, u) c = (if u = [] then (ws, u) else (ws ++ [u], [])) := if_pos hc
theorem semi_w : ∀ {w : Cs}, (∀ c ∈ w, c ≠ 59) → w.flatMap semiG = w
  | [], _ => rfl
  | c :: w, h => by
    rw [List.flatMap_cons, semi_w fun x hx => h x (List.mem_cons_of_mem _ hx)]
    show (if c = 59 then _ else [c]) ++ w = _
    rw [if_neg (h c List.mem_cons_self)]
    rfl
theorem fold_line : ∀ {ls : List Cs} {acc : List Cs}, ls ≠ [] → (∀ w ∈ ls, Wd w ∨ Nm w) → ((lineOf ls).flatMap semiG).foldl TL.wstep (acc, []) = (acc ++ ls, [59])
  | [], _, h, _ => absurd rfl h
  | [w], acc, _, hw => by
    obtain ⟨h1, h2⟩ := wd_sp (hw w List.mem_cons_self)
    have e : (lineOf [w]).flatMap semiG = w ++ [32, 59] := by
      show (w ++ [59]).flatMap semiG = _
      rw [List.flatMap_append, semi_w fun c hc => (h2 c hc).2]
      rfl
    rw [e, List.foldl_append, fold_w fun c hc => (h2 c hc).1, List.nil_append]
    show TL.wstep (TL.wstep (acc, w) 32) 59 = _
    have e1 : TL.wstep (acc, w) 32 = (acc ++ [w], []) := (fold_sp (by decide +kernel)).trans (if_neg h1)
    rw [e1]
    exact if_neg (by decide +kernel)
  | w :: w2 :: ls, acc, _, hw => by
    obtain ⟨h1, h2⟩ := wd_sp (hw w List.mem_cons_self)
    have e : lineOf (w :: w2 :: ls) = w ++ 32 :: lineOf (w2 :: ls) := by
      show (w ++ 32 :: wordsOf (w2 :: ls)) ++ [59] = _
      rw [List.append_assoc]
      rfl
    rw [e, List.flatMap_append, semi_w fun c hc => (h2 c hc).2, List.foldl_append, fold_w fun c hc => (h2 c hc).1, List.nil_append, List.flatMap_cons]
    show ((semiG 32 ++ (lineOf (w2 :: ls)).flatMap semiG).foldl TL.wstep (acc, w)) = _
    have e3 : semiG 32 = [32] := rfl
    rw [e3, List.foldl_append]
    show ((lineOf (w2 :: ls)).flatMap semiG).foldl TL.wstep (TL.wstep (acc, w) 32) = _
    rw [fold_sp (by decide +kernel), if_neg h1, fold_line (by simp) fun x hx => hw x (List.mem_cons_of_mem _ hx)]
    simp
theorem fold_lines : ∀ {lss : List (List Cs)} {acc : List Cs}, lss ≠ [] → (∀ ls ∈ lss, ls ≠ [] ∧ ∀ w ∈ ls, Wd w ∨ Nm w) → ∃ X, X ++ [wSemi] = partsOf lss ∧ ((TL.joinL [10] (lss.map lineOf)).flatMap semiG).foldl TL.wstep (acc, []) = (acc ++ X, [59])
  | [], acc, hn, _ => absurd rfl hn
  | [ls], acc, _, h => by
    obtain ⟨h1, h2⟩ := h ls List.mem_cons_self
    refine ⟨ls, by simp [partsOf], ?_⟩
    show ((lineOf ls).flatMap semiG).foldl TL.wstep (acc, []) = _
    exact fold_line h1 h2
  | ls :: l2 :: lss, acc, _, h => by
    obtain ⟨h1, h2⟩ := h ls List.mem_cons_self
    obtain ⟨X, hX, hf⟩ := fold_lines (lss := l2 :: lss) (acc := acc ++ ls ++ [[59]]) (by simp) fun x hx => h x (List.mem_cons_of_mem _ hx)
    refine ⟨ls ++ [wSemi] ++ X, by rw [List.append_assoc, hX]; simp [partsOf], ?_⟩
    show ((lineOf ls ++ ([10] ++ TL.joinL [10] ((l2 :: lss).map lineOf))).flatMap semiG).foldl TL.wstep (acc, []) = _
    rw [List.flatMap_append, List.foldl_append, fold_line h1 h2, List.flatMap_append]
    have e3 : [10].flatMap semiG = [10] := rfl
    rw [e3, List.foldl_append]
    show ((TL.joinL [10] ((l2 :: lss).map lineOf)).flatMap semiG).foldl TL.wstep (TL.wstep (acc ++ ls, [59]) 10) = _
    rw [fold_sp (by decide +kernel), if_neg (by simp), hf]
    simp [wSemi]
theorem repl_semi : ∀ l : Cs, replL [59] [32, 59] l = l.flatMap semiG
  | [] => replL_nil
  | c :: l => by
    by_cases h : c = 59
    · subst h
      rw [replL_hit (by simp) rfl]
      show [32, 59] ++ replL [59] [32, 59] l = _
      rw [repl_semi l]
      rfl
    · rw [replL_miss (by intro z; exact h (List.cons.inj z).1), repl_semi l, List.flatMap_cons]
      show _ = (if c = 59 then _ else [c]) ++ _
      rw [if_neg h]
      rfl
/-- the words of the lines' text, a space ahead of ; -/
theorem words_lines {lss : List (List Cs)} (hn : lss ≠ []) (h : ∀ ls ∈ lss, ls ≠ [] ∧ ∀ w ∈ ls, Wd w ∨ Nm w) : TL.wfin ((replL [59] [32, 59] (TL.joinL [10] (lss.map lineOf))).foldl TL.wstep ([], [])) = partsOf lss := by
  obtain ⟨X, hX, hf⟩ := fold_lines (acc := []) hn h
  rw [repl_semi, hf, ← hX]
  show (if ([59] : Cs) = [] then _ else _) = _
  rw [if_neg (by simp)]
  rfl
theorem join_repl2 {lss : List (List Cs)} (hn : lss ≠ []) (h : ∀ ls ∈ lss, ls ≠ [] ∧ ∀ w ∈ ls, Wd w ∨ Nm w) : Txt.words (Txt.replace (sx (TL.joinL [10] (lss.map lineOf))) ";" " ;") = (partsOf lss).map sx := by
  have hinj : ∀ {a b : List Str}, a.map TL.tl = b.map TL.tl → a = b := fun {a b} e => by
    have : Function.Injective TL.tl := fun x y q => by
      cases x; cases y
      exact congrArg Str.mk (Array.toList_inj.mp q)
    exact (List.map_inj_right fun x y q => this q).mp e
  apply hinj
  rw [TL.words_tl]
  have e1 : TL.tl (Txt.replace (sx (TL.joinL [10] (lss.map lineOf))) ";" " ;") = replL [59] [32, 59] (TL.joinL [10] (lss.map lineOf)) := by
    have := replace_list (x := sx (TL.joinL [10] (lss.map lineOf))) (y := ";") (z := " ;") (by decide +kernel)
    have a1 : (";" : Str).cps.toList = [59] := by decide +kernel
    have a2 : (" ;" : Str).cps.toList = [32, 59] := by decide +kernel
    have a3 : (sx (TL.joinL [10] (lss.map lineOf))).cps.toList = TL.joinL [10] (lss.map lineOf) := by simp [sx]
    rw [a1, a2, a3] at this
    exact this
  rw [e1, words_lines hn h, List.map_map]
  have : (TL.tl ∘ sx) = (id : Cs → Cs) := funext fun l => by simp [TL.tl, sx]
  rw [this, List.map_id]
end Sw

end

section
set_option maxRecDepth 100000
set_option maxHeartbeats 4000000
set_option pp.deepTerms false
set_option pp.deepTerms.threshold 8
/-! the law's own: tokens with random gaps, and their places -/
namespace Sw
open PySem PySem.Spec PyProof.Rows L2 SwA
theorem at_slots {t : L2.St → Hp → Prop} {σ : L2.St} {H : Hp} (σ' : L2.St) (e : σ = σ') (h : t σ' H) : t σ H := e ▸ h
theorem gapT_snoc2 (l : List (Nat × Cs)) (q : Nat × Cs) : gapT (l ++ [q]) = gapT l ++ gapS q.1 ++ q.2 := by simp [gapT]
theorem gapS_len2 (g : Nat) : (gapS g).length ≤ 2 := by unfold gapS; split <;> simp
theorem gapT_len2 {l : List (Nat × Cs)} (h : ∀ q ∈ l, q.2.length ≤ 20) : (gapT l).length ≤ l.length * 22 := by
  induction l with
  | nil => simp [gapT]
  | cons q l ih =>
    have h1 := ih fun x hx => h x (List.mem_cons_of_mem _ hx)
    have h2 := h q List.mem_cons_self
    have h3 := gapS_len2 q.1
    have e : gapT (q :: l) = gapS q.1 ++ q.2 ++ gapT l := by simp [gapT]
    rw [e, List.length_append, List.length_append, List.length_cons]
    omega
/-- where a token lies: behind a gap, from a line and a column on -/
def stepP (lc : Nat × Nat) (g : Nat) : Nat × Nat := if g = 2 then (lc.1 + 1, 0) else (lc.1, lc.2 + (g + 1))
def endP (lc : Nat × Nat) (l : List (Nat × Cs)) : Nat × Nat := l.foldl (fun p q => ((stepP p q.1).1, (stepP p q.1).2 + q.2.length)) lc
def plcs (lc : Nat × Nat) : List (Nat × Cs) → List (Nat × Nat)
  | [] => []
  | q :: l => stepP lc q.1 :: plcs ((stepP lc q.1).1, (stepP lc q.1).2 + q.2.length) l
theorem plcs_snoc : ∀ (l : List (Nat × Cs)) (q : Nat × Cs) (lc : Nat × Nat), plcs lc (l ++ [q]) = plcs lc l ++ [stepP (endP lc l) q.1]
  | [], q, lc => rfl
  | x :: l, q, lc => by
    show _ :: plcs _ (l ++ [q]) = _
    rw [plcs_snoc l q]
    rfl
theorem endP_snoc (l : List (Nat × Cs)) (q : Nat × Cs) (lc : Nat × Nat) : endP lc (l ++ [q]) = ((stepP (endP lc l) q.1).1, (stepP (endP lc l) q.1).2 + q.2.length) := by
  unfold endP
  rw [List.foldl_append]
  rfl
theorem plcs_len : ∀ (l : List (Nat × Cs)) (lc : Nat × Nat), l.length = (plcs lc l).length
  | [], _ => rfl
  | _ :: l, _ => by
    show l.length + 1 = (plcs _ l).length + 1
    rw [plcs_len l]
def PlcA (H : Hp) (a : Addr) (p : Nat × Nat) : Prop := H a = some (.tup [.int p.1, .int p.2])
structure PpT (K : PySem.W.Frag) (mg : Str → Option Value) : Prop where
  l : LawT K mg
  pp : DeT K mg "_law_placed" s__law_placed
section
variable {P : Program} {w : World} {K : PySem.W.Frag} {mg : Str → Option Value} {base : Heap}
def spPlaced (K : PySem.W.Frag) : Sp := fun vs H Q _ => ∃ (d tl : Addr) (ts : List Cs), vs = [.ref d, .ref tl] ∧ DrawAt H d ∧ tl ≠ d ∧ H tl = some (.lst (ts.map sV)) ∧ ts.length ≤ 2000 ∧ (∀ t ∈ ts, t.length ≤ 20) ∧
  ∀ (t pa : Addr) (as : List Addr) (l : List (Nat × Cs)) (H' : Hp), Drawn d H H' → H t = none → H' t = some (.tup [.ref pa, sV (gapT l)]) → H' pa = some (.lst (as.map V.ref)) → Paired (PlcA H') as (plcs (0, 0) l) → l.map (·.2) = ts → (∀ q ∈ l, q.1 < 3) → Q (.ref t) H'
abbrev plcN : List Str := ["_law_d", "_law_tokens", "_law_places", "_law_text_here", "_law_line", "_law_column", "_law_token", "_law_gap"]
theorem sc_pp : FnScope plcN ["_law_d", "_law_tokens"] (defScope s__law_placed) := ⟨rfl, rfl, rfl, by decide +kernel, rfl, by decide +kernel, by decide +kernel⟩
theorem ok_pp (T : PpT K mg) : FnE P w K mg base CX0 2 ("_law_placed", none) ["_law_d", "_law_tokens"] (spPlaced K) := by
  obtain ⟨fd, F⟩ := T.pp.d
  obtain ⟨fdB, GB, bB, kB⟩ := ok_below (P := P) (w := w) (base := base) T.l
  refine ⟨fd, F.ok sc_pp (fun vs H Q E h => ?_) (fun cdv A outer s H vs Q E hr h => ?_), F.bindsN fun _ _ _ _ _ _ us hl => match us, hl with | [_, _], _ => rfl, F.kp⟩
  · obtain ⟨d, tl, ts, rfl, _⟩ := h
    rfl
  · obtain ⟨d, tl, ts, rfl, hd, ntd, htl, hts, h20, k⟩ := h
    have hr1 : Room 1 _ := hr.mono (by decide)
    refine ⟨_, PSs.nox (pss_cons (ps_asg (pe_tup (pa_cons (pe_lst pa_nil) (pa_cons pe_str (pa_cons pe_int (pa_cons pe_int pa_nil)))))
        (pg_tup rfl (pgs_cons (pg_name (i := 2) sc_pp.nd rfl (.inl rfl)) (pgs_cons (pg_name (i := 3) sc_pp.nd rfl (.inl rfl)) (pgs_cons (pg_name (i := 4) sc_pp.nd rfl (.inl rfl)) (pgs_cons (pg_name (i := 5) sc_pp.nd rfl (.inl rfl)) pgs_nil))))))
      (pss_cons (ps_for PassesOwn.never rfl (pi_list (pv 1)) (pg_name (i := 6) sc_pp.nd rfl (.inl rfl))
        (pss_cons (ps_set (i := 7) sc_pp.nd rfl (.inl rfl) (pe_ix ix_list (pe_lst (pa_cons pe_str (pa_cons pe_str (pa_cons pe_str pa_nil)))) (pe_call GB hr1 rfl T.l.below.g kB bB .nil pass0 (pa_cons (pv 0) (pa_cons pe_int pa_nil))) (fun _ _ => rfl)))
        (pss_cons (ps_set (i := 3) sc_pp.nd rfl (.inl rfl) (pe_op op_add_str (pv 3) (pv 7)))
        (pss_cons (ps_asg (pe_ifExp (pt_cmpR op_eq (pv 7) pe_str (nomark _)) (pe_tup (pa_cons (pe_op op_add (pv 4) pe_int) (pa_cons pe_int pa_nil))) (pe_tup (pa_cons (pv 4) (pa_cons (pe_op op_add (pv 5) (pe_callB call_len_str (by rfl) T.l.len boot_len (pa_cons (pv 7) pa_nil))) pa_nil))))
          (pg_tup rfl (pgs_cons (pg_name (i := 4) sc_pp.nd rfl (.inl rfl)) (pgs_cons (pg_name (i := 5) sc_pp.nd rfl (.inl rfl)) pgs_nil))))
        (pss_cons (ps_expr (pe_bm PySem.F.plainAttrs_list PySem.F.slot_list_append PySem.F.type_list_append mt_append (pv 2) (pa_cons (pe_tup (pa_cons (pv 4) (pa_cons (pv 5) pa_nil))) pa_nil)))
        (pss_one (ps_par (i := 3) (j := 5) (by rfl) sc_pp.nd rfl rfl (by decide) rfl rfl (pa_cons (pe_op op_add_str (pv 3) (pv 6)) (pa_cons (pe_op op_add (pv 5) (pe_callB call_len_str (by rfl) T.l.len boot_len (pa_cons (pv 6) pa_nil))) pa_nil)) (by rfl))))))))
      (pss_one (ps_ret (pe_tup (pa_cons (pv 2) (pa_cons (pv 3) pa_nil))))))), ?_⟩
    refine ⟨(by show 0 ≤ sizeLine; decide), fun pa npa => ?_⟩
    have npd : pa ≠ d := fun z => by
      obtain ⟨_, _, _, _, e⟩ := hd
      rw [z, e] at npa
      cases npa
    have s1 := sameUpd (o := .lst []) (Same.refl H) npa
    have hpa := @upd_same H pa (.lst [])
    generalize upd H pa (.lst []) = H1 at *
    refine ⟨(by show 4 ≤ sizeLine; decide), fun q nq => ?_⟩
    have s2 := sameUpd (o := .tup [.ref pa, .str "", .int 0, .int 0]) (Same.refl H1) nq
    have hq := @upd_same H1 q (.tup [.ref pa, .str "", .int 0, .int 0])
    replace hpa := s2 _ _ hpa
    replace s1 := s1.trans s2
    generalize upd H1 q (.tup [.ref pa, .str "", .int 0, .int 0]) = H2 at *
    refine ⟨q, _, rfl, SqT.of hq, rfl, _, _, rfl, _, _, rfl, _, _, rfl, _, _, rfl, rfl, ?_⟩
    have dr2 := Drawn.of hd s1
    have htl2 := s1 _ _ htl
    clear s2 hq nq
    dsimp only [gName]
    refine at_slots [some (.ref d), some (.ref tl), some (.ref pa), some (.str ""), some (.int 0), some (.int 0), none, none] rfl ?_
    refine ⟨_, rfl, tl, rfl, ⟨_, SqL.of htl2⟩, ?_⟩
    have ptl : pa ≠ tl := fun z => by rw [z, htl] at npa; cases npa
    refine for_list (K := K) (a := tl) (xs := ts.map sV) (fun i σ Hx => ∃ (as : List Addr) (l : List (Nat × Cs)) (o6 o7 : Option V), σ = [some (.ref d), some (.ref tl), some (.ref pa), some (sV (gapT l)), some (.int ((endP (0, 0) l).1 : Nat)), some (.int ((endP (0, 0) l).2 : Nat)), o6, o7] ∧ Drawn d H Hx ∧ Hx pa = some (.lst (as.map V.ref)) ∧ Paired (PlcA Hx) as (plcs (0, 0) l) ∧ l.map (·.2) = ts.take i ∧ (∀ q ∈ l, q.1 < 3)) ⟨[], [], none, none, rfl, dr2, hpa, .nil, rfl, by simp⟩ (fun i σ Hx _ ⟨_, _, _, _, _, dr, _⟩ => SqL.of (dr.same _ _ ntd htl)) ?_ ?_
    · clear dr2 htl2 hpa s1
      rintro i x σ Hx hx ⟨as, l, o6, o7, rfl, dr, hpa, hpl, hl, hg⟩
      rw [List.getElem?_map] at hx
      cases hti : ts[i]? with
      | none => rw [hti] at hx; cases hx
      | some tk =>
        rw [hti] at hx
        cases hx
        have hil := (List.getElem?_eq_some_iff.mp hti).1
        have hll : l.length = i := by
          have := congrArg List.length hl
          rw [List.length_map, List.length_take] at this
          omega
        have htk := h20 tk (List.mem_of_getElem? hti)
        have hl20 : ∀ q ∈ l, q.2.length ≤ 20 := fun q hq => h20 _ (List.mem_of_mem_take (by rw [← hl]; exact List.mem_map_of_mem hq))
        have hgl := gapT_len2 hl20
        refine ⟨(by show 3 ≤ sizeLine; decide), fun gl ngl => ?_⟩
        have ngd : gl ≠ d := fun z => by
          obtain ⟨_, _, _, _, e⟩ := dr.at_
          rw [z, e] at ngl
          cases ngl
        have s3 := sameUpd (o := .lst [.str " ", .str "  ", .str "\n"]) (Same.refl Hx) ngl
        have hgv := @upd_same Hx gl (.lst [.str " ", .str "  ", .str "\n"])
        have dr3 := dr.trans (Drawn.of dr.at_ s3)
        have hpa3 := s3 _ _ hpa
        have hpl3 : Paired (PlcA (upd Hx gl (.lst [.str " ", .str "  ", .str "\n"]))) as (plcs (0, 0) l) := Paired.mapP hpl fun _ _ q => s3 _ _ q
        generalize upd Hx gl (.lst [.str " ", .str "  ", .str "\n"]) = Hy at *
        refine ⟨_, rfl, d, 3, rfl, dr3.at_, by decide, by decide, fun g s0 c0 bs0 hg3 hbs => ?_⟩
        have dr4 := dr3.draw (s := s0) (c := c0) hbs
        have hgv4 : (upd Hy d (drawL s0 c0 bs0)) gl = _ := (upd_ne ngd).trans hgv
        have hpa4 : (upd Hy d (drawL s0 c0 bs0)) pa = _ := (upd_ne npd).trans hpa3
        have hpl4 : Paired (PlcA (upd Hy d (drawL s0 c0 bs0))) as (plcs (0, 0) l) := Paired.mapP hpl3 fun a p q => (upd_ne fun z => by
          obtain ⟨_, _, _, _, e⟩ := dr3.at_
          have q : Hy a = _ := q
          rw [z, e] at q
          cases q).trans q
        generalize upd Hy d (drawL s0 c0 bs0) = Hz at *
        obtain ⟨hgs, hgt, hgn⟩ : ([.str " ", .str "  ", .str "\n"] : List V)[g]? = some (sV (gapS g)) ∧ decide (sV (gapS g) = V.str "\n") = decide (g = 2) ∧ (g ≠ 2 → (sx (gapS g)).length = g + 1) := by
          match g, hg3 with
          | 0, _ => exact ⟨by decide +kernel, by decide +kernel, fun _ => by decide +kernel⟩
          | 1, _ => exact ⟨by decide +kernel, by decide +kernel, fun _ => by decide +kernel⟩
          | 2, _ => exact ⟨by decide +kernel, by decide +kernel, fun z => absurd rfl z⟩
        refine ⟨gl, _, g, _, rfl, rfl, SqL.of hgv4, atI_nat hgs, ?_⟩
        clear hgv hgv4 hpa hpl hpa3 hpl3 dr dr3 s3 hbs
        dsimp only [gName]
        have hgS := gapS_len2 g
        refine ⟨_, rfl, _, rfl, _, _, rfl, rfl, by rw [sx_len, sx_len, sizeLine_eq]; omega, ?_⟩
        have ept : sx (gapT l) ++ sx (gapS g) = sx (gapT l ++ gapS g) := sx_app _ _
        rw [ept]
        dsimp only [gName]
        refine at_slots [some (.ref d), some (.ref tl), some (.ref pa), some (sV (gapT l ++ gapS g)), some (.int ((endP (0, 0) l).1 : Nat)), some (.int ((endP (0, 0) l).2 : Nat)), some (sV tk), some (sV (gapS g))] rfl ?_
        refine ⟨_, rfl, rfl, _, rfl, ?_⟩
        rw [hgt]
        by_cases h2 : g = 2
        · rw [decide_eq_true h2]
          refine iteT ⟨_, rfl, _, _, rfl, rfl, (by show 2 ≤ sizeLine; decide), fun tt ntt => ?_⟩
          have s5 := sameUpd (o := .tup [.int (((endP (0, 0) l).1 : Nat) + 1), .int 0]) (Same.refl Hz) ntt
          have htt0 := @upd_same Hz tt (.tup [.int (((endP (0, 0) l).1 : Nat) + 1), .int 0])
          generalize upd Hz tt (.tup [.int (((endP (0, 0) l).1 : Nat) + 1), .int 0]) = H5 at *
          have htt : H5 tt = some (.tup [.int ((stepP (endP (0, 0) l) g).1 : Nat), .int ((stepP (endP (0, 0) l) g).2 : Nat)]) := by
            rw [htt0]
            unfold stepP
            rw [if_pos h2]
            rfl
          refine ⟨tt, _, rfl, SqT.of htt, rfl, _, _, rfl, _, _, rfl, rfl, ?_⟩
          have dr5 := dr4.trans (Drawn.of dr4.at_ s5)
          replace hpa4 := s5 _ _ hpa4
          replace hpl4 := Paired.mapP hpl4 fun _ _ q => s5 _ _ q
          clear s5 htt htt0 ntt dr4
          dsimp only [gName]
          refine at_slots [some (.ref d), some (.ref tl), some (.ref pa), some (sV (gapT l ++ gapS g)), some (.int ((stepP (endP (0, 0) l) g).1 : Nat)), some (.int ((stepP (endP (0, 0) l) g).2 : Nat)), some (sV tk), some (sV (gapS g))] rfl ?_
          refine ⟨_, rfl, .inl ⟨rfl, _, SqL.of hpa4⟩, _, rfl, _, rfl, (by show 2 ≤ sizeLine; decide), fun ta nta => ?_⟩
          have s6 := sameUpd (o := .tup [.int ((stepP (endP (0, 0) l) g).1 : Nat), .int ((stepP (endP (0, 0) l) g).2 : Nat)]) (Same.refl H5) nta
          have hta := @upd_same H5 ta (.tup [.int ((stepP (endP (0, 0) l) g).1 : Nat), .int ((stepP (endP (0, 0) l) g).2 : Nat)])
          replace hpa4 := s6 _ _ hpa4
          generalize upd H5 ta (.tup [.int ((stepP (endP (0, 0) l) g).1 : Nat), .int ((stepP (endP (0, 0) l) g).2 : Nat)]) = H6 at *
          replace hpl4 := Paired.mapP hpl4 fun _ _ q => s6 _ _ q
          have hal : as.length = i := by rw [hpl4.length, ← plcs_len l (0, 0), hll]
          refine ⟨pa, _, _, rfl, rfl, hpa4, by rw [List.length_map, hal, sizeLine_eq]; omega, ?_⟩
          refine ⟨_, rfl, _, rfl, _, _, rfl, rfl, by rw [sx_len, sx_len, List.length_append, sizeLine_eq]; omega, _, rfl, _, rfl, _, rfl, by rw [sx_len, sizeLine_eq]; omega, _, _, rfl, rfl, ?_⟩
          have npd' : pa ≠ d := npd
          refine ⟨_, _, rfl, as ++ [ta], l ++ [(g, tk)], some (sV tk), some (sV (gapS g)), (by rw [endP_snoc, gapT_snoc2, sx_app (gapT l ++ gapS g) tk, sx_len tk]; rfl), ⟨fun b o nb e => (upd_ne fun z => by rw [z, npa] at e; cases e).trans (s6 _ _ (dr5.same b o nb e)), ?_⟩, by rw [upd_same, List.map_append]; rfl, ?_, ?_, ?_⟩
          · obtain ⟨x1, x2, x3, x4, e⟩ := dr5.at_
            exact ⟨x1, x2, x3, x4, (upd_ne npd.symm).trans (s6 _ _ e)⟩
          · rw [plcs_snoc]
            have kt : ∀ {b : Addr} {xs : List V}, H6 b = some (.tup xs) → upd H6 pa (.lst (as.map V.ref ++ [.ref ta])) b = some (.tup xs) := fun e => (upd_ne fun z => by rw [z, hpa4] at e; cases e).trans e
            exact Paired_snoc (Paired.mapP hpl4 fun _ _ q => kt q) (kt hta)
          · rw [List.map_append, hl, List.take_succ, hti]
            rfl
          · intro q hq
            rcases List.mem_append.mp hq with z | z
            · exact hg q z
            · rw [List.mem_singleton.mp z]
              exact hg3
        · rw [decide_eq_false h2]
          refine iteF ⟨_, rfl, _, rfl, _, rfl, _, rfl, by rw [sx_len, sizeLine_eq]; omega, _, _, rfl, rfl, (by show 2 ≤ sizeLine; decide), fun tt ntt => ?_⟩
          have s5 := sameUpd (o := .tup [.int ((endP (0, 0) l).1 : Nat), .int (((endP (0, 0) l).2 : Nat) + ((sx (gapS g)).length : Nat))]) (Same.refl Hz) ntt
          have htt0 := @upd_same Hz tt (.tup [.int ((endP (0, 0) l).1 : Nat), .int (((endP (0, 0) l).2 : Nat) + ((sx (gapS g)).length : Nat))])
          generalize upd Hz tt (.tup [.int ((endP (0, 0) l).1 : Nat), .int (((endP (0, 0) l).2 : Nat) + ((sx (gapS g)).length : Nat))]) = H5 at *
          have htt : H5 tt = some (.tup [.int ((stepP (endP (0, 0) l) g).1 : Nat), .int ((stepP (endP (0, 0) l) g).2 : Nat)]) := by
            rw [htt0]
            unfold stepP
            rw [if_neg h2, hgn h2]
            rfl
          refine ⟨tt, _, rfl, SqT.of htt, rfl, _, _, rfl, _, _, rfl, rfl, ?_⟩
          have dr5 := dr4.trans (Drawn.of dr4.at_ s5)
          replace hpa4 := s5 _ _ hpa4
          replace hpl4 := Paired.mapP hpl4 fun _ _ q => s5 _ _ q
          clear s5 htt htt0 ntt dr4
          dsimp only [gName]
          refine at_slots [some (.ref d), some (.ref tl), some (.ref pa), some (sV (gapT l ++ gapS g)), some (.int ((stepP (endP (0, 0) l) g).1 : Nat)), some (.int ((stepP (endP (0, 0) l) g).2 : Nat)), some (sV tk), some (sV (gapS g))] rfl ?_
          refine ⟨_, rfl, .inl ⟨rfl, _, SqL.of hpa4⟩, _, rfl, _, rfl, (by show 2 ≤ sizeLine; decide), fun ta nta => ?_⟩
          have s6 := sameUpd (o := .tup [.int ((stepP (endP (0, 0) l) g).1 : Nat), .int ((stepP (endP (0, 0) l) g).2 : Nat)]) (Same.refl H5) nta
          have hta := @upd_same H5 ta (.tup [.int ((stepP (endP (0, 0) l) g).1 : Nat), .int ((stepP (endP (0, 0) l) g).2 : Nat)])
          replace hpa4 := s6 _ _ hpa4
          generalize upd H5 ta (.tup [.int ((stepP (endP (0, 0) l) g).1 : Nat), .int ((stepP (endP (0, 0) l) g).2 : Nat)]) = H6 at *
          replace hpl4 := Paired.mapP hpl4 fun _ _ q => s6 _ _ q
          have hal : as.length = i := by rw [hpl4.length, ← plcs_len l (0, 0), hll]
          refine ⟨pa, _, _, rfl, rfl, hpa4, by rw [List.length_map, hal, sizeLine_eq]; omega, ?_⟩
          refine ⟨_, rfl, _, rfl, _, _, rfl, rfl, by rw [sx_len, sx_len, List.length_append, sizeLine_eq]; omega, _, rfl, _, rfl, _, rfl, by rw [sx_len, sizeLine_eq]; omega, _, _, rfl, rfl, ?_⟩
          have npd' : pa ≠ d := npd
          refine ⟨_, _, rfl, as ++ [ta], l ++ [(g, tk)], some (sV tk), some (sV (gapS g)), (by rw [endP_snoc, gapT_snoc2, sx_app (gapT l ++ gapS g) tk, sx_len tk]; rfl), ⟨fun b o nb e => (upd_ne fun z => by rw [z, npa] at e; cases e).trans (s6 _ _ (dr5.same b o nb e)), ?_⟩, by rw [upd_same, List.map_append]; rfl, ?_, ?_, ?_⟩
          · obtain ⟨x1, x2, x3, x4, e⟩ := dr5.at_
            exact ⟨x1, x2, x3, x4, (upd_ne npd.symm).trans (s6 _ _ e)⟩
          · rw [plcs_snoc]
            have kt : ∀ {b : Addr} {xs : List V}, H6 b = some (.tup xs) → upd H6 pa (.lst (as.map V.ref ++ [.ref ta])) b = some (.tup xs) := fun e => (upd_ne fun z => by rw [z, hpa4] at e; cases e).trans e
            exact Paired_snoc (Paired.mapP hpl4 fun _ _ q => kt q) (kt hta)
          · rw [List.map_append, hl, List.take_succ, hti]
            rfl
          · intro q hq
            rcases List.mem_append.mp hq with z | z
            · exact hg q z
            · rw [List.mem_singleton.mp z]
              exact hg3
    · rintro σ Hx ⟨as, l, o6, o7, rfl, dr, hpa, hpl, hl, hg⟩
      rw [List.length_map, List.take_length] at hl
      refine ⟨_, rfl, _, rfl, (by show 2 ≤ sizeLine; decide), fun t nt => ?_⟩
      have s7 := sameUpd (o := .tup [.ref pa, sV (gapT l)]) (Same.refl Hx) nt
      exact k t pa as l _ (dr.new nt) (dr.free (let ⟨_, _, _, _, e⟩ := hd; ⟨_, e⟩) nt) upd_same (s7 _ _ hpa) (Paired.mapP hpl fun _ _ q => s7 _ _ q) hl hg
end
end Sw

end

section
set_option maxRecDepth 100000
set_option maxHeartbeats 4000000
/-! k36: plain part: robots' lines, lines in another order -/
namespace Sw
open PySem PySem.Spec PyProof.Rows L2 SwA PySem.StrLaws
def isRob (ws : List Cs) : Bool := decide (ws.head? = some wRobot)
theorem cutN_sx (l : Cs) (n : Nat) : L2.cutS (sx l) none (some (n : Int)) = sx (l.take n) := by
  show Str.mk _ = _
  have e : (sx l).length = l.length := sx_len l
  rw [HT.sIx_none, HT.sIx_nat, e]
  have e2 : (sx l).cps.toList = l := by simp [sx]
  rw [e2, List.drop_zero, Nat.sub_zero, ← List.take_eq_take_min]
  rfl
theorem rob_line {w v : Cs} {r : List Cs} (h : w ∈ [wCorridor, wSigns, wMoods, wRobot, wPut, wWhen]) : decide (sx ((lineOf (w :: v :: r)).take 5) = ("robot" : Str)) = isRob (w :: v :: r) := by
  have e0 : ("robot" : Str) = sx wRobot := by kernel_rfl
  have e : lineOf (w :: v :: r) = w ++ 32 :: lineOf (v :: r) := by
    show (w ++ 32 :: wordsOf (v :: r)) ++ [59] = _
    rw [List.append_assoc]
    rfl
  rw [e0, e]
  simp only [List.mem_cons, List.not_mem_nil, or_false] at h
  rcases h with rfl | rfl | rfl | rfl | rfl | rfl
  · exact (decide_eq_false fun z => by have := sx_inj z; simp [wCorridor, wRobot] at this).trans (by rfl)
  · exact (decide_eq_false fun z => by have := sx_inj z; simp [wSigns, wRobot] at this).trans (by rfl)
  · exact (decide_eq_false fun z => by have := sx_inj z; simp [wMoods, wRobot] at this).trans (by rfl)
  · exact (decide_eq_true (by simp [wRobot])).trans (by rfl)
  · exact (decide_eq_false fun z => by have := sx_inj z; simp [wPut, wRobot] at this).trans (by rfl)
  · exact (decide_eq_false fun z => by have := sx_inj z; simp [wWhen, wRobot] at this).trans (by rfl)
theorem lines_form {pl : Plan} (wf : WfP pl) : ∀ ws ∈ linesW pl, ∃ w v r, ws = w :: v :: r ∧ w ∈ [wCorridor, wSigns, wMoods, wRobot, wPut, wWhen] := by
  intro ws hws
  rcases List.mem_append.mp hws with z | z
  · simp only [headW, List.mem_cons, List.not_mem_nil, or_false] at z
    obtain ⟨s0, sr, es⟩ := List.exists_cons_of_ne_nil wf.s1
    obtain ⟨m0, mr, em⟩ := List.exists_cons_of_ne_nil wf.m1
    rcases z with z | z | z
    · exact ⟨_, _, _, z, by simp⟩
    · rw [es] at z
      exact ⟨_, _, _, z, by simp⟩
    · rw [em] at z
      exact ⟨_, _, _, z, by simp⟩
  · obtain ⟨s, _, rfl⟩ := List.mem_map.mp z
    cases s with
    | robot t r => exact ⟨_, _, _, rfl, by simp⟩
    | put g t => exact ⟨_, _, _, rfl, by simp⟩
    | rule k r => exact ⟨_, _, _, rfl, by simp⟩
theorem line_rob {pl : Plan} (wf : WfP pl) {ws : List Cs} (h : ws ∈ linesW pl) : decide (V.str (L2.cutS (sx (lineOf ws)) none (some 5)) = V.str "robot") = isRob ws := by
  obtain ⟨w, v, r, rfl, hw⟩ := lines_form wf ws h
  rw [← rob_line hw]
  have := cutN_sx (lineOf (w :: v :: r)) 5
  rw [show ((5 : Nat) : Int) = 5 from rfl] at this
  rw [this]
  exact decide_eq_decide.mpr ⟨fun z => V.str.inj z, fun z => congrArg V.str z⟩
theorem line_short {ws : List Cs} (h7 : ws.length ≤ 7) (h8 : ∀ w ∈ ws, Wd w ∨ Nm w) : (lineOf ws).length ≤ 100 := by
  have h8 : ∀ w ∈ ws, w.length ≤ 8 := fun w hw => (h8 w hw).elim (fun q => q.2.2) fun q => Nat.le_trans q.2.2.1 (by decide)
  have h1 := joinL_len [32] ws
  have h2 := sum_le h8
  have h3 : ws.length * 8 ≤ 56 := by omega
  unfold lineOf
  rw [words_join, List.length_append]
  simp only [List.length_singleton] at h1 ⊢
  omega
/-- the lines of the mixed text -/
theorem fil_rob {pl : Plan} : (linesW pl).filter isRob = pl.robots.map fun r => stmW pl.signs pl.moods (robS r) := by
  unfold linesW stmsOf
  rw [List.filter_append, List.map_append, List.map_append, List.filter_append, List.filter_append]
  have e0 : (headW pl.floor.length pl.signs pl.moods).filter isRob = [] := by
    rw [List.filter_eq_nil_iff]
    intro a ha
    simp only [headW, List.mem_cons, List.not_mem_nil, or_false] at ha
    rcases ha with rfl | rfl | rfl <;> simp [isRob, wCorridor, wSigns, wMoods, wRobot]
  have e1 : ((pl.robots.map robS).map (stmW pl.signs pl.moods)).filter isRob = pl.robots.map fun r => stmW pl.signs pl.moods (robS r) := by
    rw [List.filter_eq_self.mpr]
    · rw [List.map_map]
      rfl
    · intro a ha
      obtain ⟨s, hs, rfl⟩ := List.mem_map.mp ha
      obtain ⟨r, _, rfl⟩ := List.mem_map.mp hs
      rfl
  have e2 : (((putsL pl.floor).map putS).map (stmW pl.signs pl.moods)).filter isRob = [] := by
    rw [List.filter_eq_nil_iff]
    intro a ha
    obtain ⟨s, hs, rfl⟩ := List.mem_map.mp ha
    obtain ⟨r, _, rfl⟩ := List.mem_map.mp hs
    simp [isRob, putS, stmW, wPut, wRobot]
  have e3 : ((pl.rules.map rulS).map (stmW pl.signs pl.moods)).filter isRob = [] := by
    rw [List.filter_eq_nil_iff]
    intro a ha
    obtain ⟨s, hs, rfl⟩ := List.mem_map.mp ha
    obtain ⟨r, _, rfl⟩ := List.mem_map.mp hs
    simp [isRob, rulS, stmW, wWhen, wRobot]
  rw [e0, e1, e2, e3]
  simp
theorem fil_oth {pl : Plan} : ((linesW pl).drop 3).filter (fun ws => !isRob ws) = ((putsL pl.floor).map putS ++ pl.rules.map rulS).map (stmW pl.signs pl.moods) := by
  have e : (linesW pl).drop 3 = (stmsOf pl).map (stmW pl.signs pl.moods) := rfl
  rw [e]
  unfold stmsOf
  rw [List.map_append, List.filter_append]
  have e1 : ((pl.robots.map robS).map (stmW pl.signs pl.moods)).filter (fun ws => !isRob ws) = [] := by
    rw [List.filter_eq_nil_iff]
    intro a ha
    obtain ⟨s, hs, rfl⟩ := List.mem_map.mp ha
    obtain ⟨r, _, rfl⟩ := List.mem_map.mp hs
    simp [isRob, robS, stmW]
  rw [e1, List.nil_append, List.filter_eq_self]
  intro a ha
  obtain ⟨s, hs, rfl⟩ := List.mem_map.mp ha
  rcases List.mem_append.mp hs with z | z
  · obtain ⟨r, _, rfl⟩ := List.mem_map.mp z
    simp [isRob, putS, stmW, wPut, wRobot]
  · obtain ⟨r, _, rfl⟩ := List.mem_map.mp z
    simp [isRob, rulS, stmW, wWhen, wRobot]
theorem fil_succ {α : Type} (p : α → Bool) {l : List α} {i : Nat} {x : α} (h : l[i]? = some x) : (l.take (i + 1)).filter p = (l.take i).filter p ++ (if p x = true then [x] else []) := by
  rw [List.take_succ, h, List.filter_append]
  congr 1
  by_cases hp : p x = true
  · simp [hp]
  · simp [hp]
theorem cut_dropA {xs : List V} (n : Nat) : cutV xs (some (n : Int)) none = xs.drop n := by
  show (xs.drop (HT.sIx xs.length 0 (some (n : Int)))).take (xs.length - HT.sIx xs.length 0 (some (n : Int))) = xs.drop n
  rw [HT.sIx_nat]
  rcases Nat.le_total n xs.length with h | h
  · rw [Nat.min_eq_left h, List.take_of_length_le (by rw [List.length_drop]; omega)]
  · rw [Nat.min_eq_right h, Nat.sub_self, List.take_zero, List.drop_eq_nil_of_le h]
theorem cut_takeA {xs : List V} (n : Nat) : cutV xs none (some (n : Int)) = xs.take n := by
  show (xs.drop 0).take (HT.sIx xs.length xs.length (some (n : Int)) - 0) = xs.take n
  rw [HT.sIx_nat, List.drop_zero, Nat.sub_zero, ← List.take_eq_take_min]
theorem perm_map_ex {α β : Type} {f : α → β} {ys zs : List β} (h : ys.Perm zs) : ∀ {base : List α}, zs = base.map f → ∃ bs : List α, bs.Perm base ∧ ys = bs.map f := by
  induction h with
  | nil =>
    intro base e
    cases base with
    | nil => exact ⟨[], .refl _, rfl⟩
    | cons _ _ => cases e
  | @cons x l1 l2 _ ih =>
    intro base e
    cases base with
    | nil => cases e
    | cons b base =>
      injection e with e1 e2
      obtain ⟨bs, p, q⟩ := ih e2
      exact ⟨b :: bs, p.cons b, by rw [e1, q]; rfl⟩
  | @swap x y l =>
    intro base e
    cases base with
    | nil => cases e
    | cons b base =>
      cases base with
      | nil => cases e
      | cons c base =>
        injection e with e1 e2
        injection e2 with e3 e4
        exact ⟨c :: b :: base, .swap b c base, by rw [e1, e3, e4]; rfl⟩
  | @trans l1 l2 l3 _ _ ih1 ih2 =>
    intro base e
    obtain ⟨b2, p2, q2⟩ := ih2 e
    obtain ⟨b1, p1, q1⟩ := ih1 q2
    exact ⟨b1, p1.trans p2, q1⟩
theorem parts_len {lss : List (List Cs)} (h : ∀ ls ∈ lss, ls.length ≤ 7) : (partsOf lss).length ≤ lss.length * 8 := by
  induction lss with
  | nil => simp [partsOf]
  | cons a l ih =>
    have h1 := h a List.mem_cons_self
    have h2 := ih fun x hx => h x (List.mem_cons_of_mem _ hx)
    have e : partsOf (a :: l) = (a ++ [wSemi]) ++ partsOf l := rfl
    rw [e, List.length_append, List.length_append, List.length_singleton, List.length_cons]
    omega
theorem part_small {w : Cs} (h : Part w) : w.length ≤ 8 := by
  rcases h with (h | h) | h
  · exact h.2.2
  · exact Nat.le_trans h.2.2.1 (by decide)
  · rw [h]
    decide
/-- the others, shuffled with clear tiles' lines, robots behind: the same plan -/
theorem mix36 {pl : Plan} (h : WfP pl) {r0 : Nat × Bool} {rs : List (Nat × Bool)} (hr : pl.robots = r0 :: rs) {cl : List Nat} (hc : ∀ t ∈ cl, t < pl.floor.length ∧ pl.floor.getD t 0 = 0) (hcn : cl.Nodup) {os : List Stm}
    (hi : os.Perm ((putsL pl.floor).map putS ++ (pl.rules.map rulS ++ cl.map fun t => Stm.put 0 t))) : Mix pl r0 (os ++ rs.map robS) := by
  have hn : ∀ s ∈ os, rOf s = none := fun s hs => by
    have := hi.mem_iff.mp hs
    rcases List.mem_append.mp this with z | z
    · obtain ⟨q, _, rfl⟩ := List.mem_map.mp z
      rfl
    rcases List.mem_append.mp z with z | z
    · obtain ⟨q, _, rfl⟩ := List.mem_map.mp z
      rfl
    · obtain ⟨q, _, rfl⟩ := List.mem_map.mp z
      rfl
  have er : (os ++ rs.map robS).filterMap rOf = rs := by
    rw [List.filterMap_append, List.filterMap_eq_nil_iff.mpr hn, List.filterMap_map, List.nil_append]
    exact List.filterMap_some
  have ep : ((os ++ rs.map robS).filterMap pOf).Perm (putsL pl.floor ++ cl.map fun t => (t, 0)) := by
    have e0 : (rs.map robS).filterMap pOf = [] := by
      rw [List.filterMap_map]
      exact List.filterMap_eq_nil_iff.mpr fun _ _ => rfl
    rw [List.filterMap_append, e0, List.append_nil]
    refine (hi.filterMap pOf).trans (List.Perm.of_eq ?_)
    rw [List.filterMap_append, List.filterMap_append, List.filterMap_map, List.filterMap_map, List.filterMap_map]
    have a1 : (putsL pl.floor).filterMap (pOf ∘ putS) = putsL pl.floor := List.filterMap_some
    have a2 : pl.rules.filterMap (pOf ∘ rulS) = [] := List.filterMap_eq_nil_iff.mpr fun _ _ => rfl
    have a3 : cl.filterMap (pOf ∘ fun t => Stm.put 0 t) = cl.map fun t => (t, 0) := by
      rw [← List.filterMap_eq_map]
      rfl
    rw [a1, a2, a3]
    rfl
  have eu : ((os ++ rs.map robS).filterMap uOf).Perm pl.rules := by
    have e0 : (rs.map robS).filterMap uOf = [] := by
      rw [List.filterMap_map]
      exact List.filterMap_eq_nil_iff.mpr fun _ _ => rfl
    rw [List.filterMap_append, e0, List.append_nil]
    refine (hi.filterMap uOf).trans (List.Perm.of_eq ?_)
    rw [List.filterMap_append, List.filterMap_append, List.filterMap_map, List.filterMap_map, List.filterMap_map]
    have a1 : (putsL pl.floor).filterMap (uOf ∘ putS) = [] := List.filterMap_eq_nil_iff.mpr fun _ _ => rfl
    have a2 : pl.rules.filterMap (uOf ∘ rulS) = pl.rules := List.filterMap_some
    have a3 : cl.filterMap (uOf ∘ fun t => Stm.put 0 t) = [] := List.filterMap_eq_nil_iff.mpr fun _ _ => rfl
    rw [a1, a2, a3, List.nil_append, List.append_nil]
  refine ⟨by rw [er]; exact hr, fun q hq => ?_, ?_, fun q hq => ep.mem_iff.mpr (List.mem_append_left _ hq), eu⟩
  · rcases List.mem_append.mp (ep.mem_iff.mp hq) with z | z
    · obtain ⟨a, b, _⟩ := puts_mem z
      exact ⟨a, b⟩
    · obtain ⟨t, ht, rfl⟩ := List.mem_map.mp z
      exact ⟨(hc t ht).1, (hc t ht).2.symm⟩
  · refine (ep.map (·.1)).nodup_iff.mpr ?_
    rw [List.map_append, List.nodup_append]
    refine ⟨puts_nodup _, ?_, ?_⟩
    · rw [List.map_map]
      show (cl.map fun t => t).Nodup
      rw [List.map_id']
      exact hcn
    · intro a ha b hb z
      obtain ⟨q, hq, rfl⟩ := List.mem_map.mp ha
      obtain ⟨q2, hq2, rfl⟩ := List.mem_map.mp hb
      obtain ⟨t, ht, rfl⟩ := List.mem_map.mp hq2
      obtain ⟨_, b1, b2⟩ := puts_mem hq
      have z : q.1 = t := z
      rw [z, (hc t ht).2] at b1
      omega
end Sw

end

section
set_option maxRecDepth 100000
set_option maxHeartbeats 4000000
/-! load, where all is well -/
namespace Sw
open PySem PySem.Spec PyProof.Rows L2 SwA
theorem FnE.calmG {P : Program} {w : World} {K : PySem.W.Frag} {mg : Str → Option Value} {base : Heap} {k : Nat} {p : Str × Option Str} {ps : List Str} {sp : Sp} (h : FnE P w K mg base (L2.CX P w) k p ps sp) :
    FnE P w K mg base CX0 k p ps (fun vs H Q _ => sp vs H Q fun _ _ _ => False) := by
  obtain ⟨fd, G, b, q⟩ := h
  refine ⟨fd, ⟨fun vs H Q E z => G.len vs H Q _ z, fun A outer s H args us vs Q E hr he hb hv hs => codeAny_mono (G.run A outer s H args us vs Q _ hr he hb hv hs) fun r s' z => ?_⟩, b, q⟩
  match r, z with
  | .ok (.ret u), z => exact z
  | .error e, ⟨_, _, _, _, _, _, _, _, _, _, _, _, f⟩ => exact f.elim
/-- the text is read as the plan -/
def Reads (text : Cs) (pl : Plan) : Prop := text.length ≤ 90000 ∧ ∃ n s, loads text = .ok (n, s) ∧ s.faults = [] ∧ planOf n s = pl
theorem FnE.impS {P : Program} {w : World} {K : PySem.W.Frag} {mg : Str → Option Value} {base : Heap} {CX : CXT} {k : Nat} {p : Str × Option Str} {ps : List Str} {sp sp' : Sp} (h : FnE P w K mg base CX k p ps sp) (i : ∀ vs H Q E, sp' vs H Q E → sp vs H Q E) : FnE P w K mg base CX k p ps sp' := by
  obtain ⟨fd, G, b, q⟩ := h
  exact ⟨fd, G.imp i, b, q⟩
section
variable {P : Program} {w : World} {K : PySem.W.Frag} {mg : Str → Option Value} {base : Heap}
def spRead (K : PySem.W.Frag) : Sp := fun vs H Q _ => ∃ (text : Cs) (pl : Plan), vs = [sV text] ∧ Reads text pl ∧ ∀ (a : Addr) (H' : Hp), H a = none → Same H H' → PlanAt K H' a pl → Q (.ref a) H'
theorem ok_read (T : LoadT K mg) : FnE P w K mg base CX0 8 ("load", none) ["plan"] (spRead K) := by
  refine ((ok_load (P := P) (w := w) (base := base) T).calmG).impS fun vs H Q E ⟨text, pl, e, ⟨hl, n, s, h1, h2, h3⟩, k⟩ => ⟨text, e, hl, fun n2 s2 h => ?_, fun l c h => by rw [h1] at h; cases h⟩
  rw [h1] at h
  cases h
  rw [h3]
  exact ⟨h2, k⟩
end
end Sw

end

section
set_option maxRecDepth 100000
set_option maxHeartbeats 4000000
/-! k36: the spread text and the loose text are read -/
namespace Sw
open PySem
theorem mix_text {pl : Plan} (h : WfP pl) {r0 : Nat × Bool} {rs : List (Nat × Bool)} (hr : pl.robots = r0 :: rs) :
    ∃ ss, Mix pl r0 ss ∧ linesW pl = mixL pl r0 ss ∧ ss.filterMap uOf = pl.rules := by
  have m := mix36 h hr (cl := []) (fun t ht => by cases ht) .nil (os := (putsL pl.floor).map putS ++ pl.rules.map rulS) (by rw [List.map_nil, List.append_nil])
  refine ⟨rs.map robS ++ ((putsL pl.floor).map putS ++ pl.rules.map rulS), ?_, ?_, ?_⟩
  · have p0 : (rs.map robS).filterMap pOf = [] := by
      rw [List.filterMap_map]
      exact List.filterMap_eq_nil_iff.mpr fun _ _ => rfl
    have u0 : (rs.map robS).filterMap uOf = [] := by
      rw [List.filterMap_map]
      exact List.filterMap_eq_nil_iff.mpr fun _ _ => rfl
    have o0 : ((putsL pl.floor).map putS ++ pl.rules.map rulS).filterMap rOf = [] := by
      rw [List.filterMap_append, List.filterMap_map, List.filterMap_map, List.filterMap_eq_nil_iff.mpr, List.filterMap_eq_nil_iff.mpr, List.nil_append]
      · exact fun _ _ => rfl
      · exact fun _ _ => rfl
    have er : ∀ os : List Stm, os.filterMap rOf = [] → (rs.map robS ++ os).filterMap rOf = (os ++ rs.map robS).filterMap rOf := fun os e => by
      rw [List.filterMap_append, List.filterMap_append, e, List.nil_append, List.append_nil]
    have ep : ∀ os : List Stm, (rs.map robS ++ os).filterMap pOf = (os ++ rs.map robS).filterMap pOf := fun os => by
      rw [List.filterMap_append, List.filterMap_append, p0, List.nil_append, List.append_nil]
    have eu : ∀ os : List Stm, (rs.map robS ++ os).filterMap uOf = (os ++ rs.map robS).filterMap uOf := fun os => by
      rw [List.filterMap_append, List.filterMap_append, u0, List.nil_append, List.append_nil]
    obtain ⟨m1, m2, m3, m4, m5⟩ := m
    exact ⟨by rw [er _ o0]; exact m1, by rw [ep]; exact m2, by rw [ep]; exact m3, by rw [ep]; exact m4, by rw [eu]; exact m5⟩
  · unfold linesW mixL stmsOf
    rw [hr]
    rfl
  · rw [List.filterMap_append, List.filterMap_append, List.filterMap_map, List.filterMap_map, List.filterMap_map]
    have a0 : rs.filterMap (uOf ∘ robS) = [] := List.filterMap_eq_nil_iff.mpr fun _ _ => rfl
    have a1 : (putsL pl.floor).filterMap (uOf ∘ putS) = [] := List.filterMap_eq_nil_iff.mpr fun _ _ => rfl
    have a2 : pl.rules.filterMap (uOf ∘ rulS) = pl.rules := List.filterMap_some
    rw [a0, a1, a2]
    rfl
theorem wf_perm {pl : Plan} (h : WfP pl) {us : List ((Nat × Nat) × Rule)} (p : us.Perm pl.rules) : WfP { pl with rules := us } :=
  ⟨h.sN, h.mN, h.s1, h.s4, h.m1, h.m6, h.n1, h.n16, h.fl, h.r1, h.r3, h.rt, (p.map (·.1)).nodup_iff.mpr h.rn, fun kv hkv => h.ru kv (p.mem_iff.mp hkv)⟩
theorem lines_w7 {pl : Plan} (wf : WfP pl) : ∀ ws ∈ linesW pl, ws ≠ [] ∧ (∀ w ∈ ws, Wd w ∨ Nm w) ∧ ws.length ≤ 7 := by
  obtain ⟨r0, rs, hr⟩ := List.exists_cons_of_ne_nil wf.r1
  obtain ⟨ss, m, e, _⟩ := mix_text wf hr
  rw [e]
  intro ws hws
  refine ⟨?_, mixL_words wf m ws hws, ?_⟩
  · rcases List.mem_append.mp hws with z | z
    · simp only [headW, List.mem_cons, List.not_mem_nil, or_false] at z
      rcases z with rfl | rfl | rfl <;> simp
    · obtain ⟨s, hs, rfl⟩ := List.mem_map.mp z
      cases s <;> simp [stmW]
  · have h4 := wf.s4
    have h6 := wf.m6
    rcases List.mem_append.mp hws with z | z
    · simp only [headW, List.mem_cons, List.not_mem_nil, or_false] at z
      rcases z with rfl | rfl | rfl <;> simp <;> omega
    · obtain ⟨s, hs, rfl⟩ := List.mem_map.mp z
      cases s <;> simp [stmW]
theorem mixL_w7 {pl : Plan} (wf : WfP pl) {r0 : Nat × Bool} {ss : List Stm} (m : Mix pl r0 ss) : ∀ ws ∈ mixL pl r0 ss, ws ≠ [] ∧ ws.length ≤ 7 ∧ (lineOf ws).length ≤ 100 := by
  intro ws hws
  have h4 := wf.s4
  have h6 := wf.m6
  have e7 : ws ≠ [] ∧ ws.length ≤ 7 := by
    rcases List.mem_append.mp hws with z | z
    · simp only [headW, List.mem_cons, List.not_mem_nil, or_false] at z
      rcases z with rfl | rfl | rfl <;> refine ⟨by simp, ?_⟩ <;> simp <;> omega
    · obtain ⟨s, hs, rfl⟩ := List.mem_map.mp z
      cases s <;> refine ⟨by simp [stmW], ?_⟩ <;> simp [stmW]
  exact ⟨e7.1, e7.2, line_short e7.2 (mixL_words wf m ws hws)⟩
theorem parts_few {pl : Plan} (wf : WfP pl) (so : SortedR pl.rules) : (partsOf (linesW pl)).length ≤ 400 ∧ ∀ w ∈ partsOf (linesW pl), w.length ≤ 8 := by
  have h1 := lines_few wf so
  have h2 := parts_len fun ls hls => (lines_w7 wf ls hls).2.2
  exact ⟨by omega, fun w hw => part_small ((parts_kt fun ws hws => (lines_w7 wf ws hws).2.1).2 w hw)⟩
/-- the spread text -/
theorem reads_spread {pl : Plan} (wf : WfP pl) (so : SortedR pl.rules) {l : List (Nat × Cs)} (hl : l.map (·.2) = partsOf (linesW pl)) (hg : ∀ q ∈ l, q.1 < 3) : Reads (gapT l) pl := by
  obtain ⟨r0, rs, hr⟩ := List.exists_cons_of_ne_nil wf.r1
  obtain ⟨ss, m, e, eu⟩ := mix_text wf hr
  obtain ⟨h1, h2⟩ := parts_few wf so
  rw [← hl] at h1 h2
  rw [List.length_map] at h1
  have hlen := gapT_len2 fun q hq => Nat.le_trans (h2 q.2 (List.mem_map.mpr ⟨q, hq, rfl⟩)) (by decide)
  rw [e] at hl
  obtain ⟨s, a, b, c⟩ := loads_mix wf m (fun q hq => Nat.lt_succ_of_lt (hg q hq)) hl
  refine ⟨by omega, _, s, a, b, ?_⟩
  rw [c, eu]
/-- the loose text -/
theorem reads_loose {pl : Plan} (wf : WfP pl) {r0 : Nat × Bool} {ss : List Stm} (m : Mix pl r0 ss) (hl : ss.length ≤ 100) :
    Reads (TL.joinL [10] ((mixL pl r0 ss).map lineOf)) { pl with rules := ss.filterMap uOf } ∧ WfP { pl with rules := ss.filterMap uOf } ∧ pl.rules.Perm (ss.filterMap uOf) := by
  obtain ⟨s, a, b, c⟩ := loads_mixL wf m fun ws hws => (mixL_w7 wf m ws hws).1
  have h1 : (mixL pl r0 ss).length ≤ 104 := by
    unfold mixL
    simp only [List.length_append, List.length_map, List.length_cons, headW, List.length_nil]
    omega
  have h2 : (((mixL pl r0 ss).map lineOf).map (·.length)).sum ≤ ((mixL pl r0 ss).map lineOf).length * 100 := sum_le fun w hw => by
    obtain ⟨ws, h, rfl⟩ := List.mem_map.mp hw
    exact (mixL_w7 wf m ws h).2.2
  have h3 := joinL_len [10] ((mixL pl r0 ss).map lineOf)
  rw [List.length_map] at h2 h3
  simp only [List.length_singleton] at h3
  exact ⟨⟨by omega, _, s, a, b, c⟩, wf_perm wf m.ru, m.ru.symm⟩
theorem reads_text36 {pl : Plan} (wf : WfP pl) (so : SortedR pl.rules) : Reads (textOf pl) pl := by
  obtain ⟨s, a, b, c⟩ := loads_text wf
  exact ⟨Nat.le_trans (text_len wf so).2 (by decide), _, s, a, b, c⟩
theorem back_rules (pl : Plan) (us : List ((Nat × Nat) × Rule)) : ({ ({ pl with rules := us } : Plan) with rules := pl.rules } : Plan) = pl := rfl
theorem semiG_len (l : Cs) : (l.flatMap semiG).length ≤ l.length * 2 := by
  induction l with
  | nil => simp
  | cons c l ih =>
    rw [List.flatMap_cons, List.length_append, List.length_cons]
    have : (semiG c).length ≤ 2 := by unfold semiG; split <;> simp
    omega
theorem repl2_len (l : Cs) : (Txt.replace (sx l) ";" " ;").length ≤ l.length * 2 := by
  have := PySem.StrLaws.replace_list (x := sx l) (y := ";") (z := " ;") (by decide +kernel)
  have a1 : (";" : Str).cps.toList = [59] := by decide +kernel
  have a2 : (" ;" : Str).cps.toList = [32, 59] := by decide +kernel
  have a3 : (sx l).cps.toList = l := by simp [sx]
  rw [a1, a2, a3, repl_semi] at this
  have h2 := semiG_len l
  rw [← this, Array.length_toList] at h2
  exact h2
theorem fil_rob3 {pl : Plan} : ((linesW pl).drop 3).filter isRob = pl.robots.map fun r => stmW pl.signs pl.moods (robS r) := by
  have h : (headW pl.floor.length pl.signs pl.moods ++ (linesW pl).drop 3).filter isRob = _ := fil_rob (pl := pl)
  have e0 : (headW pl.floor.length pl.signs pl.moods).filter isRob = [] := by
    rw [List.filter_eq_nil_iff]
    intro a ha
    simp only [headW, List.mem_cons, List.not_mem_nil, or_false] at ha
    rcases ha with rfl | rfl | rfl <;> simp [isRob, wCorridor, wSigns, wMoods, wRobot]
  rw [List.filter_append, e0, List.nil_append] at h
  exact h
theorem mixL_len {pl : Plan} (wf : WfP pl) {r0 : Nat × Bool} {ss : List Stm} (m : Mix pl r0 ss) (hl : ss.length ≤ 100) : (mixL pl r0 ss).length ≤ 104 ∧ (((mixL pl r0 ss).map lineOf).map (·.length)).sum ≤ 10400 := by
  have h1 : (mixL pl r0 ss).length ≤ 104 := by
    unfold mixL
    simp only [List.length_append, List.length_map, List.length_cons, headW, List.length_nil]
    omega
  have h2 : (((mixL pl r0 ss).map lineOf).map (·.length)).sum ≤ ((mixL pl r0 ss).map lineOf).length * 100 := sum_le fun w hw => by
    obtain ⟨ws, h, rfl⟩ := List.mem_map.mp hw
    exact (mixL_w7 wf m ws h).2.2
  rw [List.length_map] at h2
  exact ⟨h1, by omega⟩
end Sw

end

section
set_option maxRecDepth 100000
set_option maxHeartbeats 4000000
/-! format_parsed -/
namespace Sw
open PySem PySem.Spec PyProof.Rows L2 SwA
theorem emp_app (w : Cs) : Str.empty ++ sx w = sx w := by
  have : Str.empty = sx [] := rfl
  rw [this, sx_app]
  rfl
theorem lenA {a b : Cs} (hl : a.length + b.length ≤ 10000) : (sx a ++ sx b).length ≤ sizeLine := by rw [sx_app, sx_len, List.length_append, sizeLine_eq]; omega
theorem lenE {b : Cs} (hl : b.length ≤ 10000) : (Str.empty ++ sx b).length ≤ sizeLine := by rw [emp_app, sx_len, sizeLine_eq]; omega
theorem len1 {b : Cs} (hl : b.length ≤ 10000) : (sx b).length ≤ sizeLine := by rw [sx_len, sizeLine_eq]; omega
structure FmtT (K : PySem.W.Frag) (mg : Str → Option Value) : Prop where
  lo : LoadT K mg
  sorted : mg "sorted" = none
  fmt : DeT K mg "format_parsed" s_format_parsed
section
variable {P : Program} {w : World} {K : PySem.W.Frag} {mg : Str → Option Value} {base : Heap}
def spFormat (K : PySem.W.Frag) : Sp := fun vs H Q _ => ∃ (a : Addr) (pl : Plan) (rs : List ((Nat × Nat) × Rule)), vs = [.ref a] ∧ PlanAt K H a pl ∧ WfP pl ∧ rs.Perm pl.rules ∧ SortedR rs ∧
  ∀ H' : Hp, Same H H' → Q (sV (textOf { pl with rules := rs })) H'
abbrev fpN : List Str := ["parsed", "signs", "moods", "lines", "tile", "is_right", "way", "sign", "mood", "left", "move", "later"]
theorem sc_fmt : FnScope fpN ["parsed"] (defScope s_format_parsed) := ⟨rfl, rfl, rfl, by decide +kernel, rfl, by decide +kernel, by decide +kernel⟩
theorem WfP.perm {pl : Plan} (h : WfP pl) {rs : List ((Nat × Nat) × Rule)} (p : rs.Perm pl.rules) : WfP { pl with rules := rs } :=
  { h with rn := ((p.map (·.1)).nodup_iff).mpr h.rn, ru := fun kv hk => h.ru kv (p.mem_iff.mp hk) }
theorem ok_fmt (T : FmtT K mg) : FnE P w K mg base CX0 1 ("format_parsed", none) ["parsed"] (spFormat K) := by
  obtain ⟨fd, F⟩ := T.fmt.d
  refine ⟨fd, F.ok sc_fmt (fun vs H Q E h => ?_) (fun cdv A outer s H vs Q E hr h => ?_), F.bindsN fun _ _ _ _ _ _ us hl => match us, hl with | [_], _ => rfl, F.kp⟩
  · obtain ⟨a, pl, rs, rfl, _⟩ := h
    rfl
  · obtain ⟨a, pl, rs, rfl, hP, wf, hper, so, k⟩ := h
    have hu := hu_of hr
    refine ⟨_, PSs.nox (pss_cons (ps_par (i := 1) (j := 2) (by rfl) sc_fmt.nd rfl rfl (by decide) rfl rfl (pa_cons (pe_fld (pv 0) rfl) (pa_cons (pe_fld (pv 0) rfl) pa_nil)) (by rfl))
      (pss_cons (ps_set (i := 3) sc_fmt.nd rfl (.inl rfl) (pe_lst (pa_cons (pe_joined (PJ.cons pe_str (PJ.cons (pe_fmt (pe_callB call_len_seq (by rfl) T.lo.p.l.len boot_len (pa_cons (pe_fld (pv 0) rfl) pa_nil))) (PJ.cons pe_str PJ.nil)))) (pa_cons (pe_joined (PJ.cons pe_str (PJ.cons (pe_fmt (pe_join pe_str (pv 1))) (PJ.cons pe_str PJ.nil)))) (pa_cons (pe_joined (PJ.cons pe_str (PJ.cons (pe_fmt (pe_join pe_str (pv 2))) (PJ.cons pe_str PJ.nil)))) pa_nil)))))
      (pss_cons (ps_for PassesOwn.never rfl (pi_tup (pe_fld (pv 0) rfl)) (pg_tup rfl (pgs_cons (pg_name (i := 4) sc_fmt.nd rfl (.inl rfl)) (pgs_cons (pg_name (i := 5) sc_fmt.nd rfl (.inl rfl)) pgs_nil)))
        (pss_cons (ps_set (i := 6) sc_fmt.nd rfl (.inl rfl) (pe_ifExp (pt_val (pv 5)) pe_str pe_str))
        (pss_one (ps_expr (pe_bm PySem.F.plainAttrs_list PySem.F.slot_list_append PySem.F.type_list_append mt_append (pv 3) (pa_cons (pe_joined (PJ.cons pe_str (PJ.cons (pe_fmt (pv 4)) (PJ.cons pe_str (PJ.cons (pe_fmt (pv 6)) (PJ.cons pe_str PJ.nil)))))) pa_nil))))))
      (pss_cons (ps_for PassesOwn.never rfl (pi_enumT (by rfl) T.lo.p.l.enumerate (pa_cons (pe_fld (pv 0) rfl) pa_nil)) (pg_tup rfl (pgs_cons (pg_name (i := 4) sc_fmt.nd rfl (.inl rfl)) (pgs_cons (pg_name (i := 7) sc_fmt.nd rfl (.inl rfl)) pgs_nil)))
        (pss_one (ps_if (pt_cmpR op_gt (pv 7) pe_int (nomark _))
          (pss_one (ps_expr (pe_bm PySem.F.plainAttrs_list PySem.F.slot_list_append PySem.F.type_list_append mt_append (pv 3) (pa_cons (pe_joined (PJ.cons pe_str (PJ.cons (pe_fmt (pe_ix ix_tup (pv 1) (pv 7) (fun _ _ => rfl))) (PJ.cons pe_str (PJ.cons (pe_fmt (pv 4)) (PJ.cons pe_str PJ.nil)))))) pa_nil)))) pss_nil)))
      (pss_cons (ps_for PassesOwn.never rfl (pi_list (pe_callB (cr_sortedDT rfl) (by rfl) T.sorted (by decide +kernel) (pa_cons (pe_fld (pv 0) rfl) pa_nil))) (pg_tup rfl (pgs_cons (pg_name (i := 8) sc_fmt.nd rfl (.inl rfl)) (pgs_cons (pg_name (i := 7) sc_fmt.nd rfl (.inl rfl)) pgs_nil)))
        (pss_cons (ps_asg (pe_dget hu (pe_fld (pv 0) rfl) (pe_tup (pa_cons (pv 8) (pa_cons (pv 7) pa_nil))) (fun _ _ => rfl))
          (pg_tup rfl (pgs_cons (pg_name (i := 9) sc_fmt.nd rfl (.inl rfl)) (pgs_cons (pg_name (i := 10) sc_fmt.nd rfl (.inl rfl)) (pgs_cons (pg_name (i := 11) sc_fmt.nd rfl (.inl rfl)) pgs_nil)))))
        (pss_one (ps_expr (pe_bm PySem.F.plainAttrs_list PySem.F.slot_list_append PySem.F.type_list_append mt_append (pv 3) (pa_cons (pe_joined (PJ.cons pe_str (PJ.cons (pe_fmt (pe_ix ix_tup (pv 2) (pv 8) (fun _ _ => rfl))) (PJ.cons pe_str (PJ.cons (pe_fmt (pe_ix ix_tup (pv 1) (pv 7) (fun _ _ => rfl))) (PJ.cons pe_str (PJ.cons (pe_fmt (pe_ix ix_tup (pv 1) (pv 9) (fun _ _ => rfl))) (PJ.cons pe_str (PJ.cons (pe_fmt (pv 10)) (PJ.cons pe_str (PJ.cons (pe_fmt (pe_ix ix_tup (pv 2) (pv 11) (fun _ _ => rfl))) (PJ.cons pe_str PJ.nil)))))))))))) pa_nil))))))
      (pss_one (ps_ret (pe_join pe_str (pv 3))))))))), ?_⟩
    obtain ⟨dx, sa, ma, fa, ra, rd, ras, e0, e1, e2, e3, e4, e5, kvs, e6, e7⟩ := hP
    have cl := T.lo.plan.c
    have na : ∀ f ∈ planF, NoAttr K (He.ga K "Plan") f := T.lo.plan.n
    refine ⟨_, rfl, a, _, dx, _, _, rfl, e0, cl, na _ (by simp), lpl_signs, _, rfl, a, _, dx, _, _, rfl, e0, cl, na _ (by simp), lpl_moods, _, _, rfl, ?_⟩
    have h16 := wf.n16
    have hdn := dec_len pl.floor.length
    have hsl : (pl.signs.map (·.length)).sum ≤ 4 * 8 := Nat.le_trans (sum_le (names_len wf.sN)) (Nat.mul_le_mul_right 8 wf.s4)
    have hml : (pl.moods.map (·.length)).sum ≤ 6 * 8 := Nat.le_trans (sum_le (names_len wf.mN)) (Nat.mul_le_mul_right 8 wf.m6)
    have hs4 := wf.s4
    have hm6 := wf.m6
    have lj1 := joinL_len [32] pl.signs
    have lj2 := joinL_len [32] pl.moods
    simp only [List.length_singleton, Nat.mul_one] at lj1 lj2
    refine ⟨sx (wCorridor ++ [32]), (by kernel_rfl), lenE (by decide), ?_⟩
    rw [emp_app]
    refine ⟨_, rfl, a, _, dx, _, _, rfl, e0, cl, na _ (by simp), lpl_floor, fa, _, rfl, .inr (SqT.of e3), .inr ⟨_, rfl, ?_⟩⟩
    rw [List.length_map]
    refine ⟨log_small (by omega), ?_⟩
    rw [str_dec (show pl.floor.length < 100 by omega)]
    refine ⟨sx (dec pl.floor.length), rfl, lenA (by simp [wCorridor]; omega), ?_⟩
    rw [sx_app]
    refine ⟨sx [59], (by kernel_rfl), lenA (by simp [wCorridor]; omega), ?_⟩
    rw [sx_app]
    refine ⟨sx (wSigns ++ [32]), (by kernel_rfl), lenE (by decide), ?_⟩
    rw [emp_app]
    refine ⟨⟨_, rfl⟩, _, rfl, sx [32], _, (pl.signs).map sx, (by kernel_rfl), rfl, sqJ (.inr e1.sq), lenJ (by simp only [List.length_singleton]; omega), ?_⟩
    rw [join_sx]
    refine .inl ⟨_, rfl, len1 (by omega), ?_⟩
    refine ⟨sx (TL.joinL [32] pl.signs), rfl, lenA (by simp [wSigns]; omega), ?_⟩
    rw [sx_app]
    refine ⟨sx [59], (by kernel_rfl), lenA (by simp [wSigns]; omega), ?_⟩
    rw [sx_app]
    refine ⟨sx (wMoods ++ [32]), (by kernel_rfl), lenE (by decide), ?_⟩
    rw [emp_app]
    refine ⟨⟨_, rfl⟩, _, rfl, sx [32], _, (pl.moods).map sx, (by kernel_rfl), rfl, sqJ (.inr e2.sq), lenJ (by simp only [List.length_singleton]; omega), ?_⟩
    rw [join_sx]
    refine .inl ⟨_, rfl, len1 (by omega), ?_⟩
    refine ⟨sx (TL.joinL [32] pl.moods), rfl, lenA (by simp [wMoods]; omega), ?_⟩
    rw [sx_app]
    refine ⟨sx [59], (by kernel_rfl), lenA (by simp [wMoods]; omega), ?_⟩
    rw [sx_app]
    refine ⟨(by show 3 ≤ sizeLine; decide), fun l nl => ?_⟩
    rw [head_lines wf.s1 wf.m1]
    have s1 : Same H (upd H l (.lst ((headW pl.floor.length pl.signs pl.moods).map lnV))) := sameUpd (Same.refl H) nl
    have hl1 := @upd_same H l (.lst ((headW pl.floor.length pl.signs pl.moods).map lnV))
    generalize upd H l (.lst ((headW pl.floor.length pl.signs pl.moods).map lnV)) = H1 at *
    -- robots
    refine ⟨_, rfl, a, _, dx, _, _, rfl, s1 _ _ e0, cl, na _ (by simp), lpl_robots, ra, rfl, ⟨_, SqT.of (s1 _ _ e4)⟩, ?_⟩
    refine for_tup (K := K) (a := ra) (xs := ras.map V.ref) (fun i σ H2 => ∃ o4 o5 o6 : Option V, σ = [some (.ref a), some (.ref sa), some (.ref ma), some (.ref l), o4, o5, o6, none, none, none, none, none] ∧ Same H H2 ∧
      H2 l = some (.lst ((headW pl.floor.length pl.signs pl.moods ++ (pl.robots.take i).map fun r => stmW pl.signs pl.moods (robS r)).map lnV))) ⟨none, none, none, rfl, s1, by rw [List.take_zero, List.map_nil, List.append_nil]; exact hl1⟩ (fun i σ H2 _ ⟨_, _, _, _, sm, _⟩ => SqT.of (sm _ _ e4)) ?_ ?_
    · rintro i x σ H2 hx ⟨o4, o5, o6, rfl, sm, hl2⟩
      rw [List.getElem?_map] at hx
      cases hra : ras[i]? with
      | none => rw [hra] at hx; cases hx
      | some rai =>
        rw [hra] at hx
        cases hx
        obtain ⟨⟨rt, rb⟩, hr', hrob⟩ := pairedL e5 hra
        have hrt : rt < pl.floor.length := wf.rt _ (List.mem_of_getElem? hr')
        have hir : i < pl.robots.length := (List.getElem?_eq_some_iff.mp hr').1
        have hr3 := wf.r3
        have dl := dec_len rt
        have et : (pl.robots.take (i + 1)).map (fun r => stmW pl.signs pl.moods (robS r)) = (pl.robots.take i).map (fun r => stmW pl.signs pl.moods (robS r)) ++ [stmW pl.signs pl.moods (robS (rt, rb))] := by
          rw [List.take_succ, hr', List.map_append]
          rfl
        have hll : ((headW pl.floor.length pl.signs pl.moods ++ (pl.robots.take i).map fun r => stmW pl.signs pl.moods (robS r)).map lnV).length < sizeLine := by
          rw [List.length_map, List.length_append, List.length_map, List.length_take, sizeLine_eq]
          simp [headW]
          omega
        cases rb
        · -- wLeft
          refine ⟨rai, _, rfl, SqT.of (sm _ _ hrob), rfl, _, _, rfl, _, _, rfl, rfl, ?_⟩
          refine ⟨_, rfl, _, rfl, ?_⟩
          refine ⟨_, rfl, .inl ⟨rfl, _, SqL.of hl2⟩, ?_⟩
          refine ⟨sx (wRobot ++ [32]), (by kernel_rfl), lenE (by decide), ?_⟩
          rw [emp_app]
          refine ⟨_, rfl, .inr ⟨_, rfl, log_small (by omega), ?_⟩⟩
          rw [str_dec (show rt < 100 by omega)]
          refine ⟨sx (dec rt), rfl, lenA (by simp [wRobot]; omega), ?_⟩
          rw [sx_app]
          refine ⟨sx [32], (by kernel_rfl), lenA (by simp [wRobot]; omega), ?_⟩
          rw [sx_app]
          refine ⟨_, rfl, .inl ⟨_, rfl, (by decide), ?_⟩⟩
          refine ⟨sx wLeft, (by kernel_rfl), lenA (by simp [wRobot, wLeft]; omega), ?_⟩
          rw [sx_app]
          refine ⟨sx [59], (by kernel_rfl), lenA (by simp [wRobot, wLeft]; omega), ?_⟩
          rw [sx_app]
          refine ⟨l, _, _, rfl, rfl, hl2, hll, _, _, _, rfl, sameUpd sm nl, ?_⟩
          have : lnV (stmW pl.signs pl.moods (robS (rt, false))) = V.str (sx (wRobot ++ [32] ++ dec rt ++ [32] ++ wLeft ++ [59])) := by
            unfold lnV lineOf robS
            rw [words_join]
            simp [stmW, TL.joinL, wayOf]
          rw [upd_same, et, snoc_ln this]
        · -- wRight
          refine ⟨rai, _, rfl, SqT.of (sm _ _ hrob), rfl, _, _, rfl, _, _, rfl, rfl, ?_⟩
          refine ⟨_, rfl, _, rfl, ?_⟩
          refine ⟨_, rfl, .inl ⟨rfl, _, SqL.of hl2⟩, ?_⟩
          refine ⟨sx (wRobot ++ [32]), (by kernel_rfl), lenE (by decide), ?_⟩
          rw [emp_app]
          refine ⟨_, rfl, .inr ⟨_, rfl, log_small (by omega), ?_⟩⟩
          rw [str_dec (show rt < 100 by omega)]
          refine ⟨sx (dec rt), rfl, lenA (by simp [wRobot]; omega), ?_⟩
          rw [sx_app]
          refine ⟨sx [32], (by kernel_rfl), lenA (by simp [wRobot]; omega), ?_⟩
          rw [sx_app]
          refine ⟨_, rfl, .inl ⟨_, rfl, (by decide), ?_⟩⟩
          refine ⟨sx wRight, (by kernel_rfl), lenA (by simp [wRobot, wRight]; omega), ?_⟩
          rw [sx_app]
          refine ⟨sx [59], (by kernel_rfl), lenA (by simp [wRobot, wRight]; omega), ?_⟩
          rw [sx_app]
          refine ⟨l, _, _, rfl, rfl, hl2, hll, _, _, _, rfl, sameUpd sm nl, ?_⟩
          have : lnV (stmW pl.signs pl.moods (robS (rt, true))) = V.str (sx (wRobot ++ [32] ++ dec rt ++ [32] ++ wRight ++ [59])) := by
            unfold lnV lineOf robS
            rw [words_join]
            simp [stmW, TL.joinL, wayOf]
          rw [upd_same, et, snoc_ln this]
    rintro σ H2 ⟨o4, o5, o6, rfl, s2, hl2⟩
    rw [List.length_map, e5.length, List.take_length] at hl2
    generalize hA : headW pl.floor.length pl.signs pl.moods ++ pl.robots.map (fun r => stmW pl.signs pl.moods (robS r)) = LA at hl2
    have hLA : LA.length ≤ 6 := by
      rw [← hA, List.length_append, List.length_map]
      have := wf.r3
      simp [headW]
      omega
    -- puts
    refine ⟨_, rfl, a, _, dx, _, _, rfl, s2 _ _ e0, cl, na _ (by simp), lpl_floor, fa, _, rfl, SqT.of (s2 _ _ e3), ?_⟩
    refine for_it (walk_enumT (K := K) (a := fa) (xs := pl.floor.map fun n : Nat => V.int n)) (fun i σ H3 => ∃ o4 o7 : Option V, σ = [some (.ref a), some (.ref sa), some (.ref ma), some (.ref l), o4, o5, o6, o7, none, none, none, none] ∧ Same H H3 ∧
      H3 l = some (.lst ((LA ++ ((List.range i).filterMap (fun t => if 0 < pl.floor.getD t 0 then some (t, pl.floor.getD t 0) else none)).map fun q => stmW pl.signs pl.moods (putS q)).map lnV))) ⟨o4, none, rfl, s2, by rw [List.range_zero, List.filterMap_nil, List.map_nil, List.append_nil]; exact hl2⟩ (fun i σ H3 _ ⟨_, _, _, sm, _⟩ => SqT.of (sm _ _ e3)) ?_ ?_
    · rintro i x σ H3 H3' hi ⟨o4, o7, rfl, sm, hl3⟩ ⟨TT, vx, vy, rfl, nT, rfl, hvx, hvy⟩
      cases hvx
      rw [List.length_map] at hi
      have hg : (pl.floor.map fun n : Nat => V.int n)[i]? = some (.int (pl.floor.getD i 0 : Nat)) := by
        rw [List.getElem?_map, List.getD_eq_getElem?_getD, List.getElem?_eq_getElem hi]
        rfl
      replace hvy := hg.symm.trans hvy
      cases hvy
      have hgs : pl.floor.getD i 0 < pl.signs.length := by
        rw [List.getD_eq_getElem?_getD, List.getElem?_eq_getElem hi]
        exact wf.fl _ (List.getElem_mem hi)
      have sT := sameUpd (o := .tup [.int (i : Nat), .int (pl.floor.getD i 0 : Nat)]) (Same.refl H3) nT
      have hT := @upd_same H3 TT (.tup [.int (i : Nat), .int (pl.floor.getD i 0 : Nat)])
      replace sm := sm.trans sT
      replace hl3 := sT _ _ hl3
      generalize upd H3 TT (.tup [.int (i : Nat), .int (pl.floor.getD i 0 : Nat)]) = H4 at *
      refine ⟨TT, _, rfl, SqT.of hT, rfl, _, _, rfl, _, _, rfl, rfl, ?_⟩
      refine ⟨_, rfl, _, _, rfl, rfl, _, rfl, ?_⟩
      refine ite2 (fun h => ?_) (fun h => ?_)
      · have h0 : 0 < pl.floor.getD i 0 := by
          have := of_decide_eq_true h
          omega
        have hs8 : (pl.signs.getD (pl.floor.getD i 0) []).length ≤ 8 := names_len wf.sN _ (getD_in hgs)
        have hsa := e1.mono (fun o z => sm _ _ z)
        have dl := dec_len i
        have hsg := nm_get hgs
        generalize hgg : pl.floor.getD i 0 = g at *
        refine ⟨_, rfl, .inl ⟨rfl, _, SqL.of hl3⟩, ?_⟩
        refine ⟨sx (wPut ++ [32]), (by kernel_rfl), lenE (by decide), ?_⟩
        rw [emp_app]
        refine ⟨_, rfl, _, rfl, sa, _, _, _, rfl, rfl, hsa.sq, atI_nat hsg, .inl ⟨_, rfl, len1 (by omega), ?_⟩⟩
        refine ⟨sx (pl.signs.getD g []), rfl, lenA (by simp [wPut] at hs8 ⊢; omega), ?_⟩
        rw [sx_app]
        refine ⟨sx [32], (by kernel_rfl), lenA (by simp [wPut] at hs8 ⊢; omega), ?_⟩
        rw [sx_app]
        refine ⟨_, rfl, .inr ⟨_, rfl, log_small (by omega), ?_⟩⟩
        rw [str_dec (show i < 100 by omega)]
        refine ⟨sx (dec i), rfl, lenA (by simp [wPut] at hs8 ⊢; omega), ?_⟩
        rw [sx_app]
        refine ⟨sx [59], (by kernel_rfl), lenA (by simp [wPut] at hs8 ⊢; omega), ?_⟩
        rw [sx_app]
        have hfl := List.length_filterMap_le (fun t => if 0 < pl.floor.getD t 0 then some (t, pl.floor.getD t 0) else none) (List.range i)
        rw [List.length_range] at hfl
        refine ⟨l, _, _, rfl, rfl, hl3, ?_, _, _, rfl, sameUpd sm nl, ?_⟩
        · rw [List.length_map, List.length_append, List.length_map, sizeLine_eq]
          omega
        · have : lnV (stmW pl.signs pl.moods (putS (i, g))) = V.str (sx (wPut ++ [32] ++ pl.signs.getD g [] ++ [32] ++ dec i ++ [59])) := by
            unfold lnV lineOf putS
            rw [words_join]
            simp [stmW, TL.joinL]
          rw [upd_same, put_range, hgg, if_pos h0, snoc_lf (f := fun q => stmW pl.signs pl.moods (putS q)) this]
      · have h0 : ¬ 0 < pl.floor.getD i 0 := by
          have := of_decide_eq_false (Bool.eq_false_iff.mpr h)
          omega
        refine ⟨_, _, rfl, sm, ?_⟩
        rw [put_range, if_neg h0, List.append_nil]
        exact hl3
    rintro σ H3 ⟨o4', o7', rfl, s3, hl3⟩
    rw [List.length_map] at hl3
    have hLB : (LA ++ (putsL pl.floor).map fun q => stmW pl.signs pl.moods (putS q)).length ≤ 30 := by
      have hfl := List.length_filterMap_le (fun t => if 0 < pl.floor.getD t 0 then some (t, pl.floor.getD t 0) else none) (List.range pl.floor.length)
      rw [List.length_range] at hfl
      rw [List.length_append, List.length_map]
      unfold putsL
      omega
    replace hl3 : H3 l = some (.lst ((LA ++ (putsL pl.floor).map fun q => stmW pl.signs pl.moods (putS q)).map lnV)) := hl3
    generalize hB : LA ++ (putsL pl.floor).map (fun q => stmW pl.signs pl.moods (putS q)) = LB at hl3 hLB
    -- rules
    have wf2 := wf.perm hper
    have hru : rs.length ≤ 24 := rules_few wf2 so
    refine ⟨_, rfl, a, _, dx, _, _, rfl, s3 _ _ e0, cl, na _ (by simp), lpl_rules, rd, kvs, pl.rules.map (·.1), rfl, Rd.of (s3 _ _ e6), rules_keys e7, fun ys bs p hperm hso hpair np => ?_⟩
    obtain rfl := perm_sorted (hperm.trans (hper.map (·.1)).symm) hso so.le
    have s4 := sameUpd (o := .lst (bs.map V.ref)) (Same.refl H3) np
    have hp4 := @upd_same H3 p (.lst (bs.map V.ref))
    have hpl : p ≠ l := fun z => by rw [z, hl3] at np; cases np
    replace hl3 := s4 _ _ hl3
    have np0 : H p = none := s3.free np
    replace s3 := s3.trans s4
    have hpair : Paired (PairAt (upd H3 p (.lst (bs.map V.ref)))) bs (rs.map (·.1)) := Paired.mapP hpair fun _ _ q => s4 _ _ q
    generalize upd H3 p (.lst (bs.map V.ref)) = H4 at *
    refine ⟨p, rfl, ⟨_, SqL.of hp4⟩, ?_⟩
    refine for_list (K := K) (a := p) (xs := bs.map V.ref) (fun i σ H5 => ∃ o7 o8 o9 o10 o11 : Option V, σ = [some (.ref a), some (.ref sa), some (.ref ma), some (.ref l), o4', o5, o6, o7, o8, o9, o10, o11] ∧ Same (cutH H4 [l]) H5 ∧
      H5 l = some (.lst ((LB ++ (rs.take i).map fun r => stmW pl.signs pl.moods (rulS r)).map lnV))) ⟨o7', none, none, none, none, rfl, cutH_same, by rw [List.take_zero, List.map_nil, List.append_nil]; exact hl3⟩
      (fun i σ H5 _ ⟨_, _, _, _, _, _, sm, _⟩ => SqL.of (sm _ _ (by rw [cutH_out (by simpa using hpl)]; exact hp4))) ?_ ?_
    · rintro i x σ H5 hx ⟨o7, o8, o9, o10, o11, rfl, sm, hl5⟩
      have up : ∀ b o, b ≠ l → H4 b = some o → H5 b = some o := fun b o hb e => sm _ _ (by rw [cutH_out (by simpa using hb)]; exact e)
      rw [List.getElem?_map] at hx
      cases hbi : bs[i]? with
      | none => rw [hbi] at hx; cases hx
      | some bi =>
        rw [hbi] at hx
        cases hx
        obtain ⟨ky, hky, hpr⟩ := pairedL hpair hbi
        rw [List.getElem?_map] at hky
        cases hri : rs[i]? with
        | none => rw [hri] at hky; cases hky
        | some kv =>
          rw [hri] at hky
          cases hky
          have hmem := hper.mem_iff.mp (List.mem_of_getElem? hri)
          have rk := wf.ru kv hmem
          have hir : i < rs.length := (List.getElem?_eq_some_iff.mp hri).1
          have nel : ∀ {b : Addr} {o : HO}, H b = some o → b ≠ l := fun e z => by rw [z, nl] at e; cases e
          have bil : bi ≠ l := fun z => by
            have q : H4 bi = _ := hpr
            rw [z, hl3] at q
            cases q
          refine ⟨bi, _, rfl, SqT.of (up _ _ bil hpr), rfl, _, _, rfl, _, _, rfl, rfl, ?_⟩
          refine ⟨_, rfl, a, _, dx, _, _, rfl, up _ _ (nel e0) (s3 _ _ e0), cl, na _ (by simp), lpl_rules, _, rfl, _, rfl, (by show 2 ≤ sizeLine; decide), fun t nt => ?_⟩
          have s6 := sameUpd (o := .tup [.int kv.1.1, .int kv.1.2]) (Same.refl H5) nt
          have ht := @upd_same H5 t (.tup [.int kv.1.1, .int kv.1.2])
          have sm6 := sm.trans s6
          replace hl5 := s6 _ _ hl5
          replace up : ∀ b o, b ≠ l → H4 b = some o → (upd H5 t (.tup [.int kv.1.1, .int kv.1.2])) b = some o := fun b o hb e => s6 _ _ (up b o hb e)
          generalize upd H5 t (.tup [.int kv.1.1, .int kv.1.2]) = H6 at *
          have e7' : Paired (RuleAt H6) pl.rules kvs := Paired.mapP e7 fun _ _ q => q.mono fun b xs z => up _ _ (nel z) (s3 _ _ z)
          obtain ⟨tv, hv1, hv2⟩ := (rules_get (k := kv.1) e7').2 kv.2 (getA_mem wf.rn hmem)
          refine ⟨rd, .ref tv, rfl, by rw [← hv1]; exact DGet.t (k := keyT kv.1) (up _ _ (nel e6) (s3 _ _ e6)) ht, ?_⟩
          refine ⟨tv, _, rfl, SqT.of hv2, rfl, _, _, rfl, _, _, rfl, _, _, rfl, rfl, ?_⟩
          have hma : TupN H6 ma (pl.moods.map sV) := e2.mono fun o z => up _ _ (nel z) (s3 _ _ z)
          have hsa : TupN H6 sa (pl.signs.map sV) := e1.mono fun o z => up _ _ (nel z) (s3 _ _ z)
          have hmv : ∀ m ∈ moves, m.length ≤ 8 := by decide +kernel
          have l1 := names_len wf.mN _ (getD_in rk.k1)
          have l2 := names_len wf.sN _ (getD_in rk.k2)
          have l3 := names_len wf.sN _ (getD_in rk.l)
          have l4 := hmv _ rk.mv
          have l5 := names_len wf.mN _ (getD_in rk.la)
          refine ⟨_, rfl, .inl ⟨rfl, _, SqL.of hl5⟩, ?_⟩
          have q1 := nm_get rk.k1
          have q2 := nm_get rk.k2
          have q3 := nm_get rk.l
          have q5 := nm_get rk.la
          have eW : lnV (stmW pl.signs pl.moods (rulS kv)) = V.str (sx (wWhen ++ [32] ++ pl.moods.getD kv.1.1 [] ++ [32] ++ pl.signs.getD kv.1.2 [] ++ (32 :: wLeave ++ [32]) ++ pl.signs.getD kv.2.left [] ++ [32] ++ kv.2.move ++ [32] ++ pl.moods.getD kv.2.later [] ++ [59])) := by
            unfold lnV lineOf rulS
            rw [words_join]
            simp [stmW, TL.joinL]
          generalize pl.moods.getD kv.1.1 [] = w1 at *
          generalize pl.signs.getD kv.1.2 [] = w2 at *
          generalize pl.signs.getD kv.2.left [] = w3 at *
          generalize pl.moods.getD kv.2.later [] = w5 at *
          refine ⟨sx (wWhen ++ [32]), (by kernel_rfl), lenE (by decide), ?_⟩
          rw [emp_app]
          refine ⟨_, rfl, _, rfl, ma, _, _, _, rfl, rfl, hma.sq, atI_nat q1, .inl ⟨_, rfl, len1 (by omega), ?_⟩⟩
          refine ⟨sx w1, rfl, lenA (by simp [wWhen]; omega), ?_⟩
          rw [sx_app]
          refine ⟨sx [32], (by kernel_rfl), lenA (by simp [wWhen]; omega), ?_⟩
          rw [sx_app]
          refine ⟨_, rfl, _, rfl, sa, _, _, _, rfl, rfl, hsa.sq, atI_nat q2, .inl ⟨_, rfl, len1 (by omega), ?_⟩⟩
          refine ⟨sx w2, rfl, lenA (by simp [wWhen]; omega), ?_⟩
          rw [sx_app]
          refine ⟨sx (32 :: wLeave ++ [32]), (by kernel_rfl), lenA (by simp [wWhen, wLeave]; omega), ?_⟩
          rw [sx_app]
          refine ⟨_, rfl, _, rfl, sa, _, _, _, rfl, rfl, hsa.sq, atI_nat q3, .inl ⟨_, rfl, len1 (by omega), ?_⟩⟩
          refine ⟨sx w3, rfl, lenA (by simp [wWhen, wLeave]; omega), ?_⟩
          rw [sx_app]
          refine ⟨sx [32], (by kernel_rfl), lenA (by simp [wWhen, wLeave]; omega), ?_⟩
          rw [sx_app]
          refine ⟨_, rfl, .inl ⟨_, rfl, len1 (by omega), ?_⟩⟩
          refine ⟨sx kv.2.move, rfl, lenA (by simp [wWhen, wLeave]; omega), ?_⟩
          rw [sx_app]
          refine ⟨sx [32], (by kernel_rfl), lenA (by simp [wWhen, wLeave]; omega), ?_⟩
          rw [sx_app]
          refine ⟨_, rfl, _, rfl, ma, _, _, _, rfl, rfl, hma.sq, atI_nat q5, .inl ⟨_, rfl, len1 (by omega), ?_⟩⟩
          refine ⟨sx w5, rfl, lenA (by simp [wWhen, wLeave]; omega), ?_⟩
          rw [sx_app]
          refine ⟨sx [59], (by kernel_rfl), lenA (by simp [wWhen, wLeave]; omega), ?_⟩
          rw [sx_app]
          refine ⟨l, _, _, rfl, rfl, hl5, ?_, _, _, _, _, _, rfl, cutS sm6 (by simp), ?_⟩
          · rw [List.length_map, List.length_append, List.length_map, List.length_take, sizeLine_eq]
            omega
          · have et : (rs.take (i + 1)) = rs.take i ++ [kv] := by
              rw [List.take_succ, hri]
              rfl
            rw [upd_same, et, snoc_lf (f := fun r => stmW pl.signs pl.moods (rulS r)) eW]
    rintro σ H5 ⟨o7, o8, o9, o10, o11, rfl, sm, hl5⟩
    have hbl : bs.length = rs.length := by rw [hpair.length, List.length_map]
    rw [List.length_map, hbl, List.take_length] at hl5
    have eL : LB ++ rs.map (fun r => stmW pl.signs pl.moods (rulS r)) = linesW { pl with rules := rs } := by
      rw [← hB, ← hA]
      unfold linesW stmsOf
      simp [List.append_assoc, Function.comp_def]
    rw [eL] at hl5
    obtain ⟨t1, t2⟩ := text_len wf2 so
    have e : (linesW { pl with rules := rs }).map lnV = (((linesW { pl with rules := rs }).map lineOf).map sx).map V.str := by rw [List.map_map, List.map_map]; rfl
    rw [e] at hl5
    refine ⟨⟨_, rfl⟩, _, rfl, sx [10], l, ((linesW { pl with rules := rs }).map lineOf).map sx, (by kernel_rfl), rfl, .inl (SqL.of hl5), lenJ (by rw [List.length_map]; simp only [List.length_singleton]; omega), ?_⟩
    rw [join_sx]
    refine k H5 fun b o e => sm _ _ ?_
    rw [cutH_out]
    · exact s3 _ _ e
    · intro z
      rw [List.mem_singleton.mp z, nl] at e
      cases e
end
end Sw

end

section
set_option maxRecDepth 100000
set_option maxHeartbeats 4000000
/-! names_code, encode -/
namespace Sw
open PySem PySem.Spec PyProof.Rows L2 SwA
/-- a def that raises only what is wished: with no wish it raises nothing -/
theorem FnE.calm {P : Program} {w : World} {K : PySem.W.Frag} {mg : Str → Option Value} {base : Heap} {k : Nat} {p : Str × Option Str} {ps : List Str} {sp : Sp} (h : FnE P w K mg base (L2.CX P w) k p ps sp) :
    FnE P w K mg base CX0 k p ps (fun vs H Q _ => sp vs H Q fun _ _ _ => False) := by
  obtain ⟨fd, G, b, q⟩ := h
  refine ⟨fd, ⟨fun vs H Q E z => G.len vs H Q _ z, fun A outer s H args us vs Q E hr he hb hv hs => codeAny_mono (G.run A outer s H args us vs Q _ hr he hb hv hs) fun r s' z => ?_⟩, b, q⟩
  match r, z with
  | .ok (.ret u), z => exact z
  | .error e, ⟨_, _, _, _, _, _, _, _, _, _, _, _, f⟩ => exact f.elim
/-! ### the bytes of a plan -/
def wordB (w : Cs) : List Nat := w.length :: w.map (· - 97)
def namesB (ws : List Cs) : List Nat := ws.length :: (ws.map wordB).flatten
def robB (r : Nat × Bool) : List Nat := [r.1, if r.2 then 1 else 0]
def moveI (m : Cs) : Nat := moves.idxOf m
def ruleB (kv : (Nat × Nat) × Rule) : List Nat := [kv.1.1, kv.1.2, kv.2.left, moveI kv.2.move, kv.2.later]
def bodyB (pl : Plan) : List Nat := [82, pl.floor.length] ++ namesB pl.signs ++ namesB pl.moods ++ [pl.robots.length] ++ (pl.robots.map robB).flatten ++ (pl.floor ++ [pl.rules.length]) ++ (pl.rules.map ruleB).flatten
def codeB (pl : Plan) : List Nat := bodyB pl ++ [(bodyB pl).sum % 256]
abbrev iVs (l : List Nat) : List V := l.map fun n : Nat => V.int n
theorem iVs_app (a b : List Nat) : iVs a ++ iVs b = iVs (a ++ b) := by simp
theorem letter_at {c : Nat} (h : isL c = true) : ∃ rest, Builtin.Str.occurrences "abcdefghijklmnopqrstuvwxyz" ⟨#[c]⟩ 0 ("abcdefghijklmnopqrstuvwxyz" : Str).length 1 = (c - 97) :: rest := by
  have key : ∀ n < 26, (Builtin.Str.occurrences "abcdefghijklmnopqrstuvwxyz" ⟨#[n + 97]⟩ 0 ("abcdefghijklmnopqrstuvwxyz" : Str).length 1).head? = some n := by decide +kernel
  have h1 : 97 ≤ c ∧ c ≤ 122 := by
    unfold isL at h
    simp only [Bool.and_eq_true, Nat.ble_eq] at h
    exact h
  have e : c - 97 + 97 = c := by omega
  have := key (c - 97) (by omega)
  rw [e] at this
  generalize Builtin.Str.occurrences "abcdefghijklmnopqrstuvwxyz" ⟨#[c]⟩ 0 ("abcdefghijklmnopqrstuvwxyz" : Str).length 1 = l at *
  cases l with
  | nil => cases this
  | cons a r =>
    cases this
    exact ⟨r, rfl⟩
theorem wordB_len (w : Cs) : (wordB w).length = w.length + 1 := by simp [wordB]
theorem flat_small {α : Type} {f : α → List Nat} {b : Nat} : ∀ {l : List α}, (∀ x ∈ l, (f x).length ≤ b) → (l.map f).flatten.length ≤ l.length * b
  | [], _ => by simp
  | a :: r, h => by
    have h1 := h a List.mem_cons_self
    have h2 := flat_small (l := r) fun x hx => h x (List.mem_cons_of_mem _ hx)
    rw [List.map_cons, List.flatten_cons, List.length_append, List.length_cons, Nat.add_mul, Nat.one_mul]
    omega
theorem take_flat {α : Type} {f : α → List Nat} {l : List α} {i : Nat} {x : α} (h : l[i]? = some x) : ((l.take (i + 1)).map f).flatten = ((l.take i).map f).flatten ++ f x := by
  rw [List.take_succ, h]
  simp
theorem namesB_len {ws : List Cs} (h : NamesOk ws) (h6 : ws.length ≤ 6) : (namesB ws).length ≤ 60 := by
  have := flat_small (f := wordB) (l := ws) (b := 9) fun x hx => by
    have := names_len h x hx
    rw [wordB_len]
    omega
  unfold namesB
  rw [List.length_cons]
  omega
structure EncT (K : PySem.W.Frag) (mg : Str → Option Value) : Prop where
  f : FmtT K mg
  int : mg "int" = none
  sum : mg "sum" = none
  names_code : DeT K mg "names_code" s_names_code
  encode : DeT K mg "encode" s_encode
  TAG : ∃ t, mg "TAG" = some (.int 82 t)
  BYTE : ∃ t, mg "BYTE" = some (.int 256 t)
  mvN : ∃ o, K.lookup (He.ga K "MOVES") = some o ∧ o.cls = .type "tuple" ∧ o.dict = none
section
variable {P : Program} {w : World} {K : PySem.W.Frag} {mg : Str → Option Value} {base : Heap}
def spNames (K : PySem.W.Frag) : Sp := fun vs H Q _ => ∃ (a : Addr) (ws : List Cs), vs = [.ref a] ∧ TupN H a (ws.map sV) ∧ NamesOk ws ∧ ws.length ≤ 6 ∧
  ∀ (l : Addr) (H' : Hp), H l = none → Same H H' → H' l = some (.lst (iVs (namesB ws))) → Q (.ref l) H'
abbrev ncN : List Str := ["names", "result", "name", "letter"]
theorem sc_names : FnScope ncN ["names"] (defScope s_names_code) := ⟨rfl, rfl, rfl, by decide +kernel, rfl, by decide +kernel, by decide +kernel⟩
abbrev rLet : V → List V → Hp → VK → Prop := fun x xs H Q => ∃ a b i rest, x = .str a ∧ xs = [.str b] ∧ Builtin.Str.occurrences a b 0 a.length 1 = i :: rest ∧ Q (.int (i : Nat)) H
theorem ok_names (T : EncT K mg) : FnE P w K mg base CX0 1 ("names_code", none) ["names"] (spNames K) := by
  obtain ⟨fd, F⟩ := T.names_code.d
  obtain ⟨tL, mL⟩ := T.f.lo.p.l.LETTERS
  refine ⟨fd, F.ok sc_names (fun vs H Q E h => ?_) (fun cdv A outer s H vs Q E hr h => ?_), F.bindsN fun _ _ _ _ _ _ us hl => match us, hl with | [_], _ => rfl, F.kp⟩
  · obtain ⟨a, ws, rfl, _⟩ := h
    rfl
  · obtain ⟨a, ws, rfl, ha, hN, h6, k⟩ := h
    refine ⟨_, PSs.nox (pss_cons (ps_set (i := 1) sc_names.nd rfl (.inl rfl) (pe_lst (pa_cons (pe_callB call_len_seq (by rfl) T.f.lo.p.l.len boot_len (pa_cons (pv 0) pa_nil)) pa_nil)))
      (pss_cons (ps_for PassesOwn.never rfl (pi_tup (pv 0)) (pg_name (i := 2) sc_names.nd rfl (.inl rfl))
        (pss_one (ps_expr (pe_bm PySem.F.plainAttrs_list PySem.F.slot_list_extend PySem.F.type_list_extend mt_extend (pv 1) (pa_cons (pe_op op_cat (pe_lst (pa_cons (pe_callB call_len_str (by rfl) T.f.lo.p.l.len boot_len (pa_cons (pv 2) pa_nil)) pa_nil)) (pe_lc (own := [("letter", 3)]) (g := (gName 3)) (tt := tYes) (te := tBM K "str" rLet (tC (.str "abcdefghijklmnopqrstuvwxyz")) (tCons (tVar 3) tNil)) rfl sc_names.nd (pi_str (pv 2)) (blkOk_by (own := [("letter", 3)]) (N := ncN) (sc := defScope s_names_code) (by decide +kernel)) (fun _ _ _ _ _ => (pg_name (i := 3) sc_names.nd rfl (.inl rfl))) (fun _ _ _ _ _ => pts_nil) (fun _ _ _ _ _ => (pe_bm PySem.F.plainAttrs_str PySem.F.slot_str_index PySem.F.type_str_index mt_sindex (pe_glob (v := .str "abcdefghijklmnopqrstuvwxyz") rfl mL ⟨_, rfl⟩) (pa_cons (pv 3) pa_nil))))) pa_nil)))))
      (pss_one (ps_ret (pv 1))))), ?_⟩
    refine ⟨_, rfl, a, _, rfl, .inr ha.sq, (by show 1 ≤ sizeLine; decide), fun l nl => ?_⟩
    rw [List.length_map]
    have s1 := sameUpd (o := .lst [V.int (ws.length : Nat)]) (Same.refl H) nl
    have hl1 := @upd_same H l (.lst [V.int (ws.length : Nat)])
    generalize upd H l (.lst [V.int (ws.length : Nat)]) = H1 at *
    refine ⟨_, rfl, a, rfl, ⟨_, (ha.mono fun _ z => s1 _ _ z).sq⟩, ?_⟩
    refine for_tup (K := K) (a := a) (xs := ws.map sV) (fun i σ H2 => ∃ o2 : Option V, σ = [some (.ref a), some (.ref l), o2, none] ∧ Same H H2 ∧ H2 l = some (.lst (iVs (ws.length :: ((ws.take i).map wordB).flatten))))
      ⟨none, rfl, s1, hl1⟩ (fun i σ H2 _ ⟨_, _, sm, _⟩ => (ha.mono fun _ z => sm _ _ z).sq) ?_ ?_
    · rintro i x σ H2 hx ⟨o2, rfl, sm, hl2⟩
      rw [List.getElem?_map] at hx
      cases hw : ws[i]? with
      | none => rw [hw] at hx; cases hx
      | some wd =>
        rw [hw] at hx
        cases hx
        have hwd := hN.ok wd (List.mem_of_getElem? hw)
        have h8 : wd.length ≤ 8 := hwd.1.2.2
        have hix : i < ws.length := (List.getElem?_eq_some_iff.mp hw).1
        refine ⟨_, rfl, .inl ⟨rfl, _, SqL.of hl2⟩, _, rfl, sx wd, rfl, by rw [sx_len, sizeLine_eq]; omega, (by show 1 ≤ sizeLine; decide), fun p1 np1 => ?_⟩
        rw [sx_len]
        have s3 := sameUpd (o := .lst [V.int (wd.length : Nat)]) (Same.refl H2) np1
        have hp1 := @upd_same H2 p1 (.lst [V.int (wd.length : Nat)])
        have pl1 : p1 ≠ l := fun z => by rw [z, hl2] at np1; cases np1
        replace hl2 := s3 _ _ hl2
        replace sm := sm.trans s3
        generalize upd H2 p1 (.lst [V.int (wd.length : Nat)]) = H3 at *
        refine ⟨_, rfl, sx wd, rfl, fun D nD => ?_⟩
        have Dl : D ≠ l := fun z => by rw [z, hl2] at nD; cases nD
        refine lc_it (walk_str (z := sx wd)) (fun j H4 => Same H3 H4 ∧ H4 D = some (.lst (iVs ((wd.take j).map (· - 97))))) ⟨sameUpd (Same.refl H3) nD, upd_same⟩ (fun _ _ _ _ => trivial) ?_ ?_
        · rintro j x H4 H4' hj ⟨sm4, hD⟩ ⟨rfl, c, hc, rfl⟩
          have hc' : wd[j]? = some c := by simpa [sx] using hc
          have hcl : isL c = true := hwd.1.1 c (List.mem_of_getElem? hc')
          obtain ⟨rest, ho⟩ := letter_at hcl
          refine ⟨rfl, rfl, _, rfl, _, _, _, rest, rfl, rfl, ho, _, hD, ?_, ?_, ?_⟩
          · rw [List.length_map, List.length_map, List.length_take, sizeLine_eq]
            omega
          · exact sameUpd sm4 nD
          · rw [upd_same, List.take_succ, hc']
            simp
        · rintro H4 ⟨sm4, hD⟩
          have hz : (sx wd).cps.size = wd.length := by simp [sx]
          rw [hz, List.take_length] at hD
          refine ⟨p1, D, _, _, rfl, rfl, sm4 _ _ hp1, hD, ?_, fun p3 np3 => ?_⟩
          · rw [List.length_map, List.length_map, sizeLine_eq]
            simp only [List.length_singleton]
            omega
          have e3 : [V.int (wd.length : Nat)] ++ iVs (wd.map (· - 97)) = iVs (wordB wd) := rfl
          rw [e3]
          have s5 := sameUpd (o := .lst (iVs (wordB wd))) (Same.refl H4) np3
          have hp3 := @upd_same H4 p3 (.lst (iVs (wordB wd)))
          have hl4 := s5 _ _ (sm4 _ _ hl2)
          replace sm := (sm.trans sm4).trans s5
          generalize upd H4 p3 (.lst (iVs (wordB wd))) = H5 at *
          have hfs := flat_small (f := wordB) (l := ws.take i) (b := 9) fun x hx => by
            have := names_len hN x (List.mem_of_mem_take hx)
            rw [wordB_len]
            omega
          rw [List.length_take] at hfs
          refine ⟨l, p3, _, _, rfl, rfl, hl4, hp3, ?_, _, rfl, sameUpd sm nl, ?_⟩
          · rw [List.length_map, List.length_map, List.length_cons, wordB_len, sizeLine_eq]
            omega
          · rw [upd_same, iVs_app, take_flat hw]
            rfl
    rintro σ H2 ⟨o2, rfl, sm, hl2⟩
    rw [List.length_map, List.take_length] at hl2
    exact ⟨_, rfl, k l H2 nl sm hl2⟩
/-! ### encode -/
theorem isum (l : List Nat) : (l.map fun n : Nat => (n : Int)).sum = ((l.sum : Nat) : Int) := by
  induction l with
  | nil => rfl
  | cons a r ih =>
    rw [List.map_cons, List.sum_cons, List.sum_cons, ih]
    omega
theorem iVs_int (l : List Nat) : iVs l = (l.map fun n : Nat => (n : Int)).map V.int := by rw [List.map_map]; rfl
theorem move_at {m : Cs} (h : m ∈ moves) : (moves.map sx)[moveI m]? = some (sx m) ∧ ∀ j, j < moveI m → (moves.map sx)[j]? ≠ some (sx m) := by
  have key : ∀ m ∈ moves, (moves.map sx)[moveI m]? = some (sx m) ∧ ∀ j, j < 3 → j < moveI m → (moves.map sx)[j]? ≠ some (sx m) := by decide +kernel
  obtain ⟨a, b⟩ := key m h
  refine ⟨a, fun j hj => b j ?_ hj⟩
  have := (List.getElem?_eq_some_iff.mp a).1
  simp [moves] at this
  omega
def spEncode : Sp := fun vs H Q _ => ∃ (pl : Plan), vs = [sV (textOf pl)] ∧ WfP pl ∧ SortedR pl.rules ∧
  ∀ (l : Addr) (H' : Hp), H l = none → Same H H' → H' l = some (.lst (iVs (codeB pl))) → Q (.ref l) H'
abbrev enN : List Str := ["plan", "parsed", "result", "tile", "is_right", "mood", "sign", "left", "move", "later"]
theorem sc_enc : FnScope enN ["plan"] (defScope s_encode) := ⟨rfl, rfl, rfl, by decide +kernel, rfl, by decide +kernel, by decide +kernel⟩
theorem ok_encode (T : EncT K mg) : FnE P w K mg base CX0 9 ("encode", none) ["plan"] spEncode := by
  obtain ⟨fd, F⟩ := T.encode.d
  obtain ⟨tT, mTAG⟩ := T.TAG
  obtain ⟨tB, mBYTE⟩ := T.BYTE
  obtain ⟨fdL, GL, bL, kL⟩ := (ok_load (P := P) (w := w) (base := base) T.f.lo).calm
  obtain ⟨fdN, GN, bN, kN⟩ := ok_names (P := P) (w := w) (base := base) T
  refine ⟨fd, F.ok sc_enc (fun vs H Q E h => ?_) (fun cdv A outer s H vs Q E hr h => ?_), F.bindsN fun _ _ _ _ _ _ us hl => match us, hl with | [_], _ => rfl, F.kp⟩
  · obtain ⟨pl, rfl, _⟩ := h
    rfl
  · obtain ⟨pl, rfl, wf, so, k⟩ := h
    have hu := hu_of hr
    have hrL : Room 8 _ := hr
    have hrN : Room 1 _ := hr.mono (by decide)
    refine ⟨_, PSs.nox (pss_cons (ps_set (i := 1) sc_enc.nd rfl (.inl rfl) (pe_call GL hrL rfl T.f.lo.g_load kL bL .nil pass0 (pa_cons (pv 0) pa_nil)))
      (pss_cons (ps_set (i := 2) sc_enc.nd rfl (.inl rfl) (pe_lst (pa_cons (pe_glob (v := .int 82) rfl mTAG ⟨_, rfl⟩) (pa_cons (pe_callB call_len_seq (by rfl) T.f.lo.p.l.len boot_len (pa_cons (pe_fld (pv 1) rfl) pa_nil)) (StX.pa_star (pe_call GN hrN rfl T.names_code.g kN bN .nil pass0 (pa_cons (pe_fld (pv 1) rfl) pa_nil)) (StX.pa_star (pe_call GN hrN rfl T.names_code.g kN bN .nil pass0 (pa_cons (pe_fld (pv 1) rfl) pa_nil)) (pa_cons (pe_callB call_len_seq (by rfl) T.f.lo.p.l.len boot_len (pa_cons (pe_fld (pv 1) rfl) pa_nil)) pa_nil)))))))
      (pss_cons (ps_for PassesOwn.never rfl (pi_tup (pe_fld (pv 1) rfl)) (pg_tup rfl (pgs_cons (pg_name (i := 3) sc_enc.nd rfl (.inl rfl)) (pgs_cons (pg_name (i := 4) sc_enc.nd rfl (.inl rfl)) pgs_nil)))
        (pss_one (ps_expr (pe_bm PySem.F.plainAttrs_list PySem.F.slot_list_extend PySem.F.type_list_extend mt_extend (pv 2) (pa_cons (pe_lst (pa_cons (pv 3) (pa_cons (pe_callTy call_int1 (by rfl) T.int (by decide +kernel) (pa_cons (pv 4) pa_nil)) pa_nil))) pa_nil)))))
      (pss_cons (ps_expr (pe_bm PySem.F.plainAttrs_list PySem.F.slot_list_extend PySem.F.type_list_extend mt_extend (pv 2) (pa_cons (pe_lst (StX.pa_star (pe_fld (pv 1) rfl) (pa_cons (pe_callB call_len_dT (by rfl) T.f.lo.p.l.len boot_len (pa_cons (pe_fld (pv 1) rfl) pa_nil)) pa_nil))) pa_nil)))
      (pss_cons (ps_for PassesOwn.never rfl (pi_list (pe_callB (cr_sortedDT rfl) (by rfl) T.f.sorted (by decide +kernel) (pa_cons (pe_fld (pv 1) rfl) pa_nil))) (pg_tup rfl (pgs_cons (pg_name (i := 5) sc_enc.nd rfl (.inl rfl)) (pgs_cons (pg_name (i := 6) sc_enc.nd rfl (.inl rfl)) pgs_nil)))
        (pss_cons (ps_asg (pe_dget hu (pe_fld (pv 1) rfl) (pe_tup (pa_cons (pv 5) (pa_cons (pv 6) pa_nil))) (fun _ _ => rfl))
          (pg_tup rfl (pgs_cons (pg_name (i := 7) sc_enc.nd rfl (.inl rfl)) (pgs_cons (pg_name (i := 8) sc_enc.nd rfl (.inl rfl)) (pgs_cons (pg_name (i := 9) sc_enc.nd rfl (.inl rfl)) pgs_nil)))))
        (pss_one (ps_expr (pe_bm PySem.F.plainAttrs_list PySem.F.slot_list_extend PySem.F.type_list_extend mt_extend (pv 2) (pa_cons (pe_lst (pa_cons (pv 5) (pa_cons (pv 6) (pa_cons (pv 7) (pa_cons (pe_bm PySem.F.plainAttrs_tuple PySem.F.slot_tuple_index PySem.F.type_tuple_index mt_tup_index (pe_glob (v := .ref (He.ga K "MOVES")) rfl T.f.lo.p.MOVES rfl) (pa_cons (pv 8) pa_nil)) (pa_cons (pv 9) pa_nil)))))) pa_nil))))))
      (pss_one (ps_ret (pe_lst (StX.pa_star (pv 2) (pa_cons (pe_op op_mod (pe_callB (cr_sum rfl) (by rfl) T.sum (by decide +kernel) (pa_cons (pv 2) pa_nil)) (pe_glob (v := .int 256) rfl mBYTE ⟨_, rfl⟩)) pa_nil)))))))))), ?_⟩
    obtain ⟨st, h1, h2, h3⟩ := loads_text wf
    refine ⟨_, rfl, textOf pl, rfl, Nat.le_trans (text_len wf so).2 (by decide), fun n s hns => ?_, fun l c hns => by rw [h1] at hns; cases hns⟩
    rw [h1] at hns
    cases hns
    refine ⟨h2, fun a H1 na s1 hP => ?_⟩
    rw [h3] at hP
    obtain ⟨dx, sa, ma, fa, ra, rd, ras, e0, e1, e2, e3, e4, e5, kvs, e6, e7⟩ := hP
    have cl := T.f.lo.plan.c
    have nat : ∀ f ∈ planF, NoAttr K (He.ga K "Plan") f := T.f.lo.plan.n
    have hs4 := wf.s4
    have hm6 := wf.m6
    have h16 := wf.n16
    refine ⟨_, rfl, a, _, dx, _, _, rfl, e0, cl, nat _ (by simp), lpl_floor, fa, _, rfl, .inr (SqT.of e3), ?_⟩
    refine ⟨_, rfl, a, _, dx, _, _, rfl, e0, cl, nat _ (by simp), lpl_signs, sa, pl.signs, rfl, e1, wf.sN, by omega, fun l1 H2 nl1 s2 hl1 => ?_⟩
    refine ⟨l1, _, rfl, .inr (SqL.of hl1), ?_⟩
    refine ⟨_, rfl, a, _, dx, _, _, rfl, s2 _ _ e0, cl, nat _ (by simp), lpl_moods, ma, pl.moods, rfl, e2.mono (fun _ z => s2 _ _ z), wf.mN, by omega, fun l2 H3 nl2 s3 hl2 => ?_⟩
    refine ⟨l2, _, rfl, .inr (SqL.of hl2), ?_⟩
    replace s2 := s2.trans s3
    refine ⟨_, rfl, a, _, dx, _, _, rfl, s2 _ _ e0, cl, nat _ (by simp), lpl_robots, ra, _, rfl, .inr (SqT.of (s2 _ _ e4)), ?_⟩
    have lN1 := namesB_len wf.sN (by omega)
    have lN2 := namesB_len wf.mN (by omega)
    have hr3 := wf.r3
    have hA : (V.int 82 :: V.int (((pl.floor.map fun n : Nat => V.int n).length : Nat) : Int) :: (iVs (namesB pl.signs) ++ (iVs (namesB pl.moods) ++ [V.int (((ras.map V.ref).length : Nat) : Int)]))) =
        iVs ([82, pl.floor.length] ++ namesB pl.signs ++ namesB pl.moods ++ [pl.robots.length]) := by
      rw [List.length_map, List.length_map, e5.length]
      simp
    have lA : ([82, pl.floor.length] ++ namesB pl.signs ++ namesB pl.moods ++ [pl.robots.length]).length ≤ 130 := by
      simp only [List.length_append, List.length_cons, List.length_nil]
      omega
    show _ ∧ _
    rw [hA]
    generalize hAA : [82, pl.floor.length] ++ namesB pl.signs ++ namesB pl.moods ++ [pl.robots.length] = LA at *
    refine ⟨by rw [List.length_map, sizeLine_eq]; omega, fun l nl => ?_⟩
    have nl1 : H1 l = none := s2.free nl
    have nl0 : H l = none := s1.free nl1
    have s4 := sameUpd (o := .lst (iVs LA)) (Same.refl H3) nl
    have hl4 := @upd_same H3 l (.lst (iVs LA))
    replace s2 := s2.trans s4
    generalize upd H3 l (.lst (iVs LA)) = H4 at *
    -- robots
    refine ⟨_, rfl, a, _, dx, _, _, rfl, s2 _ _ e0, cl, nat _ (by simp), lpl_robots, ra, rfl, ⟨_, SqT.of (s2 _ _ e4)⟩, ?_⟩
    refine for_tup (K := K) (a := ra) (xs := ras.map V.ref) (fun i σ H5 => ∃ o3 o4 : Option V, σ = [some (sV (textOf pl)), some (.ref a), some (.ref l), o3, o4, none, none, none, none, none] ∧ Same H1 H5 ∧
      H5 l = some (.lst (iVs (LA ++ ((pl.robots.take i).map robB).flatten)))) ⟨none, none, rfl, s2, by rw [List.take_zero, List.map_nil, List.flatten_nil, List.append_nil]; exact hl4⟩ (fun i σ H5 _ ⟨_, _, _, sm, _⟩ => SqT.of (sm _ _ e4)) ?_ ?_
    · rintro i x σ H5 hx ⟨o3, o4, rfl, sm, hl5⟩
      rw [List.getElem?_map] at hx
      cases hra : ras[i]? with
      | none => rw [hra] at hx; cases hx
      | some rai =>
        rw [hra] at hx
        cases hx
        obtain ⟨⟨rt, rb⟩, hr', hrob⟩ := pairedL e5 hra
        refine ⟨rai, _, rfl, SqT.of (sm _ _ hrob), rfl, _, _, rfl, _, _, rfl, rfl, ?_⟩
        refine ⟨_, rfl, .inl ⟨rfl, _, SqL.of hl5⟩, _, rfl, _, rfl, .inr ⟨_, rfl, (by show 2 ≤ sizeLine; decide), fun p np => ?_⟩⟩
        have eR : [V.int (rt : Nat), V.int (if rb = true then 1 else 0)] = iVs (robB (rt, rb)) := by cases rb <;> rfl
        rw [eR]
        have s6 := sameUpd (o := .lst (iVs (robB (rt, rb)))) (Same.refl H5) np
        have hp6 := @upd_same H5 p (.lst (iVs (robB (rt, rb))))
        replace hl5 := s6 _ _ hl5
        replace sm := sm.trans s6
        generalize upd H5 p (.lst (iVs (robB (rt, rb)))) = H6 at *
        have hfs := flat_small (f := robB) (l := pl.robots.take i) (b := 2) fun x hx => Nat.le_refl _
        rw [List.length_take] at hfs
        refine ⟨l, p, _, _, rfl, rfl, hl5, hp6, ?_, _, _, rfl, sameUpd sm nl1, ?_⟩
        · rw [List.length_map, List.length_map, List.length_append, sizeLine_eq]
          show _ + 2 ≤ _
          omega
        · rw [upd_same, iVs_app, take_flat hr', List.append_assoc]
    rintro σ H5 ⟨o3, o4, rfl, s5, hl5⟩
    rw [List.length_map, e5.length, List.take_length] at hl5
    have lR := flat_small (f := robB) (l := pl.robots) (b := 2) fun x hx => Nat.le_refl _
    generalize hBB : LA ++ (pl.robots.map robB).flatten = LB at *
    have lB : LB.length ≤ 140 := by
      rw [← hBB, List.length_append]
      omega
    -- floor
    have hru := rules_few wf so
    refine ⟨_, rfl, .inl ⟨rfl, _, SqL.of hl5⟩, _, rfl, a, _, dx, _, _, rfl, s5 _ _ e0, cl, nat _ (by simp), lpl_floor, fa, _, rfl, .inl (SqT.of (s5 _ _ e3)), ?_⟩
    refine ⟨_, rfl, a, _, dx, _, _, rfl, s5 _ _ e0, cl, nat _ (by simp), lpl_rules, rd, kvs, rfl, s5 _ _ e6, ?_⟩
    have hF : (pl.floor.map (fun n : Nat => V.int n)) ++ [V.int ((kvs.length : Nat) : Int)] = iVs (pl.floor ++ [pl.rules.length]) := by
      rw [← e7.length]
      simp
    show _ ∧ _
    rw [hF]
    refine ⟨by rw [List.length_map, List.length_append, List.length_singleton, sizeLine_eq]; omega, fun p np => ?_⟩
    have s6 := sameUpd (o := .lst (iVs (pl.floor ++ [pl.rules.length]))) (Same.refl H5) np
    have hp6 := @upd_same H5 p (.lst (iVs (pl.floor ++ [pl.rules.length])))
    replace hl5 := s6 _ _ hl5
    replace s5 := s5.trans s6
    generalize upd H5 p (.lst (iVs (pl.floor ++ [pl.rules.length]))) = H6 at *
    refine ⟨l, p, _, _, rfl, rfl, hl5, hp6, by rw [List.length_map, List.length_map, List.length_append, List.length_singleton, sizeLine_eq]; omega, ?_⟩
    rw [iVs_app]
    have s7 := sameUpd (o := .lst (iVs (LB ++ (pl.floor ++ [pl.rules.length])))) s5 nl1
    have hl7 := @upd_same H6 l (.lst (iVs (LB ++ (pl.floor ++ [pl.rules.length]))))
    generalize upd H6 l (.lst (iVs (LB ++ (pl.floor ++ [pl.rules.length])))) = H7 at *
    generalize hCC : LB ++ (pl.floor ++ [pl.rules.length]) = LC at *
    have lC : LC.length ≤ 160 := by
      rw [← hCC, List.length_append, List.length_append, List.length_singleton]
      omega
    -- rules
    refine ⟨_, rfl, a, _, dx, _, _, rfl, s7 _ _ e0, cl, nat _ (by simp), lpl_rules, rd, kvs, pl.rules.map (·.1), rfl, Rd.of (s7 _ _ e6), rules_keys e7, fun ys bs q hperm hso hpair nq => ?_⟩
    obtain rfl := perm_sorted hperm hso so.le
    have s8 := sameUpd (o := .lst (bs.map V.ref)) (Same.refl H7) nq
    have hq8 := @upd_same H7 q (.lst (bs.map V.ref))
    have hql : q ≠ l := fun z => by rw [z, hl7] at nq; cases nq
    replace hl7 := s8 _ _ hl7
    replace s7 := s7.trans s8
    have hpair : Paired (PairAt (upd H7 q (.lst (bs.map V.ref)))) bs (pl.rules.map (·.1)) := Paired.mapP hpair fun _ _ q => s8 _ _ q
    generalize upd H7 q (.lst (bs.map V.ref)) = H8 at *
    refine ⟨q, rfl, ⟨_, SqL.of hq8⟩, ?_⟩
    refine for_list (K := K) (a := q) (xs := bs.map V.ref) (fun i σ H9 => ∃ o5 o6 o7 o8 o9 : Option V, σ = [some (sV (textOf pl)), some (.ref a), some (.ref l), o3, o4, o5, o6, o7, o8, o9] ∧ Same (cutH H8 [l]) H9 ∧
      H9 l = some (.lst (iVs (LC ++ ((pl.rules.take i).map ruleB).flatten)))) ⟨none, none, none, none, none, rfl, cutH_same, by rw [List.take_zero, List.map_nil, List.flatten_nil, List.append_nil]; exact hl7⟩
      (fun i σ H9 _ ⟨_, _, _, _, _, _, sm, _⟩ => SqL.of (sm _ _ (by rw [cutH_out (by simpa using hql)]; exact hq8))) ?_ ?_
    · rintro i x σ H9 hx ⟨o5, o6, o7, o8, o9, rfl, sm, hl9⟩
      have up : ∀ b o, b ≠ l → H8 b = some o → H9 b = some o := fun b o hb e => sm _ _ (by rw [cutH_out (by simpa using hb)]; exact e)
      rw [List.getElem?_map] at hx
      cases hbi : bs[i]? with
      | none => rw [hbi] at hx; cases hx
      | some bi =>
        rw [hbi] at hx
        cases hx
        obtain ⟨ky, hky, hpr⟩ := pairedL hpair hbi
        rw [List.getElem?_map] at hky
        cases hri : pl.rules[i]? with
        | none => rw [hri] at hky; cases hky
        | some kv =>
          rw [hri] at hky
          cases hky
          have hmem := List.mem_of_getElem? hri
          have rk := wf.ru kv hmem
          have hir : i < pl.rules.length := (List.getElem?_eq_some_iff.mp hri).1
          have nel : ∀ {b : Addr} {o : HO}, H1 b = some o → b ≠ l := fun e z => by rw [z, nl1] at e; cases e
          have bil : bi ≠ l := fun z => by
            have q : H8 bi = _ := hpr
            rw [z, hl7] at q
            cases q
          refine ⟨bi, _, rfl, SqT.of (up _ _ bil hpr), rfl, _, _, rfl, _, _, rfl, rfl, ?_⟩
          refine ⟨_, rfl, a, _, dx, _, _, rfl, up _ _ (nel e0) (s7 _ _ e0), cl, nat _ (by simp), lpl_rules, _, rfl, _, rfl, (by show 2 ≤ sizeLine; decide), fun t nt => ?_⟩
          have s10 := sameUpd (o := .tup [.int kv.1.1, .int kv.1.2]) (Same.refl H9) nt
          have ht := @upd_same H9 t (.tup [.int kv.1.1, .int kv.1.2])
          have sm6 := sm.trans s10
          replace hl9 := s10 _ _ hl9
          replace up : ∀ b o, b ≠ l → H8 b = some o → (upd H9 t (.tup [.int kv.1.1, .int kv.1.2])) b = some o := fun b o hb e => s10 _ _ (up b o hb e)
          generalize upd H9 t (.tup [.int kv.1.1, .int kv.1.2]) = H10 at *
          have e7' : Paired (RuleAt H10) pl.rules kvs := Paired.mapP e7 fun _ _ q => q.mono fun b xs z => up _ _ (nel z) (s7 _ _ z)
          obtain ⟨tv, hv1, hv2⟩ := (rules_get (k := kv.1) e7').2 kv.2 (getA_mem wf.rn hmem)
          refine ⟨rd, .ref tv, rfl, by rw [← hv1]; exact DGet.t (k := keyT kv.1) (up _ _ (nel e6) (s7 _ _ e6)) ht, ?_⟩
          refine ⟨tv, _, rfl, SqT.of hv2, rfl, _, _, rfl, _, _, rfl, _, _, rfl, rfl, ?_⟩
          obtain ⟨mv1, mv2⟩ := move_at rk.mv
          have hmt : SqT K H10 (He.ga K "MOVES") ((moves.map sx).map V.str) := by
            rw [List.map_map]
            exact T.f.lo.p.moves H10
          refine ⟨_, rfl, .inl ⟨rfl, _, SqL.of hl9⟩, _, rfl, _, rfl, _, rfl, .inr (.inl ⟨rfl, T.mvN⟩), _, rfl, He.ga K "MOVES", moves.map sx, _, moveI kv.2.move, rfl, rfl, hmt, mv1, mv2, _, rfl, (by show 5 ≤ sizeLine; decide), fun p np => ?_⟩
          have eR : [V.int (kv.1.1 : Nat), V.int (kv.1.2 : Nat), V.int (kv.2.left : Nat), V.int (moveI kv.2.move : Nat), V.int (kv.2.later : Nat)] = iVs (ruleB kv) := rfl
          rw [eR]
          have s11 := sameUpd (o := .lst (iVs (ruleB kv))) (Same.refl H10) np
          have hp11 := @upd_same H10 p (.lst (iVs (ruleB kv)))
          replace hl9 := s11 _ _ hl9
          replace sm6 := sm6.trans s11
          generalize upd H10 p (.lst (iVs (ruleB kv))) = H11 at *
          have hfs := flat_small (f := ruleB) (l := pl.rules.take i) (b := 5) fun x hx => Nat.le_refl _
          rw [List.length_take] at hfs
          refine ⟨l, p, _, _, rfl, rfl, hl9, hp11, ?_, _, _, _, _, _, rfl, cutS sm6 (by simp), ?_⟩
          · rw [List.length_map, List.length_map, List.length_append, sizeLine_eq]
            show _ + 5 ≤ _
            omega
          · rw [upd_same, iVs_app, take_flat hri, List.append_assoc]
    rintro σ H9 ⟨o5, o6, o7, o8, o9, rfl, sm, hl9⟩
    have hbl : bs.length = pl.rules.length := by rw [hpair.length, List.length_map]
    rw [List.length_map, hbl, List.take_length] at hl9
    have eB : LC ++ (pl.rules.map ruleB).flatten = bodyB pl := by
      rw [← hCC, ← hBB, ← hAA]
      rfl
    have lD := flat_small (f := ruleB) (l := pl.rules) (b := 5) fun x hx => Nat.le_refl _
    have lbody : (bodyB pl).length ≤ 300 := by
      rw [← eB, List.length_append]
      omega
    rw [eB] at hl9
    refine ⟨_, rfl, l, _, rfl, .inr (SqL.of hl9), _, rfl, l, (bodyB pl).map (fun n : Nat => (n : Int)), rfl, SqL.of (by rw [← iVs_int]; exact hl9), ?_⟩
    rw [isum]
    refine ⟨_, _, rfl, rfl, (show (0 : Int) < 256 by decide), ?_⟩
    have eM : ((((bodyB pl).sum : Nat) : Int) % 256) = (((bodyB pl).sum % 256 : Nat) : Int) := by omega
    have eC : iVs (bodyB pl) ++ [V.int ((((bodyB pl).sum : Nat) : Int) % 256)] = iVs (codeB pl) := by
      rw [eM]
      unfold codeB
      rw [← iVs_app]
      rfl
    show _ ∧ _
    rw [eC]
    refine ⟨?_, fun z nz => ?_⟩
    · unfold codeB
      rw [List.length_map, List.length_append, List.length_singleton, sizeLine_eq]
      omega
    have nz8 : (cutH H8 [l]) z = none := sm.free nz
    have nzl : z ≠ l := fun q => by rw [q, hl9] at nz; cases nz
    have nz8' : H8 z = none := by rw [cutH_out (by simpa using nzl)] at nz8; exact nz8
    refine k z _ (s1.free (s7.free nz8')) ?_ upd_same
    refine sameUpd (fun b o e => sm _ _ ?_) (s1.free (s7.free nz8'))
    rw [cutH_out]
    · exact s7 _ _ (s1 _ _ e)
    · intro q
      rw [List.mem_singleton.mp q, nl0] at e
      cases e
end
end Sw

end

section
set_option maxRecDepth 100000
set_option maxHeartbeats 4000000
/-! the code tells plans apart; the text tells plans apart -/
namespace Sw
theorem letters_inj : ∀ {w v : Cs}, (∀ c ∈ w, isL c = true) → (∀ c ∈ v, isL c = true) → w.map (· - 97) = v.map (· - 97) → w = v
  | [], [], _, _, _ => rfl
  | [], _ :: _, _, _, e => by cases e
  | _ :: _, [], _, _, e => by cases e
  | c :: w, d :: v, hw, hv, e => by
    have lo : ∀ c, isL c = true → 97 ≤ c := fun c h => by
      unfold isL at h
      simp only [Bool.and_eq_true, Nat.ble_eq] at h
      exact h.1
    have h1 := lo c (hw c List.mem_cons_self)
    have h2 := lo d (hv d List.mem_cons_self)
    rw [List.map_cons, List.map_cons] at e
    injection e with e1 e2
    have : c = d := by omega
    rw [this, letters_inj (fun x hx => hw x (List.mem_cons_of_mem _ hx)) (fun x hx => hv x (List.mem_cons_of_mem _ hx)) e2]
theorem words_inj : ∀ {a b : List Cs} {x y : List Nat}, a.length = b.length → (∀ w ∈ a, ∀ c ∈ w, isL c = true) → (∀ w ∈ b, ∀ c ∈ w, isL c = true) → (a.map wordB).flatten ++ x = (b.map wordB).flatten ++ y → a = b ∧ x = y
  | [], [], _, _, _, _, _, e => ⟨rfl, e⟩
  | [], _ :: _, _, _, h, _, _, _ => by cases h
  | _ :: _, [], _, _, h, _, _, _ => by cases h
  | w :: a, v :: b, x, y, h, ha, hb, e => by
    have ea : ((w :: a).map wordB).flatten ++ x = w.length :: (w.map (· - 97) ++ ((a.map wordB).flatten ++ x)) := by simp [wordB]
    have eb : ((v :: b).map wordB).flatten ++ y = v.length :: (v.map (· - 97) ++ ((b.map wordB).flatten ++ y)) := by simp [wordB]
    rw [ea, eb] at e
    injection e with e1 e2
    obtain ⟨e3, e4⟩ := List.append_inj e2 (by rw [List.length_map, List.length_map]; exact e1)
    have e5 := letters_inj (ha w List.mem_cons_self) (hb v List.mem_cons_self) e3
    obtain ⟨e6, e7⟩ := words_inj (Nat.succ.inj h) (fun z hz => ha z (List.mem_cons_of_mem _ hz)) (fun z hz => hb z (List.mem_cons_of_mem _ hz)) e4
    exact ⟨by rw [e5, e6], e7⟩
theorem names_inj {a b : List Cs} {x y : List Nat} (ha : NamesOk a) (hb : NamesOk b) (e : namesB a ++ x = namesB b ++ y) : a = b ∧ x = y := by
  have e : a.length :: ((a.map wordB).flatten ++ x) = b.length :: ((b.map wordB).flatten ++ y) := e
  injection e with e1 e2
  exact words_inj e1 (fun w hw => (ha.ok w hw).1.1) (fun w hw => (hb.ok w hw).1.1) e2
theorem robs_inj : ∀ {a b : List (Nat × Bool)} {x y : List Nat}, a.length = b.length → (a.map robB).flatten ++ x = (b.map robB).flatten ++ y → a = b ∧ x = y
  | [], [], _, _, _, e => ⟨rfl, e⟩
  | [], _ :: _, _, _, h, _ => by cases h
  | _ :: _, [], _, _, h, _ => by cases h
  | (t, r) :: a, (u, s) :: b, x, y, h, e => by
    have ea : (((t, r) :: a).map robB).flatten ++ x = t :: (if r then 1 else 0) :: ((a.map robB).flatten ++ x) := by simp [robB]
    have eb : (((u, s) :: b).map robB).flatten ++ y = u :: (if s then 1 else 0) :: ((b.map robB).flatten ++ y) := by simp [robB]
    rw [ea, eb] at e
    injection e with e1 e2
    injection e2 with e3 e4
    obtain ⟨e6, e7⟩ := robs_inj (Nat.succ.inj h) e4
    have : r = s := by cases r <;> cases s <;> simp_all
    exact ⟨by rw [e1, this, e6], e7⟩
theorem move_inj {m k : Cs} (hm : m ∈ moves) (hk : k ∈ moves) (e : moveI m = moveI k) : m = k := by
  have key : ∀ m ∈ moves, ∀ k ∈ moves, moveI m = moveI k → m = k := by decide +kernel
  exact key m hm k hk e
theorem rules_inj {g m : Nat} : ∀ {a b : List ((Nat × Nat) × Rule)} {x y : List Nat}, a.length = b.length → (∀ kv ∈ a, kv.2.move ∈ moves) → (∀ kv ∈ b, kv.2.move ∈ moves) → (a.map ruleB).flatten ++ x = (b.map ruleB).flatten ++ y → a = b ∧ x = y
  | [], [], _, _, _, _, _, e => ⟨rfl, e⟩
  | [], _ :: _, _, _, h, _, _, _ => by cases h
  | _ :: _, [], _, _, h, _, _, _ => by cases h
  | ((a1, a2), ⟨a3, a4, a5⟩) :: a, ((b1, b2), ⟨b3, b4, b5⟩) :: b, x, y, h, ha, hb, e => by
    have ea : ((((a1, a2), (⟨a3, a4, a5⟩ : Rule)) :: a).map ruleB).flatten ++ x = a1 :: a2 :: a3 :: moveI a4 :: a5 :: ((a.map ruleB).flatten ++ x) := by simp [ruleB]
    have eb : ((((b1, b2), (⟨b3, b4, b5⟩ : Rule)) :: b).map ruleB).flatten ++ y = b1 :: b2 :: b3 :: moveI b4 :: b5 :: ((b.map ruleB).flatten ++ y) := by simp [ruleB]
    rw [ea, eb] at e
    injection e with e1 e2
    injection e2 with e3 e4
    injection e4 with e5 e6
    injection e6 with e7 e8
    injection e8 with e9 e10
    obtain ⟨f1, f2⟩ := rules_inj (g := g) (m := m) (Nat.succ.inj h) (fun z hz => ha z (List.mem_cons_of_mem _ hz)) (fun z hz => hb z (List.mem_cons_of_mem _ hz)) e10
    have em : a4 = b4 := move_inj (ha _ List.mem_cons_self) (hb _ List.mem_cons_self) e7
    exact ⟨by rw [e1, e3, e5, em, e9, f1], f2⟩
theorem code_inj {p q : Plan} (hp : WfP p) (hq : WfP q) (e : codeB p = codeB q) : p = q := by
  unfold codeB at e
  have e1 : bodyB p = bodyB q := (List.append_inj' e rfl).1
  unfold bodyB at e1
  simp only [List.append_assoc, List.cons_append, List.nil_append] at e1
  injection e1 with _ e2
  injection e2 with en e3
  obtain ⟨es, e4⟩ := names_inj hp.sN hq.sN e3
  obtain ⟨em, e5⟩ := names_inj hp.mN hq.mN e4
  injection e5 with er e6
  obtain ⟨er2, e7⟩ := robs_inj er e6
  obtain ⟨ef, e8⟩ := List.append_inj e7 en
  injection e8 with eu e9
  have e10 := rules_inj (g := 0) (m := 0) (x := []) (y := []) eu (fun kv hkv => (hp.ru kv hkv).mv) (fun kv hkv => (hq.ru kv hkv).mv) (by rw [List.append_nil, List.append_nil]; exact e9)
  cases p
  cases q
  simp only at es em er2 ef e10
  rw [es, em, er2, ef, e10.1]
theorem text_inj {p q : Plan} (hp : WfP p) (hq : WfP q) (e : textOf p = textOf q) : p = q := by
  obtain ⟨s, h1, _, h3⟩ := loads_text hp
  obtain ⟨s', h1', _, h3'⟩ := loads_text hq
  rw [e, h1'] at h1
  injection h1 with h1
  injection h1 with a b
  rw [← h3, ← h3', a, b]
theorem code_text {p q : Plan} (hp : WfP p) (hq : WfP q) : codeB p = codeB q ↔ textOf p = textOf q := ⟨fun e => by rw [code_inj hp hq e], fun e => by rw [text_inj hp hq e]⟩
end Sw

end

section
set_option maxRecDepth 100000
set_option maxHeartbeats 4000000
/-! lists of numbers as data: equal or not -/
namespace Sw
open PySem PySem.Spec PyProof.Rows L2 SwA
theorem eqvAll_ints : ∀ a b : List Int, PyData.eqvAll (a.map PyData.int) (b.map PyData.int) = decide (a = b)
  | [], [] => by simp [PyData.eqvAll]
  | [], _ :: _ => by simp [PyData.eqvAll]
  | _ :: _, [] => by simp [PyData.eqvAll]
  | i :: a, j :: b => by
    rw [List.map_cons, List.map_cons, PyData.eqvAll, eqvAll_ints a b]
    by_cases h : i = j
    · subst h
      by_cases h2 : a = b <;> simp [h2, PyData.eqv]
    · simp [h, PyData.eqv]
theorem eqv_ints2 (a b : List Int) : PyData.eqv (.list (a.map PyData.int)) (.list (b.map PyData.int)) = decide (a = b) := by
  rw [PyData.eqv]
  exact eqvAll_ints a b
theorem dp_ints36 {K : PySem.W.Frag} {H : Hp} : ∀ l : List Nat, DpAll K H (iVs l) ((l.map fun n : Nat => (n : Int)).map PyData.int)
  | [] => .nil
  | a :: r => .cons (.int _) (dp_ints36 r)
theorem dp_strs36 {K : PySem.W.Frag} {H : Hp} : ∀ l : List Cs, DpAll K H (l.map sV) (l.map fun w => PyData.str (sx w))
  | [] => .nil
  | a :: r => .cons (.str _) (dp_strs36 r)
theorem nats_inj {a b : List Nat} (h : (a.map fun n : Nat => (n : Int)) = b.map fun n : Nat => (n : Int)) : a = b := (List.map_inj_right fun _ _ q => Int.ofNat.inj q).mp h
theorem code_eqv {p q : Plan} (hp : WfP p) (hq : WfP q) : PyData.eqv (.list (((codeB p).map fun n : Nat => (n : Int)).map PyData.int)) (.list (((codeB q).map fun n : Nat => (n : Int)).map PyData.int)) = decide (textOf p = textOf q) := by
  rw [eqv_ints2]
  refine decide_eq_decide.mpr ⟨fun h => (code_text hp hq).mp (nats_inj h), fun h => by rw [(code_text hp hq).mpr h]⟩
end Sw

end

section
set_option maxRecDepth 100000
set_option maxHeartbeats 4000000
/-! encode of any text that is read (printed by mken.py from SwN) -/
namespace Sw
open PySem PySem.Spec PyProof.Rows L2 SwA
section
variable {P : Program} {w : World} {K : PySem.W.Frag} {mg : Str → Option Value} {base : Heap}
def spEncodeR : Sp := fun vs H Q _ => ∃ (text : Cs) (pl : Plan) (rs : List ((Nat × Nat) × Rule)), vs = [sV text] ∧ Reads text pl ∧ WfP pl ∧ rs.Perm pl.rules ∧ SortedR rs ∧
  ∀ (l : Addr) (H' : Hp), H l = none → Same H H' → H' l = some (.lst (iVs (codeB { pl with rules := rs }))) → Q (.ref l) H'
theorem ok_encodeR (T : EncT K mg) : FnE P w K mg base CX0 9 ("encode", none) ["plan"] spEncodeR := by
  obtain ⟨fd, F⟩ := T.encode.d
  obtain ⟨tT, mTAG⟩ := T.TAG
  obtain ⟨tB, mBYTE⟩ := T.BYTE
  obtain ⟨fdL, GL, bL, kL⟩ := ok_read (P := P) (w := w) (base := base) T.f.lo
  obtain ⟨fdN, GN, bN, kN⟩ := ok_names (P := P) (w := w) (base := base) T
  refine ⟨fd, F.ok sc_enc (fun vs H Q E h => ?_) (fun cdv A outer s H vs Q E hr h => ?_), F.bindsN fun _ _ _ _ _ _ us hl => match us, hl with | [_], _ => rfl, F.kp⟩
  · obtain ⟨text, pl, rs, rfl, _⟩ := h
    rfl
  · obtain ⟨text, pl, rs, rfl, hR, wf, hper, so, k⟩ := h
    have wf2 := wf.perm hper
    have hrl : rs.length = pl.rules.length := hper.length_eq
    have hu := hu_of hr
    have hrL : Room 8 _ := hr
    have hrN : Room 1 _ := hr.mono (by decide)
    refine ⟨_, PSs.nox (pss_cons (ps_set (i := 1) sc_enc.nd rfl (.inl rfl) (pe_call GL hrL rfl T.f.lo.g_load kL bL .nil pass0 (pa_cons (pv 0) pa_nil)))
      (pss_cons (ps_set (i := 2) sc_enc.nd rfl (.inl rfl) (pe_lst (pa_cons (pe_glob (v := .int 82) rfl mTAG ⟨_, rfl⟩) (pa_cons (pe_callB call_len_seq (by rfl) T.f.lo.p.l.len boot_len (pa_cons (pe_fld (pv 1) rfl) pa_nil)) (StX.pa_star (pe_call GN hrN rfl T.names_code.g kN bN .nil pass0 (pa_cons (pe_fld (pv 1) rfl) pa_nil)) (StX.pa_star (pe_call GN hrN rfl T.names_code.g kN bN .nil pass0 (pa_cons (pe_fld (pv 1) rfl) pa_nil)) (pa_cons (pe_callB call_len_seq (by rfl) T.f.lo.p.l.len boot_len (pa_cons (pe_fld (pv 1) rfl) pa_nil)) pa_nil)))))))
      (pss_cons (ps_for PassesOwn.never rfl (pi_tup (pe_fld (pv 1) rfl)) (pg_tup rfl (pgs_cons (pg_name (i := 3) sc_enc.nd rfl (.inl rfl)) (pgs_cons (pg_name (i := 4) sc_enc.nd rfl (.inl rfl)) pgs_nil)))
        (pss_one (ps_expr (pe_bm PySem.F.plainAttrs_list PySem.F.slot_list_extend PySem.F.type_list_extend mt_extend (pv 2) (pa_cons (pe_lst (pa_cons (pv 3) (pa_cons (pe_callTy call_int1 (by rfl) T.int (by decide +kernel) (pa_cons (pv 4) pa_nil)) pa_nil))) pa_nil)))))
      (pss_cons (ps_expr (pe_bm PySem.F.plainAttrs_list PySem.F.slot_list_extend PySem.F.type_list_extend mt_extend (pv 2) (pa_cons (pe_lst (StX.pa_star (pe_fld (pv 1) rfl) (pa_cons (pe_callB call_len_dT (by rfl) T.f.lo.p.l.len boot_len (pa_cons (pe_fld (pv 1) rfl) pa_nil)) pa_nil))) pa_nil)))
      (pss_cons (ps_for PassesOwn.never rfl (pi_list (pe_callB (cr_sortedDT rfl) (by rfl) T.f.sorted (by decide +kernel) (pa_cons (pe_fld (pv 1) rfl) pa_nil))) (pg_tup rfl (pgs_cons (pg_name (i := 5) sc_enc.nd rfl (.inl rfl)) (pgs_cons (pg_name (i := 6) sc_enc.nd rfl (.inl rfl)) pgs_nil)))
        (pss_cons (ps_asg (pe_dget hu (pe_fld (pv 1) rfl) (pe_tup (pa_cons (pv 5) (pa_cons (pv 6) pa_nil))) (fun _ _ => rfl))
          (pg_tup rfl (pgs_cons (pg_name (i := 7) sc_enc.nd rfl (.inl rfl)) (pgs_cons (pg_name (i := 8) sc_enc.nd rfl (.inl rfl)) (pgs_cons (pg_name (i := 9) sc_enc.nd rfl (.inl rfl)) pgs_nil)))))
        (pss_one (ps_expr (pe_bm PySem.F.plainAttrs_list PySem.F.slot_list_extend PySem.F.type_list_extend mt_extend (pv 2) (pa_cons (pe_lst (pa_cons (pv 5) (pa_cons (pv 6) (pa_cons (pv 7) (pa_cons (pe_bm PySem.F.plainAttrs_tuple PySem.F.slot_tuple_index PySem.F.type_tuple_index mt_tup_index (pe_glob (v := .ref (He.ga K "MOVES")) rfl T.f.lo.p.MOVES rfl) (pa_cons (pv 8) pa_nil)) (pa_cons (pv 9) pa_nil)))))) pa_nil))))))
      (pss_one (ps_ret (pe_lst (StX.pa_star (pv 2) (pa_cons (pe_op op_mod (pe_callB (cr_sum rfl) (by rfl) T.sum (by decide +kernel) (pa_cons (pv 2) pa_nil)) (pe_glob (v := .int 256) rfl mBYTE ⟨_, rfl⟩)) pa_nil)))))))))), ?_⟩
    refine ⟨_, rfl, text, pl, rfl, hR, fun a H1 na s1 hP => ?_⟩
    obtain ⟨dx, sa, ma, fa, ra, rd, ras, e0, e1, e2, e3, e4, e5, kvs, e6, e7⟩ := hP
    have cl := T.f.lo.plan.c
    have nat : ∀ f ∈ planF, NoAttr K (He.ga K "Plan") f := T.f.lo.plan.n
    have hs4 := wf.s4
    have hm6 := wf.m6
    have h16 := wf.n16
    refine ⟨_, rfl, a, _, dx, _, _, rfl, e0, cl, nat _ (by simp), lpl_floor, fa, _, rfl, .inr (SqT.of e3), ?_⟩
    refine ⟨_, rfl, a, _, dx, _, _, rfl, e0, cl, nat _ (by simp), lpl_signs, sa, pl.signs, rfl, e1, wf.sN, by omega, fun l1 H2 nl1 s2 hl1 => ?_⟩
    refine ⟨l1, _, rfl, .inr (SqL.of hl1), ?_⟩
    refine ⟨_, rfl, a, _, dx, _, _, rfl, s2 _ _ e0, cl, nat _ (by simp), lpl_moods, ma, pl.moods, rfl, e2.mono (fun _ z => s2 _ _ z), wf.mN, by omega, fun l2 H3 nl2 s3 hl2 => ?_⟩
    refine ⟨l2, _, rfl, .inr (SqL.of hl2), ?_⟩
    replace s2 := s2.trans s3
    refine ⟨_, rfl, a, _, dx, _, _, rfl, s2 _ _ e0, cl, nat _ (by simp), lpl_robots, ra, _, rfl, .inr (SqT.of (s2 _ _ e4)), ?_⟩
    have lN1 := namesB_len wf.sN (by omega)
    have lN2 := namesB_len wf.mN (by omega)
    have hr3 := wf.r3
    have hA : (V.int 82 :: V.int (((pl.floor.map fun n : Nat => V.int n).length : Nat) : Int) :: (iVs (namesB pl.signs) ++ (iVs (namesB pl.moods) ++ [V.int (((ras.map V.ref).length : Nat) : Int)]))) =
        iVs ([82, pl.floor.length] ++ namesB pl.signs ++ namesB pl.moods ++ [pl.robots.length]) := by
      rw [List.length_map, List.length_map, e5.length]
      simp
    have lA : ([82, pl.floor.length] ++ namesB pl.signs ++ namesB pl.moods ++ [pl.robots.length]).length ≤ 130 := by
      simp only [List.length_append, List.length_cons, List.length_nil]
      omega
    show _ ∧ _
    rw [hA]
    generalize hAA : [82, pl.floor.length] ++ namesB pl.signs ++ namesB pl.moods ++ [pl.robots.length] = LA at *
    refine ⟨by rw [List.length_map, sizeLine_eq]; omega, fun l nl => ?_⟩
    have nl1 : H1 l = none := s2.free nl
    have nl0 : H l = none := s1.free nl1
    have s4 := sameUpd (o := .lst (iVs LA)) (Same.refl H3) nl
    have hl4 := @upd_same H3 l (.lst (iVs LA))
    replace s2 := s2.trans s4
    generalize upd H3 l (.lst (iVs LA)) = H4 at *
    -- robots
    refine ⟨_, rfl, a, _, dx, _, _, rfl, s2 _ _ e0, cl, nat _ (by simp), lpl_robots, ra, rfl, ⟨_, SqT.of (s2 _ _ e4)⟩, ?_⟩
    refine for_tup (K := K) (a := ra) (xs := ras.map V.ref) (fun i σ H5 => ∃ o3 o4 : Option V, σ = [some (sV text), some (.ref a), some (.ref l), o3, o4, none, none, none, none, none] ∧ Same H1 H5 ∧
      H5 l = some (.lst (iVs (LA ++ ((pl.robots.take i).map robB).flatten)))) ⟨none, none, rfl, s2, by rw [List.take_zero, List.map_nil, List.flatten_nil, List.append_nil]; exact hl4⟩ (fun i σ H5 _ ⟨_, _, _, sm, _⟩ => SqT.of (sm _ _ e4)) ?_ ?_
    · rintro i x σ H5 hx ⟨o3, o4, rfl, sm, hl5⟩
      rw [List.getElem?_map] at hx
      cases hra : ras[i]? with
      | none => rw [hra] at hx; cases hx
      | some rai =>
        rw [hra] at hx
        cases hx
        obtain ⟨⟨rt, rb⟩, hr', hrob⟩ := pairedL e5 hra
        refine ⟨rai, _, rfl, SqT.of (sm _ _ hrob), rfl, _, _, rfl, _, _, rfl, rfl, ?_⟩
        refine ⟨_, rfl, .inl ⟨rfl, _, SqL.of hl5⟩, _, rfl, _, rfl, .inr ⟨_, rfl, (by show 2 ≤ sizeLine; decide), fun p np => ?_⟩⟩
        have eR : [V.int (rt : Nat), V.int (if rb = true then 1 else 0)] = iVs (robB (rt, rb)) := by cases rb <;> rfl
        rw [eR]
        have s6 := sameUpd (o := .lst (iVs (robB (rt, rb)))) (Same.refl H5) np
        have hp6 := @upd_same H5 p (.lst (iVs (robB (rt, rb))))
        replace hl5 := s6 _ _ hl5
        replace sm := sm.trans s6
        generalize upd H5 p (.lst (iVs (robB (rt, rb)))) = H6 at *
        have hfs := flat_small (f := robB) (l := pl.robots.take i) (b := 2) fun x hx => Nat.le_refl _
        rw [List.length_take] at hfs
        refine ⟨l, p, _, _, rfl, rfl, hl5, hp6, ?_, _, _, rfl, sameUpd sm nl1, ?_⟩
        · rw [List.length_map, List.length_map, List.length_append, sizeLine_eq]
          show _ + 2 ≤ _
          omega
        · rw [upd_same, iVs_app, take_flat hr', List.append_assoc]
    rintro σ H5 ⟨o3, o4, rfl, s5, hl5⟩
    rw [List.length_map, e5.length, List.take_length] at hl5
    have lR := flat_small (f := robB) (l := pl.robots) (b := 2) fun x hx => Nat.le_refl _
    generalize hBB : LA ++ (pl.robots.map robB).flatten = LB at *
    have lB : LB.length ≤ 140 := by
      rw [← hBB, List.length_append]
      omega
    -- floor
    have hru := rules_few wf2 so
    have hru : pl.rules.length ≤ 24 := by have : rs.length ≤ 24 := hru; omega
    refine ⟨_, rfl, .inl ⟨rfl, _, SqL.of hl5⟩, _, rfl, a, _, dx, _, _, rfl, s5 _ _ e0, cl, nat _ (by simp), lpl_floor, fa, _, rfl, .inl (SqT.of (s5 _ _ e3)), ?_⟩
    refine ⟨_, rfl, a, _, dx, _, _, rfl, s5 _ _ e0, cl, nat _ (by simp), lpl_rules, rd, kvs, rfl, s5 _ _ e6, ?_⟩
    have hF : (pl.floor.map (fun n : Nat => V.int n)) ++ [V.int ((kvs.length : Nat) : Int)] = iVs (pl.floor ++ [pl.rules.length]) := by
      rw [← e7.length]
      simp
    show _ ∧ _
    rw [hF]
    refine ⟨by rw [List.length_map, List.length_append, List.length_singleton, sizeLine_eq]; omega, fun p np => ?_⟩
    have s6 := sameUpd (o := .lst (iVs (pl.floor ++ [pl.rules.length]))) (Same.refl H5) np
    have hp6 := @upd_same H5 p (.lst (iVs (pl.floor ++ [pl.rules.length])))
    replace hl5 := s6 _ _ hl5
    replace s5 := s5.trans s6
    generalize upd H5 p (.lst (iVs (pl.floor ++ [pl.rules.length]))) = H6 at *
    refine ⟨l, p, _, _, rfl, rfl, hl5, hp6, by rw [List.length_map, List.length_map, List.length_append, List.length_singleton, sizeLine_eq]; omega, ?_⟩
    rw [iVs_app]
    have s7 := sameUpd (o := .lst (iVs (LB ++ (pl.floor ++ [pl.rules.length])))) s5 nl1
    have hl7 := @upd_same H6 l (.lst (iVs (LB ++ (pl.floor ++ [pl.rules.length]))))
    generalize upd H6 l (.lst (iVs (LB ++ (pl.floor ++ [pl.rules.length])))) = H7 at *
    generalize hCC : LB ++ (pl.floor ++ [pl.rules.length]) = LC at *
    have lC : LC.length ≤ 160 := by
      rw [← hCC, List.length_append, List.length_append, List.length_singleton]
      omega
    -- rules
    refine ⟨_, rfl, a, _, dx, _, _, rfl, s7 _ _ e0, cl, nat _ (by simp), lpl_rules, rd, kvs, pl.rules.map (·.1), rfl, Rd.of (s7 _ _ e6), rules_keys e7, fun ys bs q hperm hso hpair nq => ?_⟩
    obtain rfl := perm_sorted (hperm.trans (hper.map (·.1)).symm) hso so.le
    have s8 := sameUpd (o := .lst (bs.map V.ref)) (Same.refl H7) nq
    have hq8 := @upd_same H7 q (.lst (bs.map V.ref))
    have hql : q ≠ l := fun z => by rw [z, hl7] at nq; cases nq
    replace hl7 := s8 _ _ hl7
    replace s7 := s7.trans s8
    have hpair : Paired (PairAt (upd H7 q (.lst (bs.map V.ref)))) bs (rs.map (·.1)) := Paired.mapP hpair fun _ _ q => s8 _ _ q
    generalize upd H7 q (.lst (bs.map V.ref)) = H8 at *
    refine ⟨q, rfl, ⟨_, SqL.of hq8⟩, ?_⟩
    refine for_list (K := K) (a := q) (xs := bs.map V.ref) (fun i σ H9 => ∃ o5 o6 o7 o8 o9 : Option V, σ = [some (sV text), some (.ref a), some (.ref l), o3, o4, o5, o6, o7, o8, o9] ∧ Same (cutH H8 [l]) H9 ∧
      H9 l = some (.lst (iVs (LC ++ ((rs.take i).map ruleB).flatten)))) ⟨none, none, none, none, none, rfl, cutH_same, by rw [List.take_zero, List.map_nil, List.flatten_nil, List.append_nil]; exact hl7⟩
      (fun i σ H9 _ ⟨_, _, _, _, _, _, sm, _⟩ => SqL.of (sm _ _ (by rw [cutH_out (by simpa using hql)]; exact hq8))) ?_ ?_
    · rintro i x σ H9 hx ⟨o5, o6, o7, o8, o9, rfl, sm, hl9⟩
      have up : ∀ b o, b ≠ l → H8 b = some o → H9 b = some o := fun b o hb e => sm _ _ (by rw [cutH_out (by simpa using hb)]; exact e)
      rw [List.getElem?_map] at hx
      cases hbi : bs[i]? with
      | none => rw [hbi] at hx; cases hx
      | some bi =>
        rw [hbi] at hx
        cases hx
        obtain ⟨ky, hky, hpr⟩ := pairedL hpair hbi
        rw [List.getElem?_map] at hky
        cases hri : rs[i]? with
        | none => rw [hri] at hky; cases hky
        | some kv =>
          rw [hri] at hky
          cases hky
          have hmem := List.mem_of_getElem? hri
          have hmem2 := hper.mem_iff.mp hmem
          have rk := wf.ru kv hmem2
          have hir : i < rs.length := (List.getElem?_eq_some_iff.mp hri).1
          have nel : ∀ {b : Addr} {o : HO}, H1 b = some o → b ≠ l := fun e z => by rw [z, nl1] at e; cases e
          have bil : bi ≠ l := fun z => by
            have q : H8 bi = _ := hpr
            rw [z, hl7] at q
            cases q
          refine ⟨bi, _, rfl, SqT.of (up _ _ bil hpr), rfl, _, _, rfl, _, _, rfl, rfl, ?_⟩
          refine ⟨_, rfl, a, _, dx, _, _, rfl, up _ _ (nel e0) (s7 _ _ e0), cl, nat _ (by simp), lpl_rules, _, rfl, _, rfl, (by show 2 ≤ sizeLine; decide), fun t nt => ?_⟩
          have s10 := sameUpd (o := .tup [.int kv.1.1, .int kv.1.2]) (Same.refl H9) nt
          have ht := @upd_same H9 t (.tup [.int kv.1.1, .int kv.1.2])
          have sm6 := sm.trans s10
          replace hl9 := s10 _ _ hl9
          replace up : ∀ b o, b ≠ l → H8 b = some o → (upd H9 t (.tup [.int kv.1.1, .int kv.1.2])) b = some o := fun b o hb e => s10 _ _ (up b o hb e)
          generalize upd H9 t (.tup [.int kv.1.1, .int kv.1.2]) = H10 at *
          have e7' : Paired (RuleAt H10) pl.rules kvs := Paired.mapP e7 fun _ _ q => q.mono fun b xs z => up _ _ (nel z) (s7 _ _ z)
          obtain ⟨tv, hv1, hv2⟩ := (rules_get (k := kv.1) e7').2 kv.2 (getA_mem wf.rn hmem2)
          refine ⟨rd, .ref tv, rfl, by rw [← hv1]; exact DGet.t (k := keyT kv.1) (up _ _ (nel e6) (s7 _ _ e6)) ht, ?_⟩
          refine ⟨tv, _, rfl, SqT.of hv2, rfl, _, _, rfl, _, _, rfl, _, _, rfl, rfl, ?_⟩
          obtain ⟨mv1, mv2⟩ := move_at rk.mv
          have hmt : SqT K H10 (He.ga K "MOVES") ((moves.map sx).map V.str) := by
            rw [List.map_map]
            exact T.f.lo.p.moves H10
          refine ⟨_, rfl, .inl ⟨rfl, _, SqL.of hl9⟩, _, rfl, _, rfl, _, rfl, .inr (.inl ⟨rfl, T.mvN⟩), _, rfl, He.ga K "MOVES", moves.map sx, _, moveI kv.2.move, rfl, rfl, hmt, mv1, mv2, _, rfl, (by show 5 ≤ sizeLine; decide), fun p np => ?_⟩
          have eR : [V.int (kv.1.1 : Nat), V.int (kv.1.2 : Nat), V.int (kv.2.left : Nat), V.int (moveI kv.2.move : Nat), V.int (kv.2.later : Nat)] = iVs (ruleB kv) := rfl
          rw [eR]
          have s11 := sameUpd (o := .lst (iVs (ruleB kv))) (Same.refl H10) np
          have hp11 := @upd_same H10 p (.lst (iVs (ruleB kv)))
          replace hl9 := s11 _ _ hl9
          replace sm6 := sm6.trans s11
          generalize upd H10 p (.lst (iVs (ruleB kv))) = H11 at *
          have hfs := flat_small (f := ruleB) (l := rs.take i) (b := 5) fun x hx => Nat.le_refl _
          rw [List.length_take] at hfs
          refine ⟨l, p, _, _, rfl, rfl, hl9, hp11, ?_, _, _, _, _, _, rfl, cutS sm6 (by simp), ?_⟩
          · rw [List.length_map, List.length_map, List.length_append, sizeLine_eq]
            show _ + 5 ≤ _
            omega
          · rw [upd_same, iVs_app, take_flat hri, List.append_assoc]
    rintro σ H9 ⟨o5, o6, o7, o8, o9, rfl, sm, hl9⟩
    have hbl : bs.length = rs.length := by rw [hpair.length, List.length_map]
    rw [List.length_map, hbl, List.take_length] at hl9
    have eB : LC ++ (rs.map ruleB).flatten = bodyB { pl with rules := rs } := by
      rw [← hCC, ← hBB, ← hAA, ← hrl]
      rfl
    have lD := flat_small (f := ruleB) (l := rs) (b := 5) fun x hx => Nat.le_refl _
    have lbody : (bodyB { pl with rules := rs }).length ≤ 300 := by
      rw [← eB, List.length_append]
      omega
    rw [eB] at hl9
    refine ⟨_, rfl, l, _, rfl, .inr (SqL.of hl9), _, rfl, l, (bodyB { pl with rules := rs }).map (fun n : Nat => (n : Int)), rfl, SqL.of (by rw [← iVs_int]; exact hl9), ?_⟩
    rw [isum]
    refine ⟨_, _, rfl, rfl, (show (0 : Int) < 256 by decide), ?_⟩
    have eM : ((((bodyB { pl with rules := rs }).sum : Nat) : Int) % 256) = (((bodyB { pl with rules := rs }).sum % 256 : Nat) : Int) := by omega
    have eC : iVs (bodyB { pl with rules := rs }) ++ [V.int ((((bodyB { pl with rules := rs }).sum : Nat) : Int) % 256)] = iVs (codeB { pl with rules := rs }) := by
      rw [eM]
      unfold codeB
      rw [← iVs_app]
      rfl
    show _ ∧ _
    rw [eC]
    refine ⟨?_, fun z nz => ?_⟩
    · unfold codeB
      rw [List.length_map, List.length_append, List.length_singleton, sizeLine_eq]
      omega
    have nz8 : (cutH H8 [l]) z = none := sm.free nz
    have nzl : z ≠ l := fun q => by rw [q, hl9] at nz; cases nz
    have nz8' : H8 z = none := by rw [cutH_out (by simpa using nzl)] at nz8; exact nz8
    refine k z _ (s1.free (s7.free nz8')) ?_ upd_same
    refine sameUpd (fun b o e => sm _ _ ?_) (s1.free (s7.free nz8'))
    rw [cutH_out]
    · exact s7 _ _ (s1 _ _ e)
    · intro q
      rw [List.mem_singleton.mp q, nl0] at e
      cases e
end
end Sw

end

section
set_option maxRecDepth 100000
set_option maxHeartbeats 4000000
/-! format_plan -/
namespace Sw
open PySem PySem.Spec PyProof.Rows L2 SwA
structure FpT (K : PySem.W.Frag) (mg : Str → Option Value) : Prop where
  f : FmtT K mg
  fp : DeT K mg "format_plan" s_format_plan
section
variable {P : Program} {w : World} {K : PySem.W.Frag} {mg : Str → Option Value} {base : Heap}
def spFp : Sp := fun vs H Q _ => ∃ (text : Cs) (pl : Plan) (rs : List ((Nat × Nat) × Rule)), vs = [sV text] ∧ Reads text pl ∧ WfP pl ∧ rs.Perm pl.rules ∧ SortedR rs ∧ ∀ H' : Hp, Same H H' → Q (sV (textOf { pl with rules := rs })) H'
theorem sc_fp : FnScope ["plan"] ["plan"] (defScope s_format_plan) := ⟨rfl, rfl, rfl, by decide +kernel, rfl, by decide +kernel, by decide +kernel⟩
theorem ok_fp (T : FpT K mg) : FnE P w K mg base CX0 9 ("format_plan", none) ["plan"] spFp := by
  obtain ⟨fd, F⟩ := T.fp.d
  obtain ⟨fdL, GL, bL, kL⟩ := ok_read (P := P) (w := w) (base := base) T.f.lo
  obtain ⟨fdF, GF, bF, kF⟩ := ok_fmt (P := P) (w := w) (base := base) T.f
  refine ⟨fd, F.ok sc_fp (fun vs H Q E h => ?_) (fun cdv A outer s H vs Q E hr h => ?_), F.bindsN fun _ _ _ _ _ _ us hl => match us, hl with | [_], _ => rfl, F.kp⟩
  · obtain ⟨t, pl, rs, rfl, _⟩ := h
    rfl
  · obtain ⟨t, pl, rs, rfl, hR, wf, hp, so, k⟩ := h
    have hr1 : Room 1 _ := hr.mono (by decide)
    have hr8 : Room 8 _ := hr.mono (by decide)
    refine ⟨_, (pss_one (ps_ret (pe_call GF hr1 rfl T.f.fmt.g kF bF .nil pass0 (pa_cons (pe_call GL hr8 rfl T.f.lo.g_load kL bL .nil pass0 (pa_cons (pv 0) pa_nil)) pa_nil)))), ?_⟩
    refine ⟨_, rfl, t, pl, rfl, hR, fun a H1 na s1 hP => ?_⟩
    exact ⟨a, _, rs, rfl, hP, wf, hp, so, fun H2 s2 => k H2 (s1.trans s2)⟩
end
end Sw

end

section
set_option maxRecDepth 100000
set_option maxHeartbeats 4000000
/-! signs_of -/
namespace Sw
open PySem PySem.Spec PyProof.Rows L2 SwA
structure SofT (K : PySem.W.Frag) (mg : Str → Option Value) : Prop where
  lo : LoadT K mg
  list : mg "list" = none
  so : DeT K mg "signs_of" s_signs_of
section
variable {P : Program} {w : World} {K : PySem.W.Frag} {mg : Str → Option Value} {base : Heap}
def spSof : Sp := fun vs H Q _ => ∃ (text : Cs) (pl : Plan), vs = [sV text] ∧ Reads text pl ∧ pl.signs.length ≤ 1000 ∧ ∀ (l : Addr) (H' : Hp), H l = none → Same H H' → H' l = some (.lst (pl.signs.map sV)) → Q (.ref l) H'
theorem sc_sof : FnScope ["plan"] ["plan"] (defScope s_signs_of) := ⟨rfl, rfl, rfl, by decide +kernel, rfl, by decide +kernel, by decide +kernel⟩
theorem ok_sof (T : SofT K mg) : FnE P w K mg base CX0 9 ("signs_of", none) ["plan"] spSof := by
  obtain ⟨fd, F⟩ := T.so.d
  obtain ⟨fdL, GL, bL, kL⟩ := ok_read (P := P) (w := w) (base := base) T.lo
  refine ⟨fd, F.ok sc_sof (fun vs H Q E h => ?_) (fun cdv A outer s H vs Q E hr h => ?_), F.bindsN fun _ _ _ _ _ _ us hl => match us, hl with | [_], _ => rfl, F.kp⟩
  · obtain ⟨t, pl, rfl, _⟩ := h
    rfl
  · obtain ⟨t, pl, rfl, hR, hl, k⟩ := h
    have hr8 : Room 8 _ := hr.mono (by decide)
    refine ⟨_, (pss_one (ps_ret (pe_callTy call_list_of (by rfl) T.list (by decide +kernel) (pa_cons (pe_fld (pe_call GL hr8 rfl T.lo.g_load kL bL .nil pass0 (pa_cons (pv 0) pa_nil)) rfl) pa_nil)))), ?_⟩
    refine ⟨_, rfl, t, pl, rfl, hR, fun a H1 na s1 hP => ?_⟩
    obtain ⟨dx, sa, ma, fa, ra, rd, ras, e0, e1, _⟩ := id hP
    refine ⟨a, _, dx, _, _, rfl, e0, T.lo.plan.c, T.lo.plan.n _ (by simp), lpl_signs, sa, _, rfl, .inr e1.sq, fun l nl => ?_⟩
    exact k l _ (s1.free nl) (s1.trans (sameUpd (Same.refl _) nl)) upd_same
end
end Sw

end

section
set_option maxRecDepth 100000
set_option maxHeartbeats 4000000
/-! is_int_in -/
namespace Sw
open PySem PySem.Spec PyProof.Rows L2 SwA
structure IntT (K : PySem.W.Frag) (mg : Str → Option Value) : Prop where
  isinstance : mg "isinstance" = none
  bool : mg "bool" = none
  int : mg "int" = none
  is_int_in : DeT K mg "is_int_in" s_is_int_in
section
variable {P : Program} {w : World} {K : PySem.W.Frag} {mg : Str → Option Value} {base : Heap}
def spIsIntIn (K : PySem.W.Frag) : Sp := fun vs H Q _ => ∃ (v : V) (n : String) (lo hi : Int), vs = [v, .int lo, .int hi] ∧ ArN K H v n ∧ Q (.bl (isIntIn v lo hi)) H
theorem sc_is_int_in : FnScope ["value", "low", "high"] ["value", "low", "high"] (defScope s_is_int_in) := ⟨rfl, rfl, rfl, by decide +kernel, rfl, by decide +kernel, by decide +kernel⟩
theorem ok_int_in (T : IntT K mg) : FnE P w K mg base CX0 1 ("is_int_in", none) ["value", "low", "high"] (spIsIntIn K) := by
  obtain ⟨fd, F⟩ := T.is_int_in.d
  refine ⟨fd, F.ok sc_is_int_in (fun vs H Q E h => ?_) (fun cdv A outer s H vs Q E hr h => ?_), F.bindsN fun _ _ _ _ _ _ us hl => match us, hl with | [_, _, _], _ => rfl, F.kp⟩
  · obtain ⟨v, n, lo, hi, rfl, _⟩ := h
    rfl
  · obtain ⟨v, n, lo, hi, rfl, hv, k⟩ := h
    refine ⟨_, PSs.nox (pss_one (ps_ret (pe_and (pe_callB call_isi (by rfl) T.isinstance (by decide +kernel) (pa_cons (pv 0) (pa_cons (pe_bltn (v := .ty "int") (by rfl) T.int (by decide +kernel) rfl) pa_nil)))
      (pe_and (pe_not (pe_callB call_isi (by rfl) T.isinstance (by decide +kernel) (pa_cons (pv 0) (pa_cons (pe_bltn (v := .ty "bool") (by rfl) T.bool (by decide +kernel) rfl) pa_nil))))
      (pe_one (pe_chain op_le op_le (pv 1) (pv 0) (pv 2))))))), ?_⟩
    have no : ∀ (x : V), kitB n "int" = some false → isIntIn v lo hi = false → _ := fun x h1 h2 => True.intro
    cases hv with
    | int i =>
      refine ⟨_, rfl, _, _, _, _, true, rfl, .ty "int", (ArN.int (K := K) (H := H) i).ty, kit_ty (by decide +kernel), _, rfl, ?_⟩
      refine ⟨_, rfl, _, _, _, _, false, rfl, .ty "bool", (ArN.int (K := K) (H := H) i).ty, kit_ty (by decide +kernel), _, rfl, _, rfl, ?_⟩
      refine ⟨_, rfl, _, rfl, _, _, rfl, rfl, _, rfl, ?_⟩
      refine ite2 (fun h => ?_) (fun h => ?_)
      · refine ⟨_, rfl, _, _, rfl, rfl, ?_⟩
        have e : isIntIn (.int i) lo hi = decide (i ≤ hi) := by simp only [isIntIn]; rw [h]; rfl
        rw [e] at k
        exact k
      · have e : isIntIn (.int i) lo hi = false := by
          simp only [isIntIn]
          have : decide (lo ≤ i) = false := by simpa using h
          rw [this]
          rfl
        rw [e] at k
        exact k
    | bl b =>
      refine ⟨_, rfl, _, _, _, _, true, rfl, .ty "int", (ArN.bl (K := K) (H := H) b).ty, kit_ty (by decide +kernel), _, rfl, ?_⟩
      refine ⟨_, rfl, _, _, _, _, true, rfl, .ty "bool", (ArN.bl (K := K) (H := H) b).ty, kit_ty (by decide +kernel), _, rfl, _, rfl, ?_⟩
      exact k
    | non => exact ⟨_, rfl, _, _, _, _, false, rfl, .ty "int", (ArN.non (K := K) (H := H)).ty, kit_ty (by decide +kernel), _, rfl, k⟩
    | str z => exact ⟨_, rfl, _, _, _, _, false, rfl, .ty "int", (ArN.str (K := K) (H := H) z).ty, kit_ty (by decide +kernel), _, rfl, k⟩
    | tup e => exact ⟨_, rfl, _, _, _, _, false, rfl, .ty "int", (ArN.tup (K := K) (H := H) e).ty, kit_ty (by decide +kernel), _, rfl, k⟩
    | lst e => exact ⟨_, rfl, _, _, _, _, false, rfl, .ty "int", (ArN.lst (K := K) (H := H) e).ty, kit_ty (by decide +kernel), _, rfl, k⟩
end
end Sw

end

section
set_option maxRecDepth 100000
set_option maxHeartbeats 4000000
/-! Reader, decode: where nothing is raised -/
namespace Sw
open PySem PySem.Spec PyProof.Rows L2 SwA
theorem ps_noO {X : Cx} {st : Stmt} : PS X st (fun _ _ _ => False) := ⟨fun pins s σ H D I h => h.elim⟩
structure RdT (K : PySem.W.Frag) (mg : Str → Option Value) : Prop where
  e : EncT K mg
  i : IntT K mg
  list : mg "list" = none
  rd : MkC K mg "Reader" ["code", "place"]
  init : FD K ("Reader", some "__init__") "__init__" "Reader.__init__" s_Reader_init
  read_byte : MeT K "Reader" "read_byte" "Reader.read_byte" s_Reader_read_byte
  read_names : MeT K "Reader" "read_names" "Reader.read_names" s_Reader_read_names
  read_rules : MeT K "Reader" "read_rules" "Reader.read_rules" s_Reader_read_rules
  decode : DeT K mg "decode" s_decode
abbrev rdFs (c : Addr) (p : Nat) : List (Str × V) := [("code", .ref c), ("place", .int p)]
def RdAt (K : PySem.W.Frag) (H : Hp) (r c : Addr) (bs : List Nat) (p : Nat) : Prop := (∃ dx, H r = some (.ins (He.ga K "Reader") dx (rdFs c p))) ∧ H c = some (.lst (iVs bs))
/-- all but r stands -/
def But (r : Addr) (H H' : Hp) : Prop := ∀ b o, b ≠ r → H b = some o → H' b = some o
theorem But.refl {r : Addr} {H : Hp} : But r H H := fun _ _ _ e => e
theorem But.trans {r : Addr} {H H1 H2 : Hp} (a : But r H H1) (b : But r H1 H2) : But r H H2 := fun x o n e => b x o n (a x o n e)
theorem But.of {r : Addr} {H H' : Hp} (s : Same H H') : But r H H' := fun x o _ e => s x o e
theorem But.upd {r : Addr} {H : Hp} {o : HO} : But r H (upd H r o) := fun x u n e => (upd_ne n).trans e
theorem But.new {r x : Addr} {H : Hp} {o : HO} (h : H x = none) : But r H (L2.upd H x o) := .of (sameUpd (Same.refl H) h)
theorem But.put {r x : Addr} {H0 H : Hp} {o : HO} (h : But r H0 H) (n : H0 x = none) : But r H0 (L2.upd H x o) := fun b u nb e => by
  rw [upd_ne (ne_of_none e n)]
  exact h b u nb e
theorem But.free {r : Addr} {H H' : Hp} {a : Addr} (h : But r H H') (ne : a ≠ r) (n : H' a = none) : H a = none := by
  cases e : H a with
  | none => rfl
  | some o => rw [h a o ne e] at n; cases n
theorem RdAt.keep {K : PySem.W.Frag} {H H' : Hp} {r c : Addr} {bs : List Nat} {p : Nat} (h : RdAt K H r c bs p) (s : Same H H') : RdAt K H' r c bs p := let ⟨⟨dx, a⟩, b⟩ := h; ⟨⟨dx, s _ _ a⟩, s _ _ b⟩
theorem RdAt.put {K : PySem.W.Frag} {H : Hp} {r c : Addr} {bs : List Nat} {p : Nat} {x : Addr} {o : HO} (h : RdAt K H r c bs p) (xr : x ≠ r) (xc : x ≠ c) : RdAt K (upd H x o) r c bs p := let ⟨⟨dx, a⟩, b⟩ := h; ⟨⟨dx, (upd_ne (Ne.symm xr)).trans a⟩, (upd_ne (Ne.symm xc)).trans b⟩
theorem RdAt.ner {K : PySem.W.Frag} {H : Hp} {r c : Addr} {bs : List Nat} {p : Nat} {x : Addr} (h : RdAt K H r c bs p) (n : H x = none) : x ≠ r ∧ x ≠ c := let ⟨⟨_, a⟩, b⟩ := h; ⟨(fun z => by rw [z, a] at n; cases n), (fun z => by rw [z, b] at n; cases n)⟩
theorem lrd_code {a b : V} : List.lookup ("code" : Str) [("code", a), ("place", b)] = some a := by kernel_rfl
theorem lrd_place {a b : V} : List.lookup ("place" : Str) [("code", a), ("place", b)] = some b := by kernel_rfl
theorem lrd_byte {a b : V} : List.lookup ("read_byte" : Str) [("code", a), ("place", b)] = none := by kernel_rfl
theorem lrd_names {a b : V} : List.lookup ("read_names" : Str) [("code", a), ("place", b)] = none := by kernel_rfl
theorem lrd_rules {a b : V} : List.lookup ("read_rules" : Str) [("code", a), ("place", b)] = none := by kernel_rfl
theorem put_place (a b c : V) : putF "place" c ([("code", a), ("place", b)] : List (Str × V)) = ([("code", a), ("place", c)] : List (Str × V)) := by kernel_rfl
section
variable {P : Program} {w : World} {K : PySem.W.Frag} {mg : Str → Option Value} {base : Heap}
theorem sc_rdi : FnScope ["self", "code"] ["self", "code"] (defScope s_Reader_init) := ⟨rfl, rfl, rfl, by decide +kernel, rfl, by decide +kernel, by decide +kernel⟩
def spRdInit (K : PySem.W.Frag) : Sp := fun vs H Q _ => ∃ (p dx c : Addr), vs = [.ref p, .ref c] ∧ H p = some (.ins (He.ga K "Reader") dx []) ∧ Q .non (upd H p (.ins (He.ga K "Reader") dx (rdFs c 0)))
theorem put_rd (a b : V) : putF "place" b (putF "code" a []) = ([("code", a), ("place", b)] : List (Str × V)) := by kernel_rfl
theorem ok_rdi (T : RdT K mg) : FnE P w K mg base CX0 1 ("Reader", some "__init__") ["self", "code"] (spRdInit K) := by
  obtain ⟨fd, F⟩ := T.init
  refine ⟨fd, F.ok sc_rdi (fun vs H Q E h => ?_) (fun cdv A outer s H vs Q E hr h => ?_), F.bindsN fun _ _ _ _ _ _ us hl => match us, hl with | [_, _], _ => rfl, F.kp⟩
  · obtain ⟨p, dx, c, rfl, _⟩ := h
    rfl
  · obtain ⟨p, dx, c, rfl, hp, k⟩ := h
    refine ⟨_, PSs.nox (pss_cons (ps_fld (pv 0) (pv 1) rfl)
      (pss_one (ps_fld (pv 0) pe_int rfl))), ?_⟩
    refine ⟨_, rfl, _, rfl, p, _, dx, _, rfl, hp, T.rd.c, T.rd.n _ (by simp), lnZ ln0, ?_⟩
    refine ⟨_, rfl, p, _, dx, _, rfl, upd_same, T.rd.c, T.rd.n _ (by simp), lnZ (lnS ln0), ?_⟩
    rw [upd_upd, put_rd]
    exact k
/-! ### read_byte -/
def spByte (K : PySem.W.Frag) : Sp := fun vs H Q _ => ∃ (r c : Addr) (bs : List Nat) (p b : Nat) (lo hi : Int), vs = [.ref r, .int lo, .int hi] ∧ RdAt K H r c bs p ∧ bs[p]? = some b ∧ lo ≤ b ∧ (b : Int) ≤ hi ∧ bs.length ≤ 10000 ∧
  ∀ H' : Hp, But r H H' → RdAt K H' r c bs (p + 1) → Q (.int b) H'
theorem sc_byte : FnScope ["self", "low", "high"] ["self", "low", "high"] (defScope s_Reader_read_byte) := ⟨rfl, rfl, rfl, by decide +kernel, rfl, by decide +kernel, by decide +kernel⟩
theorem ok_byte (T : RdT K mg) : FnE P w K mg base CX0 2 ("Reader", some "read_byte") ["self", "low", "high"] (spByte K) := by
  obtain ⟨fd, F⟩ := T.read_byte.d
  obtain ⟨fdI, GI, bI, kI⟩ := ok_int_in (P := P) (w := w) (base := base) T.i
  refine ⟨fd, F.ok sc_byte (fun vs H Q E h => ?_) (fun cdv A outer s H vs Q E hr h => ?_), F.bindsN fun _ _ _ _ _ _ us hl => match us, hl with | [_, _, _], _ => rfl, F.kp⟩
  · obtain ⟨r, c, bs, p, b, lo, hi, rfl, _⟩ := h
    rfl
  · obtain ⟨r, c, bs, p, b, lo, hi, rfl, ⟨⟨dx, hr0⟩, hc⟩, hb, h1, h2, hlen, k⟩ := h
    have cl := T.rd.c
    have nat : ∀ f ∈ (["code", "place"] : List Str), NoAttr K (He.ga K "Reader") f := T.rd.n
    have hp : p < bs.length := (List.getElem?_eq_some_iff.mp hb).1
    have rc : c ≠ r := fun z => by rw [z, hr0] at hc; cases hc
    refine ⟨_, PSs.nox (pss_cons (ps_if (PW.pt (pw_or (pt_cmpR op_eq (pe_fld (pv 0) rfl) (pe_callB call_len_seq (by rfl) T.e.f.lo.p.l.len boot_len (pa_cons (pe_fld (pv 0) rfl) pa_nil)) (nomark _)) (pw_or1 (pt_not (pt_val (pe_call GI hr rfl T.i.is_int_in.g kI bI .nil pass0 (pa_cons (pe_ix ix_list (pe_fld (pv 0) rfl) (pe_fld (pv 0) rfl) (fun _ _ => rfl)) (pa_cons (pv 1) (pa_cons (pv 2) pa_nil)))))))))
        (pss_one ps_noO) pss_nil)
      (pss_cons (ps_fldaug (pv 0) pe_int in_add)
      (pss_one (ps_ret (pe_ix ix_list (pe_fld (pv 0) rfl) (pe_op op_sub (pe_fld (pv 0) rfl) pe_int) (fun _ _ => rfl)))))), ?_⟩
    have hbv : (iVs bs)[p]? = some (.int (b : Nat)) := by rw [List.getElem?_map, hb]; rfl
    refine ⟨_, rfl, r, _, dx, _, _, rfl, hr0, cl, nat _ (by simp), lrd_place, _, rfl, r, _, dx, _, _, rfl, hr0, cl, nat _ (by simp), lrd_code, c, _, rfl, .inl (SqL.of hc), rfl, _, rfl, ?_⟩
    have d1 : decide (V.int (p : Nat) = V.int ((iVs bs).length : Nat)) = false := decide_eq_false fun z => by
      rw [List.length_map] at z
      injection z with z
      omega
    rw [d1]
    refine ⟨_, rfl, r, _, dx, _, _, rfl, hr0, cl, nat _ (by simp), lrd_code, _, rfl, r, _, dx, _, _, rfl, hr0, cl, nat _ (by simp), lrd_place, c, _, _, _, rfl, rfl, SqL.of hc, atI_nat hbv, _, rfl, _, rfl, _, _, _, _, rfl, ArN.int _, _, rfl, ?_⟩
    have d2 : isIntIn (.int (b : Nat)) lo hi = true := by
      simp only [isIntIn]
      rw [decide_eq_true h1, decide_eq_true h2]
      rfl
    rw [d2]
    refine ⟨_, rfl, r, _, dx, _, _, rfl, hr0, cl, nat _ (by simp), lrd_place, _, _, rfl, rfl, dx, _, hr0, (by show 2 < 1000; decide), ?_⟩
    rw [put_place]
    have ep : (((p : Nat) : Int) + 1) = ((p + 1 : Nat) : Int) := by omega
    rw [ep]
    have bu := @But.upd r H (.ins (He.ga K "Reader") dx (rdFs c (p + 1)))
    have hr1 := @upd_same H r (.ins (He.ga K "Reader") dx (rdFs c (p + 1)))
    have hc1 : (upd H r (.ins (He.ga K "Reader") dx (rdFs c (p + 1)))) c = some (.lst (iVs bs)) := bu _ _ rc hc
    generalize upd H r (.ins (He.ga K "Reader") dx (rdFs c (p + 1))) = H1 at *
    refine ⟨_, rfl, r, _, dx, _, _, rfl, hr1, cl, nat _ (by simp), lrd_code, _, rfl, r, _, dx, _, _, rfl, hr1, cl, nat _ (by simp), lrd_place, _, _, rfl, rfl, ?_⟩
    have eq : (((p + 1 : Nat) : Int) - 1) = ((p : Nat) : Int) := by omega
    show rIxL K (.ref c) (.int (((p + 1 : Nat) : Int) - 1)) H1 _
    rw [eq]
    exact ⟨c, _, _, _, rfl, rfl, SqL.of hc1, atI_nat hbv, k H1 bu ⟨⟨dx, hr1⟩, hc1⟩⟩
/-! ### read_names -/
theorem drop_at {bs l : List Nat} {p b : Nat} {rest : List Nat} (h : bs.drop p = b :: rest) : bs[p]? = some b ∧ bs.drop (p + 1) = rest := by
  constructor
  · have := List.getElem?_drop (xs := bs) (i := p) (j := 0)
    rw [h] at this
    simpa using this.symm
  · rw [← List.drop_drop, h]
    rfl
theorem drop_app {bs a rest : List Nat} {p : Nat} (h : bs.drop p = a ++ rest) : bs.drop (p + a.length) = rest := by
  rw [← List.drop_drop, h, List.drop_append_of_le_length (Nat.le_refl _), List.drop_length]
  rfl
theorem drop_get {bs a rest : List Nat} {p j b : Nat} (h : bs.drop p = a ++ rest) (hj : a[j]? = some b) : bs[p + j]? = some b := by
  have h1 := List.getElem?_drop (xs := bs) (i := p) (j := j)
  rw [h, List.getElem?_append_left (List.getElem?_eq_some_iff.mp hj).1, hj] at h1
  exact h1.symm
theorem letter_of {c : Nat} (h : isL c = true) : atI ("abcdefghijklmnopqrstuvwxyz" : Str).cps.toList ((c - 97 : Nat) : Int) = some c ∧ c - 97 ≤ 25 := by
  have key : ∀ n < 26, ("abcdefghijklmnopqrstuvwxyz" : Str).cps.toList[n]? = some (n + 97) := by decide +kernel
  have h1 : 97 ≤ c ∧ c ≤ 122 := by
    unfold isL at h
    simp only [Bool.and_eq_true, Nat.ble_eq] at h
    exact h
  refine ⟨atI_nat ?_, by omega⟩
  rw [key _ (by omega)]
  congr 1
  omega
theorem sum_letters (w : Cs) : ((w.map fun x => sx [x]).map (·.length)).sum = w.length := by
  induction w with
  | nil => rfl
  | cons a r ih =>
    rw [List.map_cons, List.map_cons, List.sum_cons, ih, sx_len]
    simp
    omega
theorem join_letters (w : Cs) : Txt.join (sx []) ((w.map fun c => [c]).map sx) = sx w := by
  rw [join_sx]
  congr 1
  induction w with
  | nil => rfl
  | cons c r ih =>
    cases r with
    | nil => rfl
    | cons d q =>
      show [c] ++ ([] ++ TL.joinL [] (([d] :: q.map fun c => [c]))) = _
      rw [show TL.joinL [] ([d] :: q.map fun c => [c]) = d :: q from ih]
      rfl
/-- the names that stand in the bytes from p on -/
def spRNames (K : PySem.W.Frag) : Sp := fun vs H Q _ => ∃ (r c : Addr) (bs : List Nat) (p : Nat) (most : Nat) (ws : List Cs), vs = [.ref r, .int most] ∧ RdAt K H r c bs p ∧ bs.length ≤ 10000 ∧ (∃ rest, bs.drop p = namesB ws ++ rest) ∧ NamesOk ws ∧ ws ≠ [] ∧ ws.length ≤ most ∧ most ≤ 6 ∧
  ∀ (a : Addr) (H' : Hp), H a = none → But r H H' → RdAt K H' r c bs (p + (namesB ws).length) → TupN H' a (ws.map sV) → Q (.ref a) H'
abbrev rdnN : List Str := ["self", "most", "names", "number", "start", "length", "name", "letter"]
theorem sc_rnames : FnScope rdnN ["self", "most"] (defScope s_Reader_read_names) := ⟨rfl, rfl, rfl, by decide +kernel, rfl, by decide +kernel, by decide +kernel⟩
def teL (K : PySem.W.Frag) : TE := tOp rIxS (tC (.str "abcdefghijklmnopqrstuvwxyz")) (tMeth (He.ga K "Reader") "read_byte" (spByte K) [] E0 (tVar 0) (tCons (tC (.int 0)) (tCons (tOp (rI0 fun i j => .int (i - j)) (tCB (fun xs H Q => ∃ z, xs = [V.str z] ∧ z.length ≤ sizeLine ∧ Q (V.int z.length) H) (tCons (tC (.str "abcdefghijklmnopqrstuvwxyz")) tNil)) (tC (.int 1))) tNil)))
theorem ok_rnames (T : RdT K mg) : FnE P w K mg base CX0 3 ("Reader", some "read_names") ["self", "most"] (spRNames K) := by
  obtain ⟨fd, F⟩ := T.read_names.d
  obtain ⟨tL, mL⟩ := T.e.f.lo.p.l.LETTERS
  obtain ⟨tM, mM⟩ := T.e.f.lo.p.l.MAX_LETTERS
  obtain ⟨fdB, GB, bB, kB⟩ := ok_byte (P := P) (w := w) (base := base) T
  refine ⟨fd, F.ok sc_rnames (fun vs H Q E h => ?_) (fun cdv A outer s H vs Q E hr h => ?_), F.bindsN fun _ _ _ _ _ _ us hl => match us, hl with | [_, _], _ => rfl, F.kp⟩
  · obtain ⟨r, c, bs, p, most, ws, rfl, _⟩ := h
    rfl
  · obtain ⟨r, c, bs, p, most, ws, rfl, hR, hlen, hbs, hN, hne, hm, h6, k⟩ := h
    have hrB : Room 2 _ := hr
    refine ⟨_, PSs.nox (pss_cons (ps_set (i := 2) sc_rnames.nd rfl (.inl rfl) (pe_lst pa_nil))
      (pss_cons (ps_for PassesOwn.never rfl (pi_range1 (by rfl) T.e.f.lo.p.range (pa_cons (pe_meth (pv 0) T.rd.c T.read_byte.m GB hrB bB .nil pass0 (pa_cons pe_int (pa_cons (pv 1) pa_nil))) pa_nil)) (pg_name (i := 3) sc_rnames.nd rfl (.inl rfl))
        (pss_cons (ps_set (i := 4) sc_rnames.nd rfl (.inl rfl) (pe_fld (pv 0) rfl))
        (pss_cons (ps_set (i := 5) sc_rnames.nd rfl (.inl rfl) (pe_meth (pv 0) T.rd.c T.read_byte.m GB hrB bB .nil pass0 (pa_cons pe_int (pa_cons (pe_glob (v := .int 8) rfl mM ⟨_, rfl⟩) pa_nil))))
        (pss_cons (ps_set (i := 6) sc_rnames.nd rfl (.inl rfl) (pe_join pe_str (pe_lc (own := [("letter", 7)]) (g := (gName 7)) (tt := tYes) (te := teL K) rfl sc_rnames.nd (pi_range1 (by rfl) T.e.f.lo.p.range (pa_cons (pv 5) pa_nil)) (blkOk_by (own := [("letter", 7)]) (N := rdnN) (sc := defScope s_Reader_read_names) (by decide +kernel)) (fun _ _ _ _ _ => (pg_name (i := 7) sc_rnames.nd rfl (.inl rfl))) (fun _ _ _ _ _ => pts_nil) (fun _ _ _ _ _ => (pe_ix ix_str (pe_glob (v := .str "abcdefghijklmnopqrstuvwxyz") rfl mL ⟨_, rfl⟩) (pe_meth (pv 0) T.rd.c T.read_byte.m GB hrB bB .nil pass0 (pa_cons pe_int (pa_cons (pe_op op_sub (pe_callB call_len_str (by rfl) T.e.f.lo.p.l.len boot_len (pa_cons (pe_glob (v := .str "abcdefghijklmnopqrstuvwxyz") rfl mL ⟨_, rfl⟩) pa_nil)) pe_int) pa_nil))) (fun _ _ => rfl))))))
        (pss_cons (ps_if (PW.pt (pw_or (pt_cmpR op_in_seq (pv 6) (pe_glob (v := .ref (He.ga K "KEYWORDS")) rfl T.e.f.lo.p.l.KEYWORDS rfl) (by rfl)) (pw_or1 (pt_cmpR op_in_seq (pv 6) (pv 2) (by rfl)))))
          (pss_one ps_noO) pss_nil)
        (pss_one (ps_expr (pe_bm PySem.F.plainAttrs_list PySem.F.slot_list_append PySem.F.type_list_append mt_append (pv 2) (pa_cons (pv 6) pa_nil)))))))))
      (pss_one (ps_ret (pe_tupleOfN (by rfl) T.e.f.lo.p.tuple (pv 2)))))), ?_⟩
    refine ⟨(by show 0 ≤ sizeLine; decide), fun nl nnl => ?_⟩
    obtain ⟨nr, nc⟩ := hR.ner nnl
    have b1 := @But.new r nl H (.lst []) nnl
    have hR1 := hR.put (o := .lst []) nr nc
    have hl1 := @upd_same H nl (.lst [])
    generalize upd H nl (.lst []) = H1 at *
    obtain ⟨rest, hbs⟩ := hbs
    have hB : ∃ dx, H1 r = some (.ins (He.ga K "Reader") dx (rdFs c p)) := hR1.1
    obtain ⟨dx1, hr1⟩ := hB
    have hd0 : bs.drop p = ws.length :: ((ws.map wordB).flatten ++ rest) := hbs
    obtain ⟨g0, hd1⟩ := drop_at (l := []) hd0
    have hw1 : 1 ≤ ws.length := by cases ws with | nil => exact absurd rfl hne | cons _ _ => simp
    refine ⟨_, rfl, r, dx1, _, rfl, hr1, lrd_byte, _, rfl, r, c, bs, p, ws.length, _, _, rfl, hR1, g0, by omega, by omega, hlen, fun H2 b2 hR2 => ?_⟩
    have cl := T.rd.c
    have nat : ∀ f ∈ (["code", "place"] : List Str), NoAttr K (He.ga K "Reader") f := T.rd.n
    refine ⟨_, rfl, by omega, by omega, ?_⟩
    refine for_range (lo := 0) (n := ((ws.length : Nat) : Int).toNat) (fun i σ H3 => ∃ o3 o4 o5 o6 : Option V, σ = [some (.ref r), some (.int most), some (.ref nl), o3, o4, o5, o6, none] ∧ But r H H3 ∧
      RdAt K H3 r c bs (p + 1 + ((ws.take i).map wordB).flatten.length) ∧ H3 nl = some (.lst ((ws.take i).map sV))) ⟨none, none, none, none, rfl, b1.trans b2, hR2, b2 _ _ nr hl1⟩ ?_ ?_
    · rintro i σ H3 hi ⟨o3, o4, o5, o6, rfl, b3, hR3, hl3⟩
      rw [Int.toNat_natCast] at hi
      have hwi : ws[i]? = some ws[i] := List.getElem?_eq_getElem hi
      generalize hwd : ws[i] = wd at hwi
      have hmem : wd ∈ ws := List.mem_of_getElem? hwi
      have ok := hN.ok wd hmem
      have h8 : wd.length ≤ 8 := ok.1.2.2
      have h1 : 1 ≤ wd.length := ok.1.2.1
      -- the bytes from here
      have hsplit : (ws.map wordB).flatten = ((ws.take i).map wordB).flatten ++ (wordB wd ++ ((ws.drop (i + 1)).map wordB).flatten) := by
        have e1 := take_flat (f := wordB) hwi
        have e2 : ws = ws.take (i + 1) ++ ws.drop (i + 1) := (List.take_append_drop _ _).symm
        calc (ws.map wordB).flatten = ((ws.take (i + 1) ++ ws.drop (i + 1)).map wordB).flatten := by rw [← e2]
          _ = _ := by rw [List.map_append, List.flatten_append, e1, List.append_assoc]
      generalize hq : p + 1 + ((ws.take i).map wordB).flatten.length = q at hR3
      have hd2 : bs.drop q = wordB wd ++ (((ws.drop (i + 1)).map wordB).flatten ++ rest) := by
        rw [← hq]
        refine drop_app (a := ((ws.take i).map wordB).flatten) ?_
        rw [hd1, hsplit]
        simp only [List.append_assoc]
      have hq1 : p + 1 + ((ws.take (i + 1)).map wordB).flatten.length = q + (wordB wd).length := by
        rw [take_flat hwi, List.length_append]
        omega
      obtain ⟨⟨dx3, hr3⟩, hc3⟩ := hR3
      have hR3 : RdAt K H3 r c bs q := ⟨⟨dx3, hr3⟩, hc3⟩
      refine ⟨_, rfl, r, _, dx3, _, _, rfl, hr3, cl, nat _ (by simp), lrd_place, ?_⟩
      have gl : bs[q]? = some wd.length := drop_get (j := 0) hd2 rfl
      refine ⟨_, rfl, r, dx3, _, rfl, hr3, lrd_byte, r, c, bs, q, wd.length, _, _, rfl, hR3, gl, by omega, by omega, hlen, fun H4 b4 hR4 => ?_⟩
      refine ⟨⟨_, rfl⟩, _, rfl, _, rfl, by omega, by omega, fun D nD => ?_⟩
      have Dr := hR4.ner nD
      have hl4 := b4 _ _ nr hl3
      have Dl : D ≠ nl := fun z => by rw [z, hl4] at nD; cases nD
      refine lc_range (lo := 0) (n := ((wd.length : Nat) : Int).toNat) (vs := [7]) (fun j H5 => But r H4 H5 ∧ RdAt K H5 r c bs (q + 1 + j) ∧ H5 D = some (.lst (((wd.take j).map fun x => sx [x]).map V.str))) ⟨But.new nD, hR4.put Dr.1 Dr.2, upd_same⟩ ?_ ?_
      · rintro j H5 hj ⟨b5, hR5, hD5⟩
        rw [Int.toNat_natCast] at hj
        have hc : wd[j]? = some wd[j] := List.getElem?_eq_getElem hj
        generalize wd[j] = ch at hc
        have hcl : isL ch = true := ok.1.1 ch (List.mem_of_getElem? hc)
        obtain ⟨la, lb⟩ := letter_of hcl
        obtain ⟨⟨dx5, hr5⟩, hc5⟩ := hR5
        have hR5 : RdAt K H5 r c bs (q + 1 + j) := ⟨⟨dx5, hr5⟩, hc5⟩
        have gj : bs[q + 1 + j]? = some (ch - 97) := by
          have : (wordB wd)[1 + j]? = some (ch - 97) := by
            unfold wordB
            rw [Nat.add_comm, List.getElem?_cons_succ, List.getElem?_map, hc]
            rfl
          have := drop_get hd2 this
          rw [← Nat.add_assoc] at this
          exact this
        refine ⟨rfl, _, rfl, r, dx5, _, rfl, hr5, lrd_byte, _, rfl, (by rw [sizeLine_eq]; decide +kernel), _, _, rfl, rfl, r, c, bs, q + 1 + j, ch - 97, _, _, rfl, hR5, gj, by omega, ?_, hlen, fun H6 b6 hR6 => ?_⟩
        · show (((ch - 97 : Nat) : Int)) ≤ ((("abcdefghijklmnopqrstuvwxyz" : Str).length : Nat) : Int) - 1
          have : ("abcdefghijklmnopqrstuvwxyz" : Str).length = 26 := by decide +kernel
          rw [this]
          omega
        · refine ⟨_, _, ch, rfl, rfl, (by rw [sizeLine_eq]; decide +kernel), la, _, b6 _ _ Dr.1 hD5, ?_, (b5.trans b6).put nD, hR6.put Dr.1 Dr.2, ?_⟩
          · rw [List.length_map, List.length_map, List.length_take, sizeLine_eq]
            omega
          · rw [upd_same, List.take_succ, hc]
            simp [sx]
      · rintro H5 ⟨b5, hR5, hD5⟩
        rw [Int.toNat_natCast] at hR5 hD5
        rw [List.take_length] at hD5
        refine ⟨sx [], D, wd.map fun x => sx [x], (by kernel_rfl), rfl, .inl (SqL.of hD5), ?_, ?_⟩
        · rw [sum_letters, sx_len]
          simp
          omega
        have ej : Txt.join (sx []) (wd.map fun x => sx [x]) = sx wd := by
          rw [← join_letters wd, List.map_map]
          rfl
        rw [ej]
        have hl5 := b5 _ _ nr hl4
        refine ⟨_, rfl, _, _, rfl, .inr (T.e.f.lo.p.l.kws H5), rfl, flat_sx kws, _, rfl, ?_⟩
        have n1 : inV (sV wd) (kws.map fun w => V.str (sx w)) = false := by rw [inV_sx]; exact decide_eq_false ok.2
        show if inV (sV wd) (kws.map fun w => V.str (sx w)) = true then _ else _
        rw [n1]
        refine ⟨_, rfl, _, rfl, nl, _, rfl, .inl (SqL.of hl5), rfl, flat_sx _, _, rfl, ?_⟩
        have n2 : inV (sV wd) ((ws.take i).map fun w => V.str (sx w)) = false := by
          rw [inV_sx]
          refine decide_eq_false fun z => ?_
          obtain ⟨m, hm1, hm2⟩ := List.mem_iff_getElem.mp z
          rw [List.length_take] at hm1
          rw [List.getElem_take] at hm2
          have hmi : m < i := by omega
          have e3 : ws[m] = ws[i] := by rw [hm2, hwd]
          have e4 : ws.getD m [] = ws.getD i [] := by
            rw [List.getD_eq_getElem?_getD, List.getD_eq_getElem?_getD, List.getElem?_eq_getElem (by omega), List.getElem?_eq_getElem hi, e3]
          have := name_inj hN.nd (by omega) hi e4
          omega
        show if inV (sV wd) ((ws.take i).map fun w => V.str (sx w)) = true then _ else _
        rw [n2]
        refine ⟨_, rfl, .inl ⟨rfl, _, SqL.of hl5⟩, _, rfl, nl, _, _, rfl, rfl, hl5, ?_, _, _, _, _, rfl, (b3.trans (b4.trans b5)).put nnl, ?_, ?_⟩
        · rw [List.length_map, List.length_take, sizeLine_eq]
          omega
        · rw [hq1, wordB_len]
          have := hR5.put (o := .lst ((ws.take i).map sV ++ [sV wd])) nr nc
          rw [show q + (wd.length + 1) = q + 1 + wd.length by omega]
          exact this
        · rw [upd_same, List.take_succ, hwi]
          simp
    rintro σ H3 ⟨o3, o4, o5, o6, rfl, b3, hR3, hl3⟩
    rw [Int.toNat_natCast, List.take_length] at hR3 hl3
    refine ⟨_, rfl, nl, _, rfl, SqL.of hl3, fun a o na oc od => ?_⟩
    obtain ⟨ar, ac⟩ := hR3.ner na
    refine k a _ (b3.free ar na) (b3.put (b3.free ar na)) ?_ ⟨o, oc, od, upd_same⟩
    have e : p + (namesB ws).length = p + 1 + (ws.map wordB).flatten.length := by
      unfold namesB
      rw [List.length_cons]
      omega
    rw [e]
    exact hR3.put ar ac
/-! ### read_rules -/
theorem RdAt.tup {K : PySem.W.Frag} {H H' : Hp} {r c : Addr} {bs : List Nat} {p : Nat} (h : RdAt K H r c bs p) (b : But r H H') : ∀ a xs, H a = some (.tup xs) → H' a = some (.tup xs) := fun a xs e => b a _ (fun z => by
  obtain ⟨⟨_, q⟩, _⟩ := h
  rw [z, q] at e
  cases e) e
theorem sorted_lt {rs : List ((Nat × Nat) × Rule)} (so : SortedR rs) {i j : Nat} {a b : (Nat × Nat) × Rule} (ha : rs[j]? = some a) (hb : rs[i]? = some b) (h : j < i) : a.1.1 < b.1.1 ∨ (a.1.1 = b.1.1 ∧ a.1.2 < b.1.2) := by
  obtain ⟨h1, e1⟩ := List.getElem?_eq_some_iff.mp ha
  obtain ⟨h2, e2⟩ := List.getElem?_eq_some_iff.mp hb
  have := List.pairwise_iff_getElem.mp so j i (by simpa using h1) (by simpa using h2) h
  rw [List.getElem_map, List.getElem_map, e1, e2] at this
  exact this
theorem if_sign {σ : L2.St} {H : Hp} {Q : VK} {mood L F : Nat} (hσ : σ[5]? = some (some (V.int F))) (h : Q (.int ((if mood = L then F else 0 : Nat) : Int)) H) :
    if decide (V.int (mood : Nat) = V.int (L : Nat)) = true then tVar 5 σ H Q else tC (.int 0) σ H Q := by
  by_cases e : mood = L
  · rw [if_pos e] at h
    rw [decide_eq_true (by rw [e]), if_pos rfl]
    exact ⟨_, hσ, h⟩
  · rw [if_neg e] at h
    rw [decide_eq_false (fun z => e (by injection z with z; omega)), if_neg (by decide)]
    exact h
theorem move_ix {H : Hp} {m : Cs} (h : m ∈ moves) : atI (moves.map fun w => V.str (sx w)) ((moveI m : Nat) : Int) = some (sV m) ∧ moveI m ≤ 2 := by
  have key : ∀ m ∈ moves, (moves.map fun w => V.str (sx w))[moveI m]? = some (sV m) ∧ moveI m ≤ 2 := by
    intro m hm
    simp only [moves, List.mem_cons, List.not_mem_nil, or_false] at hm
    rcases hm with rfl | rfl | rfl
    · exact ⟨by kernel_rfl, by decide⟩
    · exact ⟨by kernel_rfl, by decide⟩
    · exact ⟨by kernel_rfl, by decide⟩
  exact ⟨atI_nat (key m h).1, (key m h).2⟩
def spRRules (K : PySem.W.Frag) : Sp := fun vs H Q _ => ∃ (r c : Addr) (bs : List Nat) (p m g : Nat) (rs : List ((Nat × Nat) × Rule)), vs = [.ref r, .int m, .int g] ∧ RdAt K H r c bs p ∧ bs.length ≤ 10000 ∧ (∃ rest, bs.drop p = rs.length :: ((rs.map ruleB).flatten ++ rest)) ∧
  (∀ kv ∈ rs, RuleOk g m kv) ∧ SortedR rs ∧ rs.length ≤ m * g ∧ m ≤ 6 ∧ g ≤ 4 ∧
  ∀ (a : Addr) (H' : Hp), H a = none → But r H H' → RdAt K H' r c bs (p + 1 + (rs.map ruleB).flatten.length) → RulesAt H' a rs → Q (.ref a) H'
abbrev rrN : List Str := ["self", "moods", "signs", "rules", "least", "first", "number", "mood", "sign", "left", "move"]
theorem sc_rrules : FnScope rrN ["self", "moods", "signs"] (defScope s_Reader_read_rules) := ⟨rfl, rfl, rfl, by decide +kernel, rfl, by decide +kernel, by decide +kernel⟩
theorem ok_rrules (T : RdT K mg) : FnE P w K mg base CX0 3 ("Reader", some "read_rules") ["self", "moods", "signs"] (spRRules K) := by
  obtain ⟨fd, F⟩ := T.read_rules.d
  obtain ⟨fdB, GB, bB, kB⟩ := ok_byte (P := P) (w := w) (base := base) T
  refine ⟨fd, F.ok sc_rrules (fun vs H Q E h => ?_) (fun cdv A outer s H vs Q E hr h => ?_), F.bindsN fun _ _ _ _ _ _ us hl => match us, hl with | [_, _, _], _ => rfl, F.kp⟩
  · obtain ⟨r, c, bs, p, m, g, rs, rfl, _⟩ := h
    rfl
  · obtain ⟨r, c, bs, p, m, g, rs, rfl, hR, hlen, hbs, hru, so, hmg, hm, hg, k⟩ := h
    have hrB : Room 2 _ := hr
    have hu := hu_of hr
    have cl := T.rd.c
    have nat : ∀ f ∈ (["code", "place"] : List Str), NoAttr K (He.ga K "Reader") f := T.rd.n
    have h24 : m * g ≤ 6 * 4 := Nat.mul_le_mul hm hg
    refine ⟨_, PSs.nox (pss_cons (ps_par3 (i := 3) (j := 4) (l := 5) (by rfl) sc_rrules.nd rfl rfl rfl (by decide) (by decide) (by decide) rfl rfl rfl (pa_cons pe_dnewT (pa_cons pe_int (pa_cons pe_int pa_nil))) (by rfl))
      (pss_cons (ps_for PassesOwn.never rfl (pi_range1 (by rfl) T.e.f.lo.p.range (pa_cons (pe_meth (pv 0) T.rd.c T.read_byte.m GB hrB bB .nil pass0 (pa_cons pe_int (pa_cons (pe_op op_mul (pv 1) (pv 2)) pa_nil))) pa_nil)) (pg_name (i := 6) sc_rrules.nd rfl (.inl rfl))
        (pss_cons (ps_set (i := 7) sc_rrules.nd rfl (.inl rfl) (pe_meth (pv 0) T.rd.c T.read_byte.m GB hrB bB .nil pass0 (pa_cons (pv 4) (pa_cons (pe_op op_sub (pv 1) pe_int) pa_nil))))
        (pss_cons (ps_set (i := 8) sc_rrules.nd rfl (.inl rfl) (pe_meth (pv 0) T.rd.c T.read_byte.m GB hrB bB .nil pass0 (pa_cons (pe_ifExp (pt_cmpR op_eq (pv 7) (pv 4) (nomark _)) (pv 5) pe_int) (pa_cons (pe_op op_sub (pv 2) pe_int) pa_nil))))
        (pss_cons (ps_set (i := 9) sc_rrules.nd rfl (.inl rfl) (pe_meth (pv 0) T.rd.c T.read_byte.m GB hrB bB .nil pass0 (pa_cons pe_int (pa_cons (pe_op op_sub (pv 2) pe_int) pa_nil))))
        (pss_cons (ps_set (i := 10) sc_rrules.nd rfl (.inl rfl) (pe_ix ix_tup (pe_glob (v := .ref (He.ga K "MOVES")) rfl T.e.f.lo.p.MOVES rfl) (pe_meth (pv 0) T.rd.c T.read_byte.m GB hrB bB .nil pass0 (pa_cons pe_int (pa_cons (pe_op op_sub (pe_callB call_len_seq (by rfl) T.e.f.lo.p.l.len boot_len (pa_cons (pe_glob (v := .ref (He.ga K "MOVES")) rfl T.e.f.lo.p.MOVES rfl) pa_nil)) pe_int) pa_nil))) (fun _ _ => rfl)))
        (pss_cons (ps_dput hu (pv 3) (pe_tup (pa_cons (pv 7) (pa_cons (pv 8) pa_nil))) (pe_tup (pa_cons (pv 9) (pa_cons (pv 10) (pa_cons (pe_meth (pv 0) T.rd.c T.read_byte.m GB hrB bB .nil pass0 (pa_cons pe_int (pa_cons (pe_op op_sub (pv 1) pe_int) pa_nil))) pa_nil)))) rfl)
        (pss_one (ps_asg (pe_ifExp (pt_cmpR op_lt (pe_op op_add (pv 8) pe_int) (pv 2) (nomark _)) (pe_tup (pa_cons (pv 7) (pa_cons (pe_op op_add (pv 8) pe_int) pa_nil))) (pe_tup (pa_cons (pe_op op_add (pv 7) pe_int) (pa_cons pe_int pa_nil))))
          (pg_tup rfl (pgs_cons (pg_name (i := 4) sc_rrules.nd rfl (.inl rfl)) (pgs_cons (pg_name (i := 5) sc_rrules.nd rfl (.inl rfl)) pgs_nil)))))))))))
      (pss_one (ps_ret (pv 3))))), ?_⟩
    intro rd nrd
    refine ⟨_, _, _, rfl, ?_⟩
    obtain ⟨nr, nc⟩ := hR.ner nrd
    have b1 := @But.new r rd H (.dT []) nrd
    have hR1 := hR.put (o := .dT []) nr nc
    have hd1 := @upd_same H rd (.dT [])
    generalize upd H rd (.dT []) = H1 at *
    obtain ⟨rest, hbs⟩ := hbs
    obtain ⟨g0, hdr⟩ := drop_at (l := []) hbs
    obtain ⟨⟨dx1, hr1⟩, hc1⟩ := hR1
    have hR1 : RdAt K H1 r c bs p := ⟨⟨dx1, hr1⟩, hc1⟩
    have hmi : ((rs.length : Nat) : Int) ≤ (m : Int) * (g : Int) := by
      rw [← Int.natCast_mul]
      omega
    refine ⟨_, rfl, r, dx1, _, rfl, hr1, lrd_byte, _, rfl, _, rfl, _, _, rfl, rfl, .inl ⟨by omega, by omega⟩, r, c, bs, p, rs.length, _, _, rfl, hR1, g0, by omega, hmi, hlen, fun H2 b2 hR2 => ?_⟩
    refine ⟨_, rfl, by omega, by omega, ?_⟩
    refine for_range (lo := 0) (n := ((rs.length : Nat) : Int).toNat) (fun i σ H3 => ∃ (L F : Nat) (o6 o7 o8 o9 o10 : Option V), σ = [some (.ref r), some (.int m), some (.int g), some (.ref rd), some (.int L), some (.int F), o6, o7, o8, o9, o10] ∧ But r H H3 ∧
      RdAt K H3 r c bs (p + 1 + ((rs.take i).map ruleB).flatten.length) ∧ (∀ kv, rs[i]? = some kv → L ≤ kv.1.1 ∧ (kv.1.1 = L → F ≤ kv.1.2)) ∧ ∃ kvs, H3 rd = some (.dT kvs) ∧ Paired (RuleAt H3) (rs.take i) kvs)
      ⟨0, 0, none, none, none, none, none, rfl, b1.trans b2, hR2, fun _ _ => ⟨Nat.zero_le _, fun _ => Nat.zero_le _⟩, [], b2 _ _ nr hd1, .nil⟩ ?_ ?_
    · rintro i σ H3 hi ⟨L, F, o6, o7, o8, o9, o10, rfl, b3, hR3, hLF, kvs, hd3, hkv⟩
      rw [Int.toNat_natCast] at hi
      have hri : rs[i]? = some rs[i] := List.getElem?_eq_getElem hi
      generalize rs[i] = kv at hri
      have rk := hru kv (List.mem_of_getElem? hri)
      obtain ⟨hL, hF⟩ := hLF kv hri
      have k1 := rk.k1
      have k2 := rk.k2
      have k3 := rk.l
      have k4 := rk.la
      have hsplit : (rs.map ruleB).flatten = ((rs.take i).map ruleB).flatten ++ (ruleB kv ++ ((rs.drop (i + 1)).map ruleB).flatten) := by
        have e1 := take_flat (f := ruleB) hri
        have e2 : rs = rs.take (i + 1) ++ rs.drop (i + 1) := (List.take_append_drop _ _).symm
        calc (rs.map ruleB).flatten = ((rs.take (i + 1) ++ rs.drop (i + 1)).map ruleB).flatten := by rw [← e2]
          _ = _ := by rw [List.map_append, List.flatten_append, e1, List.append_assoc]
      have hq1 : p + 1 + ((rs.take (i + 1)).map ruleB).flatten.length = p + 1 + ((rs.take i).map ruleB).flatten.length + 5 := by
        rw [take_flat hri, List.length_append]
        rfl
      have hd2 : bs.drop (p + 1 + ((rs.take i).map ruleB).flatten.length) = ruleB kv ++ (((rs.drop (i + 1)).map ruleB).flatten ++ rest) := by
        refine drop_app (a := ((rs.take i).map ruleB).flatten) ?_
        rw [hdr, hsplit]
        simp only [List.append_assoc]
      rw [hq1]
      generalize p + 1 + ((rs.take i).map ruleB).flatten.length = q at hR3 hd2
      have y0 : bs[q]? = some kv.1.1 := drop_get (j := 0) hd2 rfl
      have y1 : bs[q + 1]? = some kv.1.2 := drop_get (j := 1) hd2 rfl
      have y2 : bs[q + 1 + 1]? = some kv.2.left := drop_get (j := 2) hd2 rfl
      have y3 : bs[q + 1 + 1 + 1]? = some (moveI kv.2.move) := drop_get (j := 3) hd2 rfl
      have y4 : bs[q + 1 + 1 + 1 + 1]? = some kv.2.later := drop_get (j := 4) hd2 rfl
      obtain ⟨⟨dx3, hr3⟩, hc3⟩ := hR3
      have hR3 : RdAt K H3 r c bs q := ⟨⟨dx3, hr3⟩, hc3⟩
      refine ⟨_, rfl, r, dx3, _, rfl, hr3, lrd_byte, _, rfl, _, rfl, _, _, rfl, rfl, r, c, bs, q, kv.1.1, _, _, rfl, hR3, y0, by omega, by omega, hlen, fun H4 b4 hR4 => ?_⟩
      replace hkv := Paired.mapP hkv fun _ _ z => z.mono (hR3.tup b4)
      replace hd3 := b4 _ _ nr hd3
      replace b3 := b3.trans b4
      obtain ⟨⟨dx4, hr4⟩, hc4⟩ := hR4
      have hR4 : RdAt K H4 r c bs (q + 1) := ⟨⟨dx4, hr4⟩, hc4⟩
      refine ⟨_, rfl, r, dx4, _, rfl, hr4, lrd_byte, _, rfl, _, rfl, rfl, _, rfl, ?_⟩
      refine if_sign (F := F) rfl ?_
      refine ⟨_, rfl, _, _, rfl, rfl, r, c, bs, q + 1, kv.1.2, _, _, rfl, hR4, y1, ?_, by omega, hlen, fun H5 b5 hR5 => ?_⟩
      · split
        · rename_i z
          have := hF z
          omega
        · omega
      replace hkv := Paired.mapP hkv fun _ _ z => z.mono (hR4.tup b5)
      replace hd3 := b5 _ _ nr hd3
      replace b3 := b3.trans b5
      obtain ⟨⟨dx5, hr5⟩, hc5⟩ := hR5
      have hR5 : RdAt K H5 r c bs (q + 1 + 1) := ⟨⟨dx5, hr5⟩, hc5⟩
      refine ⟨_, rfl, r, dx5, _, rfl, hr5, lrd_byte, _, rfl, _, _, rfl, rfl, r, c, bs, _, kv.2.left, _, _, rfl, hR5, y2, by omega, by omega, hlen, fun H6 b6 hR6 => ?_⟩
      replace hkv := Paired.mapP hkv fun _ _ z => z.mono (hR5.tup b6)
      replace hd3 := b6 _ _ nr hd3
      replace b3 := b3.trans b6
      obtain ⟨⟨dx6, hr6⟩, hc6⟩ := hR6
      have hR6 : RdAt K H6 r c bs (q + 1 + 1 + 1) := ⟨⟨dx6, hr6⟩, hc6⟩
      obtain ⟨mx, m2⟩ := move_ix (H := H6) rk.mv
      refine ⟨_, rfl, r, dx6, _, rfl, hr6, lrd_byte, _, _, rfl, .inr (T.e.f.lo.p.moves H6), _, _, rfl, rfl, r, c, bs, _, moveI kv.2.move, _, _, rfl, hR6, y3, by omega, ?_, hlen, fun H7 b7 hR7 => ?_⟩
      · show ((moveI kv.2.move : Nat) : Int) ≤ ((3 : Nat) : Int) - 1
        omega
      replace hkv := Paired.mapP hkv fun _ _ z => z.mono (hR6.tup b7)
      replace hd3 := b7 _ _ nr hd3
      replace b3 := b3.trans b7
      obtain ⟨⟨dx7, hr7⟩, hc7⟩ := hR7
      have hR7 : RdAt K H7 r c bs (q + 1 + 1 + 1 + 1) := ⟨⟨dx7, hr7⟩, hc7⟩
      refine ⟨_, _, _, _, rfl, rfl, T.e.f.lo.p.moves H7, mx, ?_⟩
      refine ⟨_, rfl, _, rfl, _, rfl, r, dx7, _, rfl, hr7, lrd_byte, _, rfl, _, _, rfl, rfl, r, c, bs, _, kv.2.later, _, _, rfl, hR7, y4, by omega, by omega, hlen, fun H8 b8 hR8 => ?_⟩
      replace hkv := Paired.mapP hkv fun _ _ z => z.mono (hR7.tup b8)
      replace hd3 := b8 _ _ nr hd3
      replace b3 := b3.trans b8
      refine ⟨(by show 3 ≤ sizeLine; decide), fun tv ntv => ?_⟩
      have s9 := sameUpd (o := .tup [.int (kv.2.left : Nat), sV kv.2.move, .int (kv.2.later : Nat)]) (Same.refl H8) ntv
      have htv := @upd_same H8 tv (.tup [.int (kv.2.left : Nat), sV kv.2.move, .int (kv.2.later : Nat)])
      replace hkv := Paired.mapP hkv fun _ _ z => z.mono fun a xs e => s9 a _ e
      replace hd3 := s9 _ _ hd3
      replace b3 := b3.trans (.of s9)
      replace hR8 := hR8.keep s9
      generalize upd H8 tv (.tup [.int (kv.2.left : Nat), sV kv.2.move, .int (kv.2.later : Nat)]) = H9 at *
      refine ⟨_, rfl, _, rfl, _, rfl, (by show 2 ≤ sizeLine; decide), fun tk ntk => ?_⟩
      have s10 := sameUpd (o := .tup [.int (kv.1.1 : Nat), .int (kv.1.2 : Nat)]) (Same.refl H9) ntk
      have htk : (upd H9 tk (.tup [.int (kv.1.1 : Nat), .int (kv.1.2 : Nat)])) tk = some (.tup ((keyT kv.1).map kV)) := upd_same
      replace hkv := Paired.mapP hkv fun _ _ z => z.mono fun a xs e => s10 a _ e
      replace hd3 := s10 _ _ hd3
      replace htv := s10 _ _ htv
      replace b3 := b3.trans (.of s10)
      replace hR8 := hR8.keep s10
      generalize upd H9 tk (.tup [.int (kv.1.1 : Nat), .int (kv.1.2 : Nat)]) = H10 at *
      have hkl := hkv.length
      rw [List.length_take] at hkl
      refine ⟨rd, _, rfl, DPut.t (k := keyT kv.1) hd3 htk (by rw [sizeLine_eq]; omega), ?_⟩
      have hno : ∀ z ∈ rs.take i, z.1 ≠ kv.1 := fun z hz e => by
        obtain ⟨j, hj2⟩ := List.mem_iff_getElem?.mp hz
        have hj1 := (List.getElem?_eq_some_iff.mp hj2).1
        rw [List.length_take] at hj1
        rw [List.getElem?_take_of_lt (by omega)] at hj2
        have := sorted_lt so hj2 hri (by omega)
        rw [e] at this
        omega
      have z1 := rules_put (k := kv.1) (r := kv.2) htv hkv
      rw [putA_new hno] at z1
      have kt := keepT (o' := .dT (putK kvs (keyT kv.1) (.ref tv))) hd3 (fun xs q => by cases q)
      have z2 : Paired (RuleAt (upd H10 rd (.dT (putK kvs (keyT kv.1) (.ref tv))))) (rs.take (i + 1)) (putK kvs (keyT kv.1) (.ref tv)) := by
        rw [List.take_succ, hri]
        exact Paired.mapP z1 fun _ _ q => q.mono kt
      have z3 := @upd_same H10 rd (.dT (putK kvs (keyT kv.1) (.ref tv)))
      replace hR8 := hR8.put (o := .dT (putK kvs (keyT kv.1) (.ref tv))) nr nc
      have b4 := b3.put (o := .dT (putK kvs (keyT kv.1) (.ref tv))) nrd
      generalize upd H10 rd (.dT (putK kvs (keyT kv.1) (.ref tv))) = H11 at *
      have nx : ∀ kv', rs[i + 1]? = some kv' → (kv.1.1 < kv'.1.1 ∨ (kv.1.1 = kv'.1.1 ∧ kv.1.2 < kv'.1.2)) ∧ kv'.1.2 < g := fun kv' h' => ⟨sorted_lt so hri h' (Nat.lt_succ_self i), (hru kv' (List.mem_of_getElem? h')).k2⟩
      refine ⟨_, rfl, _, _, rfl, rfl, _, rfl, _, _, rfl, rfl, _, rfl, ?_⟩
      refine ite2 (fun h => ?_) (fun h => ?_)
      · have h0 : kv.1.2 + 1 < g := by
          have := of_decide_eq_true h
          omega
        refine ⟨_, rfl, _, rfl, _, _, rfl, rfl, (by show 2 ≤ sizeLine; decide), fun t nt => ?_⟩
        have s12 := sameUpd (o := .tup [.int (kv.1.1 : Nat), .int ((kv.1.2 : Nat) + 1 : Int)]) (Same.refl H11) nt
        refine ⟨t, _, rfl, SqT.of upd_same, rfl, _, _, rfl, _, _, rfl, rfl, ?_⟩
        refine ⟨kv.1.1, kv.1.2 + 1, _, _, _, _, _, rfl, b4.trans (.of s12), hR8.keep s12, fun kv' h' => ?_, _, s12 _ _ z3, Paired.mapP z2 fun _ _ z => z.mono fun a xs e => s12 a _ e⟩
        have := nx kv' h'
        omega
      · have h0 : ¬ kv.1.2 + 1 < g := by
          have := of_decide_eq_false (Bool.eq_false_iff.mpr h)
          omega
        refine ⟨_, rfl, _, _, rfl, rfl, (by show 2 ≤ sizeLine; decide), fun t nt => ?_⟩
        have s12 := sameUpd (o := .tup [.int ((kv.1.1 : Nat) + 1 : Int), .int 0]) (Same.refl H11) nt
        refine ⟨t, _, rfl, SqT.of upd_same, rfl, _, _, rfl, _, _, rfl, rfl, ?_⟩
        refine ⟨kv.1.1 + 1, 0, _, _, _, _, _, rfl, b4.trans (.of s12), hR8.keep s12, fun kv' h' => ?_, _, s12 _ _ z3, Paired.mapP z2 fun _ _ z => z.mono fun a xs e => s12 a _ e⟩
        have := nx kv' h'
        omega
    rintro σ H3 ⟨L, F, o6, o7, o8, o9, o10, rfl, b3, hR3, _, kvs, hd3, hkv⟩
    rw [Int.toNat_natCast, List.take_length] at hR3 hkv
    exact ⟨_, rfl, k rd H3 nrd b3 hR3 ⟨kvs, hd3, hkv⟩⟩
end
end Sw

end

section
set_option maxRecDepth 100000
set_option maxHeartbeats 4000000
/-! decode: where nothing is raised -/
namespace Sw
open PySem PySem.Spec PyProof.Rows L2 SwA
theorem rules_most {g m : Nat} {rs : List ((Nat × Nat) × Rule)} (h : ∀ kv ∈ rs, RuleOk g m kv) (so : SortedR rs) : rs.length ≤ m * g := by
  have := inc_len (n := m * g) (lo := 0) (l := rs.map fun kv => kv.1.1 * g + kv.1.2) ?_ ?_
  · rw [List.length_map] at this
    exact this
  · rw [List.pairwise_map]
    unfold SortedR at so
    rw [List.pairwise_map] at so
    refine List.Pairwise.imp_of_mem (fun {a b} ha hb q => ?_) so
    have h1 := (h a ha).k2
    have h2 := (h b hb).k2
    rcases q with q | ⟨q1, q2⟩
    · have := Nat.mul_le_mul_right g (show a.1.1 + 1 ≤ b.1.1 from q)
      rw [Nat.add_mul, Nat.one_mul] at this
      omega
    · rw [q1]
      omega
  · intro x hx
    obtain ⟨kv, hk, rfl⟩ := List.mem_map.mp hx
    have h1 := (h kv hk).k1
    have h2 := (h kv hk).k2
    have := Nat.mul_le_mul_right g (show kv.1.1 + 1 ≤ m from h1)
    rw [Nat.add_mul, Nat.one_mul] at this
    omega
section
variable {P : Program} {w : World} {K : PySem.W.Frag} {mg : Str → Option Value} {base : Heap}
def spDecode : Sp := fun vs H Q _ => ∃ (a : Addr) (pl : Plan), vs = [.ref a] ∧ H a = some (.lst (iVs (codeB pl))) ∧ WfP pl ∧ SortedR pl.rules ∧ ∀ H' : Hp, Same H H' → Q (sV (textOf pl)) H'
abbrev deN : List Str := ["code", "reader", "tiles", "signs", "moods", "robots", "number", "tile", "floor", "rules", "checksum"]
theorem sc_dec : FnScope deN ["code"] (defScope s_decode) := ⟨rfl, rfl, rfl, by decide +kernel, rfl, by decide +kernel, by decide +kernel⟩
def teF (K : PySem.W.Frag) : TE := tMeth (He.ga K "Reader") "read_byte" (spByte K) [] E0 (tVar 1) (tCons (tC (.int 0)) (tCons (tOp (rI0 fun i j => .int (i - j)) (tCB (fun xs H Q => ∃ p ys, xs = [.ref p] ∧ (SqL K H p ys ∨ SqT K H p ys) ∧ Q (.int ys.length) H) (tCons (tVar 3) tNil)) (tC (.int 1))) tNil))
theorem ok_decode (T : RdT K mg) : FnE P w K mg base CX0 4 ("decode", none) ["code"] spDecode := by
  obtain ⟨fd, F⟩ := T.decode.d
  obtain ⟨t1, mTAG⟩ := T.e.TAG
  obtain ⟨t2, mBYTE⟩ := T.e.BYTE
  obtain ⟨t3, mT⟩ := T.e.f.lo.p.MAX_TILES
  obtain ⟨t4, mS⟩ := T.e.f.lo.p.MAX_SIGNS
  obtain ⟨t5, mM⟩ := T.e.f.lo.p.MAX_MOODS
  obtain ⟨t6, mR⟩ := T.e.f.lo.p.MAX_ROBOTS
  obtain ⟨fdB, GB, bB, kB⟩ := ok_byte (P := P) (w := w) (base := base) T
  obtain ⟨fdN, GN, bN, kN⟩ := ok_rnames (P := P) (w := w) (base := base) T
  obtain ⟨fdU, GU, bU, kU⟩ := ok_rrules (P := P) (w := w) (base := base) T
  obtain ⟨fdI, GI, bI, kI⟩ := ok_rdi (P := P) (w := w) (base := base) T
  obtain ⟨fdP, GP, bP, kP⟩ := ok_plan (P := P) (w := w) (base := base) T.e.f.lo
  obtain ⟨fdF, GF, bF, kF⟩ := ok_fmt (P := P) (w := w) (base := base) T.e.f
  refine ⟨fd, F.ok sc_dec (fun vs H Q E h => ?_) (fun cdv A outer s H vs Q E hr h => ?_), F.bindsN fun _ _ _ _ _ _ us hl => match us, hl with | [_], _ => rfl, F.kp⟩
  · obtain ⟨a, pl, rfl, _⟩ := h
    rfl
  · obtain ⟨a, pl, rfl, ha, wf, so, k⟩ := h
    have hr2 : Room 2 _ := hr.mono (by decide)
    have hr1 : Room 1 _ := hr.mono (by decide)
    refine ⟨_, PSs.nox (pss_cons (ps_if (pt_not (pt_val (pe_callB call_isi (by rfl) T.i.isinstance (by decide +kernel) (pa_cons (pv 0) (pa_cons (pe_bltn (v := .ty "list") (by rfl) T.list (by decide +kernel) rfl) pa_nil)))))
        (pss_one ps_noO) pss_nil)
      (pss_cons (ps_set (i := 1) sc_dec.nd rfl (.inr rfl) (pe_make T.rd.m GI hr2 rfl T.rd.g bI .nil pass0 (pa_cons (pv 0) pa_nil)))
      (pss_cons (ps_expr (pe_meth (pv 1) T.rd.c T.read_byte.m GB hr2 bB .nil pass0 (pa_cons (pe_glob (v := .int 82) rfl mTAG ⟨_, rfl⟩) (pa_cons (pe_glob (v := .int 82) rfl mTAG ⟨_, rfl⟩) pa_nil))))
      (pss_cons (ps_set (i := 2) sc_dec.nd rfl (.inl rfl) (pe_meth (pv 1) T.rd.c T.read_byte.m GB hr2 bB .nil pass0 (pa_cons pe_int (pa_cons (pe_glob (v := .int 16) rfl mT ⟨_, rfl⟩) pa_nil))))
      (pss_cons (ps_asg (pe_tup (pa_cons (pe_meth (pv 1) T.rd.c T.read_names.m GN hr bN .nil pass0 (pa_cons (pe_glob (v := .int 4) rfl mS ⟨_, rfl⟩) pa_nil)) (pa_cons (pe_meth (pv 1) T.rd.c T.read_names.m GN hr bN .nil pass0 (pa_cons (pe_glob (v := .int 6) rfl mM ⟨_, rfl⟩) pa_nil)) (pa_cons (pe_lst pa_nil) pa_nil))))
        (pg_tup rfl (pgs_cons (pg_name (i := 3) sc_dec.nd rfl (.inr rfl)) (pgs_cons (pg_name (i := 4) sc_dec.nd rfl (.inl rfl)) (pgs_cons (pg_name (i := 5) sc_dec.nd rfl (.inl rfl)) pgs_nil)))))
      (pss_cons (ps_for PassesOwn.never rfl (pi_range1 (by rfl) T.e.f.lo.p.range (pa_cons (pe_meth (pv 1) T.rd.c T.read_byte.m GB hr2 bB .nil pass0 (pa_cons pe_int (pa_cons (pe_glob (v := .int 3) rfl mR ⟨_, rfl⟩) pa_nil))) pa_nil)) (pg_name (i := 6) sc_dec.nd rfl (.inl rfl))
        (pss_cons (ps_set (i := 7) sc_dec.nd rfl (.inl rfl) (pe_meth (pv 1) T.rd.c T.read_byte.m GB hr2 bB .nil pass0 (pa_cons pe_int (pa_cons (pe_op op_sub (pv 2) pe_int) pa_nil))))
        (pss_one (ps_expr (pe_bm PySem.F.plainAttrs_list PySem.F.slot_list_append PySem.F.type_list_append mt_append (pv 5) (pa_cons (pe_tup (pa_cons (pv 7) (pa_cons (pe_cmpR op_eq (pe_meth (pv 1) T.rd.c T.read_byte.m GB hr2 bB .nil pass0 (pa_cons pe_int (pa_cons pe_int pa_nil))) pe_int (nomark _)) pa_nil))) pa_nil))))))
      (pss_cons (ps_set (i := 8) sc_dec.nd rfl (.inl rfl) (pe_callTy call_tuple_of (by rfl) T.e.f.lo.p.tuple (by decide +kernel) (pa_cons (pe_lc (own := [("tile", 7)]) (g := (gName 7)) (tt := tYes) (te := teF K) rfl sc_dec.nd (pi_range1 (by rfl) T.e.f.lo.p.range (pa_cons (pv 2) pa_nil)) (blkOk_by (own := [("tile", 7)]) (N := deN) (sc := defScope s_decode) (by decide +kernel)) (fun _ _ _ _ _ => (pg_name (i := 7) sc_dec.nd rfl (.inl rfl))) (fun _ _ _ _ _ => pts_nil) (fun _ _ _ _ _ => (pe_meth (pv 1) T.rd.c T.read_byte.m GB hr2 bB .nil pass0 (pa_cons pe_int (pa_cons (pe_op op_sub (pe_callB call_len_seq (by rfl) T.e.f.lo.p.l.len boot_len (pa_cons (pv 3) pa_nil)) pe_int) pa_nil))))) pa_nil)))
      (pss_cons (ps_set (i := 9) sc_dec.nd rfl (.inl rfl) (pe_meth (pv 1) T.rd.c T.read_rules.m GU hr bU .nil pass0 (pa_cons (pe_callB call_len_seq (by rfl) T.e.f.lo.p.l.len boot_len (pa_cons (pv 4) pa_nil)) (pa_cons (pe_callB call_len_seq (by rfl) T.e.f.lo.p.l.len boot_len (pa_cons (pv 3) pa_nil)) pa_nil))))
      (pss_cons (ps_set (i := 10) sc_dec.nd rfl (.inl rfl) (pe_op op_mod (pe_callB (cr_sum rfl) (by rfl) T.e.sum (by decide +kernel) (pa_cons (pe_slice sl_list (pv 0) po_none (po_some (pe_fld (pv 1) rfl))) pa_nil)) (pe_glob (v := .int 256) rfl mBYTE ⟨_, rfl⟩)))
      (pss_cons (ps_expr (pe_meth (pv 1) T.rd.c T.read_byte.m GB hr2 bB .nil pass0 (pa_cons (pv 10) (pa_cons (pv 10) pa_nil))))
      (pss_cons (ps_if (pt_cmpR op_lt (pe_fld (pv 1) rfl) (pe_callB call_len_seq (by rfl) T.e.f.lo.p.l.len boot_len (pa_cons (pv 0) pa_nil)) (nomark _))
        (pss_one ps_noO) pss_nil)
      (pss_one (ps_ret (pe_call GF hr1 rfl T.e.f.fmt.g kF bF .nil pass0 (pa_cons (pe_make T.e.f.lo.plan.m GP hr2 rfl T.e.f.lo.plan.g bP .nil pass0 (pa_cons (pv 3) (pa_cons (pv 4) (pa_cons (pv 8) (pa_cons (pe_callTy call_tuple_of (by rfl) T.e.f.lo.p.tuple (by decide +kernel) (pa_cons (pv 5) pa_nil)) (pa_cons (pv 9) pa_nil)))))) pa_nil))))))))))))))), ?_⟩
    refine ⟨_, rfl, _, _, _, _, true, rfl, .ty _, (ArN.lst ha).ty, kit_ty (by decide +kernel), _, rfl, ?_⟩
    refine ⟨_, rfl, fun r dx nr ndx dr => ?_⟩
    have ar : a ≠ r := ne_of_none ha nr
    have ad : a ≠ dx := ne_of_none ha ndx
    refine ⟨r, dx, a, rfl, upd_same, rfl, ?_⟩
    rw [upd_upd]
    have s1 : Same H (upd (upd H dx (.own r)) r (.ins (He.ga K "Reader") dx (rdFs a 0))) := sameUpd (sameUpd (Same.refl H) ndx) nr
    have hR1 : RdAt K (upd (upd H dx (.own r)) r (.ins (He.ga K "Reader") dx (rdFs a 0))) r a (codeB pl) 0 := ⟨⟨dx, upd_same⟩, s1 _ _ ha⟩
    generalize upd (upd H dx (.own r)) r (.ins (He.ga K "Reader") dx (rdFs a 0)) = H1 at *
    have hcode : codeB pl = 82 :: pl.floor.length :: (namesB pl.signs ++ (namesB pl.moods ++ (pl.robots.length :: ((pl.robots.map robB).flatten ++ (pl.floor ++ (pl.rules.length :: ((pl.rules.map ruleB).flatten ++ [(bodyB pl).sum % 256]))))))) := by
      unfold codeB
      conv => lhs; arg 1; unfold bodyB
      simp only [List.append_assoc, List.cons_append, List.nil_append]
    have lN1 := namesB_len wf.sN (by have := wf.s4; omega)
    have lN2 := namesB_len wf.mN wf.m6
    have lR := flat_small (f := robB) (l := pl.robots) (b := 2) fun x hx => Nat.le_refl _
    have lU := flat_small (f := ruleB) (l := pl.rules) (b := 5) fun x hx => Nat.le_refl _
    have hru := rules_few wf so
    have h16 := wf.n16
    have hr3 := wf.r3
    have hs4 := wf.s4
    have hm6 := wf.m6
    have hlen : (codeB pl).length ≤ 10000 := by
      rw [hcode]
      simp only [List.length_cons, List.length_append, List.length_nil]
      omega
    have hbl : (codeB pl).length = (bodyB pl).length + 1 := by unfold codeB; simp
    generalize hck : (bodyB pl).sum % 256 = ck at hcode
    have htk : (codeB pl).take (bodyB pl).length = bodyB pl := by
      unfold codeB
      rw [List.take_left']
      rfl
    have hlast : (codeB pl)[(bodyB pl).length]? = some ck := by
      unfold codeB
      rw [hck, List.getElem?_append_right (Nat.le_refl _), Nat.sub_self]
      rfl
    have hbsum : (bodyB pl).sum % 256 = ck := hck
    have hlen2 : (bodyB pl).length = 2 + (namesB pl.signs).length + (namesB pl.moods).length + 1 + (pl.robots.map robB).flatten.length + pl.floor.length + 1 + (pl.rules.map ruleB).flatten.length := by
      have := congrArg List.length hcode
      simp only [List.length_cons, List.length_append, List.length_nil] at this
      omega
    have cl := T.rd.c
    have nat : ∀ f ∈ (["code", "place"] : List Str), NoAttr K (He.ga K "Reader") f := T.rd.n
    have hs0 : 1 ≤ pl.signs.length := by
      have := wf.s1
      cases e : pl.signs with
      | nil => exact absurd e this
      | cons _ _ => simp
    have hrb0 : 1 ≤ pl.robots.length := by
      have := wf.r1
      cases e : pl.robots with
      | nil => exact absurd e this
      | cons _ _ => simp
    generalize hcd : codeB pl = cd at *
    generalize hbd : (bodyB pl).length = bl at *
    have d0 : cd.drop 0 = 82 :: (pl.floor.length :: (namesB pl.signs ++ (namesB pl.moods ++ (pl.robots.length :: ((pl.robots.map robB).flatten ++ (pl.floor ++ (pl.rules.length :: ((pl.rules.map ruleB).flatten ++ [ck])))))))) := by rw [List.drop_zero, hcode]
    obtain ⟨g0, d1⟩ := drop_at (l := []) d0
    obtain ⟨g1, d2⟩ := drop_at (l := []) d1
    have d3 := drop_app d2
    have d4 := drop_app d3
    obtain ⟨g4, d5⟩ := drop_at (l := []) d4
    have d6 := drop_app d5
    have d7 := drop_app d6
    obtain ⟨⟨dx1, hr1'⟩, hc1⟩ := hR1
    have hR1 : RdAt K H1 r a cd 0 := ⟨⟨dx1, hr1'⟩, hc1⟩
    refine ⟨_, rfl, r, dx1, _, rfl, hr1', lrd_byte, r, a, cd, 0, 82, _, _, rfl, hR1, g0, by decide, by decide, hlen, fun H2 b2 hR2 => ?_⟩
    obtain ⟨⟨dx2, hr2'⟩, hc2⟩ := hR2
    have hR2 : RdAt K H2 r a cd (0 + 1) := ⟨⟨dx2, hr2'⟩, hc2⟩
    refine ⟨_, rfl, r, dx2, _, rfl, hr2', lrd_byte, r, a, cd, _, pl.floor.length, _, _, rfl, hR2, g1, by have := wf.n1; omega, by omega, hlen, fun H3 b3 hR3 => ?_⟩
    replace b3 := b2.trans b3
    obtain ⟨⟨dx3, hr3'⟩, hc3⟩ := hR3
    have hR3 : RdAt K H3 r a cd (0 + 1 + 1) := ⟨⟨dx3, hr3'⟩, hc3⟩
    refine ⟨_, rfl, r, dx3, _, rfl, hr3', lrd_names, r, a, cd, _, 4, pl.signs, rfl, hR3, hlen, ⟨_, d2⟩, wf.sN, wf.s1, wf.s4, by decide, fun sa H4 nsa b4 hR4 hsa => ?_⟩
    have sar := (hR3.ner nsa).1
    replace b4 := b3.trans b4
    obtain ⟨⟨dx4, hr4'⟩, hc4⟩ := hR4
    have hR4 : RdAt K H4 r a cd (0 + 1 + 1 + (namesB pl.signs).length) := ⟨⟨dx4, hr4'⟩, hc4⟩
    refine ⟨_, rfl, r, dx4, _, rfl, hr4', lrd_names, r, a, cd, _, 6, pl.moods, rfl, hR4, hlen, ⟨_, d3⟩, wf.mN, wf.m1, wf.m6, by decide, fun ma H5 nma b5 hR5 hma => ?_⟩
    have mar := (hR4.ner nma).1
    replace hsa := hsa.mono fun o z => b5 _ _ sar z
    replace b5 := b4.trans b5
    refine ⟨(by show 0 ≤ sizeLine; decide), fun rl nrl => ?_⟩
    have s6 := sameUpd (o := .lst []) (Same.refl H5) nrl
    have hrl := @upd_same H5 rl (.lst [])
    have rlr := hR5.ner nrl
    have rl1 : H1 rl = none := b5.free rlr.1 nrl
    replace hsa := hsa.mono fun o z => s6 _ _ z
    replace hma := hma.mono fun o z => s6 _ _ z
    replace hR5 := hR5.keep s6
    replace b5 := b5.trans (.of s6)
    have rsa : rl ≠ sa := fun z => by
      obtain ⟨_, _, _, q⟩ := hsa
      rw [← z, hrl] at q
      cases q
    have rma : rl ≠ ma := fun z => by
      obtain ⟨_, _, _, q⟩ := hma
      rw [← z, hrl] at q
      cases q
    generalize upd H5 rl (.lst []) = H6 at *
    refine ⟨(by show 3 ≤ sizeLine; decide), fun t3 nt3 => ?_⟩
    have s7 := sameUpd (o := .tup [.ref sa, .ref ma, .ref rl]) (Same.refl H6) nt3
    have ht3 := @upd_same H6 t3 (.tup [.ref sa, .ref ma, .ref rl])
    replace hsa := hsa.mono fun o z => s7 _ _ z
    replace hma := hma.mono fun o z => s7 _ _ z
    replace hrl := s7 _ _ hrl
    replace hR5 := hR5.keep s7
    replace b5 := b5.trans (.of s7)
    generalize upd H6 t3 (.tup [.ref sa, .ref ma, .ref rl]) = H7 at *
    refine ⟨t3, _, rfl, SqT.of ht3, rfl, _, _, rfl, _, _, rfl, _, _, rfl, rfl, ?_⟩
    -- robots
    obtain ⟨⟨dx7, hr7'⟩, hc7⟩ := hR5
    have hR7 : RdAt K H7 r a cd (0 + 1 + 1 + (namesB pl.signs).length + (namesB pl.moods).length) := ⟨⟨dx7, hr7'⟩, hc7⟩
    generalize hp4 : 0 + 1 + 1 + (namesB pl.signs).length + (namesB pl.moods).length = p4 at *
    refine ⟨_, rfl, r, dx7, _, rfl, hr7', lrd_byte, r, a, cd, _, pl.robots.length, _, _, rfl, hR7, g4, by omega, by omega, hlen, fun H8 b8 hR8 => ?_⟩
    refine ⟨_, rfl, by omega, by omega, ?_⟩
    replace hsa := hsa.mono fun o z => b8 _ _ sar z
    replace hma := hma.mono fun o z => b8 _ _ mar z
    replace hrl := b8 _ _ rlr.1 hrl
    replace b8 := b5.trans b8
    refine for_range (lo := 0) (n := ((pl.robots.length : Nat) : Int).toNat) (fun i σ Hx => ∃ (o6 o7 : Option V) (ras : List Addr), σ = [some (.ref a), some (.ref r), some (.int (pl.floor.length : Nat)), some (.ref sa), some (.ref ma), some (.ref rl), o6, o7, none, none, none] ∧ But r H1 Hx ∧
      RdAt K Hx r a cd (p4 + 1 + ((pl.robots.take i).map robB).flatten.length) ∧ TupN Hx sa (pl.signs.map sV) ∧ TupN Hx ma (pl.moods.map sV) ∧ Hx rl = some (.lst (ras.map V.ref)) ∧ Paired (RobAt Hx) ras (pl.robots.take i))
      ⟨none, none, [], rfl, b8, hR8, hsa, hma, hrl, .nil⟩ ?_ ?_
    · rintro i σ Hx hi ⟨o6, o7, ras, rfl, bx, hRx, hsx, hmx, hlx, hpx⟩
      rw [Int.toNat_natCast] at hi
      have hri : pl.robots[i]? = some pl.robots[i] := List.getElem?_eq_getElem hi
      generalize pl.robots[i] = rb at hri
      have hrt := wf.rt rb (List.mem_of_getElem? hri)
      have hsplit : (pl.robots.map robB).flatten = ((pl.robots.take i).map robB).flatten ++ (robB rb ++ ((pl.robots.drop (i + 1)).map robB).flatten) := by
        have e1 := take_flat (f := robB) hri
        have e2 : pl.robots = pl.robots.take (i + 1) ++ pl.robots.drop (i + 1) := (List.take_append_drop _ _).symm
        calc (pl.robots.map robB).flatten = ((pl.robots.take (i + 1) ++ pl.robots.drop (i + 1)).map robB).flatten := by rw [← e2]
          _ = _ := by rw [List.map_append, List.flatten_append, e1, List.append_assoc]
      have hq1 : p4 + 1 + ((pl.robots.take (i + 1)).map robB).flatten.length = p4 + 1 + ((pl.robots.take i).map robB).flatten.length + 1 + 1 := by
        rw [take_flat hri, List.length_append]
        rfl
      have dq : cd.drop (p4 + 1 + ((pl.robots.take i).map robB).flatten.length) = robB rb ++ (((pl.robots.drop (i + 1)).map robB).flatten ++ (pl.floor ++ (pl.rules.length :: ((pl.rules.map ruleB).flatten ++ [ck])))) := by
        refine drop_app (a := ((pl.robots.take i).map robB).flatten) ?_
        rw [d5, hsplit]
        simp only [List.append_assoc]
      rw [hq1]
      generalize p4 + 1 + ((pl.robots.take i).map robB).flatten.length = q at hRx dq
      have y0 : cd[q]? = some rb.1 := drop_get (j := 0) dq rfl
      have y1 : cd[q + 1]? = some (if rb.2 then 1 else 0) := drop_get (j := 1) dq rfl
      obtain ⟨⟨dxx, hrx'⟩, hcx⟩ := hRx
      have hRx : RdAt K Hx r a cd q := ⟨⟨dxx, hrx'⟩, hcx⟩
      refine ⟨_, rfl, r, dxx, _, rfl, hrx', lrd_byte, _, rfl, _, _, rfl, rfl, r, a, cd, _, rb.1, _, _, rfl, hRx, y0, by omega, by omega, hlen, fun Hy b9 hRy => ?_⟩
      replace hpx := Paired.mapP hpx fun _ _ z => (hRx.tup b9) _ _ z
      replace hsx := hsx.mono fun o z => b9 _ _ sar z
      replace hmx := hmx.mono fun o z => b9 _ _ mar z
      replace hlx := b9 _ _ rlr.1 hlx
      replace bx := bx.trans b9
      obtain ⟨⟨dxy, hry'⟩, hcy⟩ := hRy
      have hRy : RdAt K Hy r a cd (q + 1) := ⟨⟨dxy, hry'⟩, hcy⟩
      refine ⟨_, rfl, .inl ⟨rfl, _, SqL.of hlx⟩, _, rfl, _, rfl, r, dxy, _, rfl, hry', lrd_byte, r, a, cd, _, _, _, _, rfl, hRy, y1, Int.natCast_nonneg _, by cases rb.2 <;> decide, hlen, fun Hz b10 hRz => ?_⟩
      replace hpx := Paired.mapP hpx fun _ _ z => (hRy.tup b10) _ _ z
      replace hsx := hsx.mono fun o z => b10 _ _ sar z
      replace hmx := hmx.mono fun o z => b10 _ _ mar z
      replace hlx := b10 _ _ rlr.1 hlx
      replace bx := bx.trans b10
      have eb : decide (V.int ((if rb.2 then 1 else 0 : Nat) : Int) = V.int 1) = rb.2 := by
        cases rb.2
        · exact decide_eq_false (fun z => by
            injection z with z
            exact absurd z (by decide))
        · exact decide_eq_true rfl
      refine ⟨rfl, ?_⟩
      rw [eb]
      refine ⟨(by show 2 ≤ sizeLine; decide), fun t nt => ?_⟩
      have s11 := sameUpd (o := .tup [.int (rb.1 : Nat), .bl rb.2]) (Same.refl Hz) nt
      have ht := @upd_same Hz t (.tup [.int (rb.1 : Nat), .bl rb.2])
      replace hpx := Paired.mapP hpx fun _ _ z => s11 _ _ z
      replace hsx := hsx.mono fun o z => s11 _ _ z
      replace hmx := hmx.mono fun o z => s11 _ _ z
      replace hlx := s11 _ _ hlx
      replace bx := bx.trans (.of s11)
      replace hRz := hRz.keep s11
      generalize upd Hz t (.tup [.int (rb.1 : Nat), .bl rb.2]) = Hw at *
      have hpl := hpx.length
      rw [List.length_take] at hpl
      have kt := keepT (o' := .lst (ras.map V.ref ++ [.ref t])) hlx (fun xs q => by cases q)
      refine ⟨rl, _, _, rfl, rfl, hlx, by rw [List.length_map, sizeLine_eq]; omega, _, _, ras ++ [t], rfl, bx.put rl1, hRz.put rlr.1 rlr.2, hsx.mono (fun o z => (upd_ne (Ne.symm rsa)).trans z), hmx.mono (fun o z => (upd_ne (Ne.symm rma)).trans z), ?_, ?_⟩
      · rw [upd_same, List.map_append]
        rfl
      · rw [List.take_succ, hri]
        exact Paired_snoc (Paired.mapP hpx fun _ _ z => kt _ _ z) (kt _ _ ht)
    rintro σ Hx ⟨o6, o7, ras, rfl, bx, hRx, hsx, hmx, hlx, hpx⟩
    rw [Int.toNat_natCast, List.take_length] at hRx hpx
    -- floor
    generalize hp5 : p4 + 1 + (pl.robots.map robB).flatten.length = p5 at *
    have hfb := wf.fl
    refine ⟨_, rfl, _, rfl, by omega, by omega, fun D nD => ?_⟩
    have Dr := hRx.ner nD
    refine lc_range (lo := 0) (n := ((pl.floor.length : Nat) : Int).toNat) (vs := [7]) (fun j Hy => But r Hx Hy ∧ RdAt K Hy r a cd (p5 + j) ∧ Hy D = some (.lst (iVs (pl.floor.take j)))) ⟨But.new nD, hRx.put Dr.1 Dr.2, upd_same⟩ ?_ ?_
    · rintro j Hy hj ⟨by_, hRy, hDy⟩
      rw [Int.toNat_natCast] at hj
      have hfj : pl.floor[j]? = some pl.floor[j] := List.getElem?_eq_getElem hj
      generalize pl.floor[j] = f at hfj
      have hff := wf.fl f (List.mem_of_getElem? hfj)
      have yj : cd[p5 + j]? = some f := drop_get d6 hfj
      obtain ⟨⟨dxy, hry'⟩, hcy⟩ := hRy
      have hRy : RdAt K Hy r a cd (p5 + j) := ⟨⟨dxy, hry'⟩, hcy⟩
      refine ⟨rfl, _, rfl, r, dxy, _, rfl, hry', lrd_byte, _, rfl, sa, _, rfl, .inr (hsx.mono fun o z => by_ _ _ sar z).sq, _, _, rfl, rfl, r, a, cd, _, f, _, _, rfl, hRy, yj, by omega, ?_, hlen, fun Hz bz hRz => ?_⟩
      · show ((f : Nat) : Int) ≤ (((pl.signs.map sV).length : Nat) : Int) - 1
        rw [List.length_map]
        omega
      · refine ⟨_, bz _ _ Dr.1 hDy, by rw [List.length_map, List.length_take, sizeLine_eq]; omega, (by_.trans bz).put nD, hRz.put Dr.1 Dr.2, ?_⟩
        rw [upd_same, List.take_succ, hfj]
        simp
    rintro Hy ⟨by_, hRy, hDy⟩
    rw [Int.toNat_natCast] at hRy hDy
    rw [List.take_length] at hDy
    replace hpx := Paired.mapP hpx fun _ _ z => (hRx.tup by_) _ _ z
    replace hsx := hsx.mono fun o z => by_ _ _ sar z
    replace hmx := hmx.mono fun o z => by_ _ _ mar z
    replace hlx := by_ _ _ rlr.1 hlx
    replace bx := bx.trans by_
    refine ⟨D, _, rfl, .inl ⟨SqL.of hDy, fun fa nfa => ?_⟩⟩
    have s12 := sameUpd (o := .tup (iVs pl.floor)) (Same.refl Hy) nfa
    have hfa := @upd_same Hy fa (.tup (iVs pl.floor))
    have far := (hRy.ner nfa).1
    replace hpx := Paired.mapP hpx fun _ _ z => s12 _ _ z
    replace hsx := hsx.mono fun o z => s12 _ _ z
    replace hmx := hmx.mono fun o z => s12 _ _ z
    replace hlx := s12 _ _ hlx
    replace bx := bx.trans (.of s12)
    replace hRy := hRy.keep s12
    generalize upd Hy fa (.tup (iVs pl.floor)) = Hz at *
    -- rules
    obtain ⟨⟨dxz, hrz'⟩, hcz⟩ := hRy
    have hRz : RdAt K Hz r a cd (p5 + pl.floor.length) := ⟨⟨dxz, hrz'⟩, hcz⟩
    refine ⟨_, rfl, r, dxz, _, rfl, hrz', lrd_rules, _, rfl, ma, _, rfl, .inr hmx.sq, _, rfl, sa, _, rfl, .inr hsx.sq, r, a, cd, _, pl.moods.length, pl.signs.length, pl.rules, by rw [List.length_map, List.length_map]; rfl, hRz, hlen, ⟨_, d7⟩, wf.ru, so, rules_most wf.ru so, wf.m6, wf.s4, fun rd Hw nrd bw hRw hrw => ?_⟩
    have rdr := (hRz.ner nrd).1
    replace hpx := Paired.mapP hpx fun _ _ z => (hRz.tup bw) _ _ z
    replace hsx := hsx.mono fun o z => bw _ _ sar z
    replace hmx := hmx.mono fun o z => bw _ _ mar z
    replace hlx := bw _ _ rlr.1 hlx
    replace hfa := bw _ _ far hfa
    replace bx := bx.trans bw
    have hp7 : p5 + pl.floor.length + 1 + (pl.rules.map ruleB).flatten.length = bl := by
      omega
    rw [hp7] at hRw
    obtain ⟨⟨dxw, hrw'⟩, hcw⟩ := hRw
    have hRw : RdAt K Hw r a cd bl := ⟨⟨dxw, hrw'⟩, hcw⟩
    have ec : cutV (iVs cd) none (some ((bl : Nat) : Int)) = iVs (bodyB pl) := by
      rw [cut_take (by rw [List.length_map]; omega), ← List.map_take, htk]
    refine ⟨_, rfl, _, rfl, r, _, dxw, _, _, rfl, hrw', cl, nat _ (by simp), lrd_place, _, rfl, a, _, rfl, SqL.of hcw, fun q nq => ?_⟩
    rw [ec]
    have s13 := sameUpd (o := .lst (iVs (bodyB pl))) (Same.refl Hw) nq
    have hq := @upd_same Hw q (.lst (iVs (bodyB pl)))
    replace hpx := Paired.mapP hpx fun _ _ z => s13 _ _ z
    replace hsx := hsx.mono fun o z => s13 _ _ z
    replace hmx := hmx.mono fun o z => s13 _ _ z
    replace hlx := s13 _ _ hlx
    replace hfa := s13 _ _ hfa
    replace hrw : RulesAt (upd Hw q (.lst (iVs (bodyB pl)))) rd pl.rules := let ⟨kvs, h1, h2⟩ := hrw; ⟨kvs, s13 _ _ h1, Paired.mapP h2 fun _ _ z => z.mono fun _ _ e => s13 _ _ e⟩
    replace bx := bx.trans (.of s13)
    replace hRw := hRw.keep s13
    generalize upd Hw q (.lst (iVs (bodyB pl))) = Hv at *
    refine ⟨q, (bodyB pl).map (fun n : Nat => (n : Int)), rfl, SqL.of (by rw [← iVs_int]; exact hq), ?_⟩
    rw [isum]
    refine ⟨_, _, rfl, rfl, (show (0 : Int) < 256 by decide), ?_⟩
    have eM : ((((bodyB pl).sum : Nat) : Int) % 256) = ((ck : Nat) : Int) := by
      rw [← hbsum]
      omega
    obtain ⟨⟨dxv, hrv'⟩, hcv⟩ := hRw
    have hRv : RdAt K Hv r a cd bl := ⟨⟨dxv, hrv'⟩, hcv⟩
    refine ⟨_, rfl, r, dxv, _, rfl, hrv', lrd_byte, _, rfl, _, rfl, r, a, cd, _, ck, _, _, rfl, hRv, hlast, by rw [eM]; omega, by rw [eM]; omega, hlen, fun Hu bu hRu => ?_⟩
    replace hrw : RulesAt Hu rd pl.rules := let ⟨kvs, h1, h2⟩ := hrw; ⟨kvs, bu _ _ rdr h1, Paired.mapP h2 fun _ _ z => z.mono (hRv.tup bu)⟩
    replace hpx := Paired.mapP hpx fun _ _ z => (hRv.tup bu) _ _ z
    replace hsx := hsx.mono fun o z => bu _ _ sar z
    replace hmx := hmx.mono fun o z => bu _ _ mar z
    replace hlx := bu _ _ rlr.1 hlx
    replace hfa := bu _ _ far hfa
    replace bx := bx.trans bu
    obtain ⟨⟨dxu, hru'⟩, hcu⟩ := hRu
    refine ⟨_, rfl, r, _, dxu, _, _, rfl, hru', cl, nat _ (by simp), lrd_place, _, rfl, a, _, rfl, .inl (SqL.of hcu), _, _, rfl, rfl, _, rfl, ?_⟩
    refine ite2 (fun h => ?_) (fun _ => ?_)
    · have := of_decide_eq_true h
      rw [List.length_map] at this
      omega
    -- the plan
    refine ⟨_, rfl, _, rfl, _, rfl, _, rfl, rl, _, rfl, .inl ⟨SqL.of hlx, fun ra nra => ?_⟩⟩
    have s14 := sameUpd (o := .tup (ras.map V.ref)) (Same.refl Hu) nra
    have hra := @upd_same Hu ra (.tup (ras.map V.ref))
    replace hpx := Paired.mapP hpx fun _ _ z => s14 _ _ z
    replace hsx := hsx.mono fun o z => s14 _ _ z
    replace hmx := hmx.mono fun o z => s14 _ _ z
    replace hfa := s14 _ _ hfa
    replace hrw : RulesAt (upd Hu ra (.tup (ras.map V.ref))) rd pl.rules := let ⟨kvs, h1, h2⟩ := hrw; ⟨kvs, s14 _ _ h1, Paired.mapP h2 fun _ _ z => z.mono fun _ _ e => s14 _ _ e⟩
    replace bx := bx.trans (.of s14)
    generalize upd Hu ra (.tup (ras.map V.ref)) = Ht at *
    refine ⟨_, rfl, ?_⟩
    intro x dx8 nx ndx8 ne8
    refine init_at (vs := [.ref sa, .ref ma, .ref fa, .ref ra, .ref rd]) rfl nx ndx8 fun H9 s15 ⟨dx9, hx9⟩ => ⟨rfl, ?_⟩
    have hP : PlanAt K H9 x pl := ⟨dx9, sa, ma, fa, ra, rd, ras, hx9, hsx.mono fun o z => s15 _ _ z, hmx.mono fun o z => s15 _ _ z, s15 _ _ hfa, s15 _ _ hra, Paired.mapP hpx fun _ _ z => s15 _ _ z, let ⟨kvs, h1, h2⟩ := hrw; ⟨kvs, s15 _ _ h1, Paired.mapP h2 fun _ _ z => z.mono fun _ _ e => s15 _ _ e⟩⟩
    refine ⟨x, pl, pl.rules, rfl, hP, wf, .refl _, so, fun H10 s16 => ?_⟩
    refine k H10 fun b o e => s16 _ _ (s15 _ _ (bx _ _ (ne_of_none e nr) (s1 _ _ e)))
end
end Sw

end

section
set_option maxRecDepth 100000
set_option maxHeartbeats 4000000
/-! the machine -/
namespace Sw
open PySem PySem.Spec PyProof.Rows L2 SwA
structure MachT (K : PySem.W.Frag) (mg : Str → Option Value) : Prop where
  lo : LoadT K mg
  isinstance : mg "isinstance" = none
  bool : mg "bool" = none
  REST : ∃ t, mg "REST" = some (.str "rest" t)
  is_int_in : DeT K mg "is_int_in" s_is_int_in
  replaced : DeT K mg "replaced" s_replaced
  state : MkC K mg "State" ["floor", "robots"]
  d_state : FD K ("State", some "__init__") "__init__" "State.__init__" s_State_init
  first_state : DeT K mg "first_state" s_first_state
  moved : DeT K mg "moved" s_moved
  act : DeT K mg "act" s_act
  tick : MkC K mg "Tick" ["swept", "words", "state"]
  d_tick : FD K ("Tick", some "__init__") "__init__" "Tick.__init__" s_Tick_init
  next_tick : DeT K mg "next_tick" s_next_tick
theorem MachT.it {K : PySem.W.Frag} {mg : Str → Option Value} (T : MachT K mg) : IntT K mg := ⟨T.isinstance, T.bool, T.lo.p.int, T.is_int_in⟩
section
variable {P : Program} {w : World} {K : PySem.W.Frag} {mg : Str → Option Value} {base : Heap}
theorem ok_is_int_in (T : MachT K mg) : FnE P w K mg base CX0 1 ("is_int_in", none) ["value", "low", "high"] (spIsIntIn K) := ok_int_in T.it
/-! ### replaced -/
def spReplaced (K : PySem.W.Frag) : Sp := fun vs H Q _ => ∃ (a : Addr) (i : Nat) (v : V) (xs : List V), vs = [.ref a, .int i, v] ∧ H a = some (.tup xs) ∧ i < xs.length ∧ xs.length ≤ 100000 ∧
  ∀ (b : Addr) (H' : Hp), Same H H' → H' b = some (.tup (xs.set i v)) → Q (.ref b) H'
theorem sc_replaced : FnScope ["values", "place", "value"] ["values", "place", "value"] (defScope s_replaced) := ⟨rfl, rfl, rfl, by decide +kernel, rfl, by decide +kernel, by decide +kernel⟩
theorem set_cut {xs : List V} {i : Nat} {v : V} (h : i < xs.length) : xs.set i v = xs.take i ++ (v :: xs.drop (i + 1)) := by
  rw [List.set_eq_take_append_cons_drop, if_pos h]
theorem ok_replaced (T : MachT K mg) : FnE P w K mg base CX0 1 ("replaced", none) ["values", "place", "value"] (spReplaced K) := by
  obtain ⟨fd, F⟩ := T.replaced.d
  refine ⟨fd, F.ok sc_replaced (fun vs H Q E h => ?_) (fun cdv A outer s H vs Q E hr h => ?_), F.bindsN fun _ _ _ _ _ _ us hl => match us, hl with | [_, _, _], _ => rfl, F.kp⟩
  · obtain ⟨a, i, v, xs, rfl, _⟩ := h
    rfl
  · obtain ⟨a, i, v, xs, rfl, ha, hi, hz, k⟩ := h
    refine ⟨_, PSs.nox (pss_one (ps_ret (pe_op op_catA (pe_op op_catA (pe_slice sl_tupA (pv 0) po_none (po_some (pv 1))) (pe_tup (pa_cons (pv 2) pa_nil))) (pe_slice sl_tupA (pv 0) (po_some (pe_op op_add (pv 1) pe_int)) po_none)))), ?_⟩
    have c1 : cutV xs none (some (i : Int)) = xs.take i := by
      show (xs.drop (HT.sIx xs.length 0 none)).take (HT.sIx xs.length xs.length (some (i : Int)) - HT.sIx xs.length 0 none) = xs.take i
      rw [HT.sIx_none, HT.sIx_nat, Nat.min_eq_left (by omega)]
      rfl
    have c2 : cutV xs (some ((i : Int) + 1)) none = xs.drop (i + 1) := by
      have e : ((i : Int) + 1) = ((i + 1 : Nat) : Int) := rfl
      rw [e]
      show (xs.drop (HT.sIx xs.length 0 (some ((i + 1 : Nat) : Int)))).take (HT.sIx xs.length xs.length none - HT.sIx xs.length 0 (some ((i + 1 : Nat) : Int))) = xs.drop (i + 1)
      rw [HT.sIx_none, HT.sIx_nat, Nat.min_eq_left (by omega)]
      exact List.take_of_length_le (by rw [List.length_drop]; omega)
    have w1 : ¬ (HT.sIx xs.length 0 none = 0 ∧ HT.sIx xs.length xs.length (some (i : Int)) = xs.length) := by
      rw [HT.sIx_nat]
      omega
    have w2 : ¬ (HT.sIx xs.length 0 (some ((i : Int) + 1)) = 0 ∧ HT.sIx xs.length xs.length none = xs.length) := by
      have e : ((i : Int) + 1) = ((i + 1 : Nat) : Int) := rfl
      rw [e, HT.sIx_nat]
      omega
    have es := set_cut (v := v) hi
    refine ⟨_, rfl, _, rfl, _, rfl, a, xs, rfl, SqT.of ha, fun q => absurd q w1, fun _ p1 n1 => ?_⟩
    rw [c1]
    have s1 := sameUpd (o := .tup (xs.take i)) (Same.refl H) n1
    refine ⟨_, rfl, (by show 1 ≤ sizeLine; decide), fun p2 n2 => ?_⟩
    have s2 := s1.trans (sameUpd (o := .tup [v]) (Same.refl _) n2)
    have e1 : (upd (upd H p1 (.tup (xs.take i))) p2 (.tup [v])) p1 = some (.tup (xs.take i)) := by rw [upd_ne (ne_of_none upd_same n2), upd_same]
    have lt : (xs.take i).length = i := by rw [List.length_take]; omega
    have ld : (xs.drop (i + 1)).length = xs.length - (i + 1) := List.length_drop
    -- the second sum, from a tuple of take i ++ [v]
    have fin : ∀ (q : Addr) (H3 : Hp), Same H H3 → H3 q = some (.tup (xs.take i ++ [v])) →
        tSl (rSlA K) (tVar 0) (tPart (tOp (rI0 fun i j => .int (i + j)) (tVar 1) (tC (.int 1)))) tNoPart [some (.ref a), some (.int i), some v] H3 fun y H2 => rCatA K (.ref q) y H2 Q := fun q H3 s3 hq => by
      refine ⟨_, rfl, _, rfl, _, _, rfl, rfl, _, rfl, a, xs, rfl, SqT.of (s3 _ _ ha), fun z => absurd z w2, fun _ p4 n4 => ?_⟩
      rw [c2]
      have s4 := sameUpd (o := .tup (xs.drop (i + 1))) (Same.refl H3) n4
      refine ⟨q, p4, _, _, rfl, rfl, SqT.of (s4 _ _ hq), SqT.of upd_same, ?_, fun z => ?_, fun _ z => ?_, fun _ z p5 n5 => ?_⟩
      · rw [List.length_append, lt, ld, sizeLine_eq]
        simp
        omega
      · exact absurd z (by simp)
      · refine k q _ (s3.trans s4) ?_
        rw [s4 _ _ hq, es, z]
      · refine k p5 _ ((s3.trans s4).trans (sameUpd (Same.refl _) n5)) ?_
        rw [upd_same, es, List.append_assoc]
        rfl
    refine ⟨p1, p2, _, _, rfl, rfl, SqT.of e1, SqT.of upd_same, ?_, fun z => ?_, fun _ z => ?_, fun z1 z2 p3 n3 => ?_⟩
    · rw [lt, sizeLine_eq]
      simp
      omega
    · refine fin p2 _ s2 ?_
      rw [upd_same, z]
      rfl
    · exact absurd z (by simp)
    · exact fin p3 _ (s2.trans (sameUpd (Same.refl _) n3)) upd_same
end
end Sw

end

section
set_option maxRecDepth 100000
set_option maxHeartbeats 4000000
/-! the machine: states, ticks -/
namespace Sw
open PySem PySem.Spec PyProof.Rows L2 SwA
def Rob3At (H : Hp) (a : Addr) (r : Rob) : Prop := H a = some (.tup [.int r.1, .bl r.2.1, .int r.2.2])
def StateAt (K : PySem.W.Frag) (H : Hp) (a : Addr) (st : MSt) : Prop := ∃ (dx fa ra : Addr) (ras : List Addr), H a = some (.ins (He.ga K "State") dx [("floor", .ref fa), ("robots", .ref ra)]) ∧
  H fa = some (.tup (st.floor.map iV)) ∧ H ra = some (.tup (ras.map V.ref)) ∧ Paired (Rob3At H) ras st.robots
theorem StateAt.same {K : PySem.W.Frag} {H H' : Hp} {a : Addr} {st : MSt} (s : Same H H') (h : StateAt K H a st) : StateAt K H' a st :=
  let ⟨dx, fa, ra, ras, e1, e2, e3, e4⟩ := h
  ⟨dx, fa, ra, ras, s _ _ e1, s _ _ e2, s _ _ e3, Paired.mapP e4 fun _ _ q => s _ _ q⟩
def TickAt (K : PySem.W.Frag) (H : Hp) (a : Addr) (tk : TickM) : Prop := ∃ (dx sw wo sa : Addr), H a = some (.ins (He.ga K "Tick") dx [("swept", .ref sw), ("words", .ref wo), ("state", .ref sa)]) ∧
  TupN H sw (tk.swept.map iV) ∧ H wo = some (.tup (tk.words.map sV)) ∧ StateAt K H sa tk.state
theorem TickAt.same {K : PySem.W.Frag} {H H' : Hp} {a : Addr} {tk : TickM} (s : Same H H') (h : TickAt K H a tk) : TickAt K H' a tk :=
  let ⟨dx, sw, wo, sa, e1, e2, e3, e4⟩ := h
  ⟨dx, sw, wo, sa, s _ _ e1, e2.mono fun _ z => s _ _ z, s _ _ e3, e4.same s⟩
theorem put_state (a b : V) : putF "robots" b (putF "floor" a []) = ([("floor", a), ("robots", b)] : List (Str × V)) := by kernel_rfl
theorem put_tick (a b c : V) : putF "state" c (putF "words" b (putF "swept" a [])) = ([("swept", a), ("words", b), ("state", c)] : List (Str × V)) := by kernel_rfl
theorem ls_floor {a b : V} : List.lookup ("floor" : Str) ([("floor", a), ("robots", b)] : List (Str × V)) = some a := by kernel_rfl
theorem ls_robots {a b : V} : List.lookup ("robots" : Str) ([("floor", a), ("robots", b)] : List (Str × V)) = some b := by kernel_rfl
theorem lt_swept {a b c : V} : List.lookup ("swept" : Str) ([("swept", a), ("words", b), ("state", c)] : List (Str × V)) = some a := by kernel_rfl
theorem lt_words {a b c : V} : List.lookup ("words" : Str) ([("swept", a), ("words", b), ("state", c)] : List (Str × V)) = some b := by kernel_rfl
theorem lt_state {a b c : V} : List.lookup ("state" : Str) ([("swept", a), ("words", b), ("state", c)] : List (Str × V)) = some c := by kernel_rfl
section
variable {P : Program} {w : World} {K : PySem.W.Frag} {mg : Str → Option Value} {base : Heap}
theorem sc_state : FnScope ["self", "floor", "robots"] ["self", "floor", "robots"] (defScope s_State_init) := ⟨rfl, rfl, rfl, by decide +kernel, rfl, by decide +kernel, by decide +kernel⟩
theorem ok_state (T : MachT K mg) : FnE P w K mg base CX0 1 ("State", some "__init__") ["self", "floor", "robots"] (spInit (He.ga K "State") ["floor", "robots"]) := by
  obtain ⟨fd, F⟩ := T.d_state
  refine ⟨fd, F.ok sc_state (fun vs H Q E h => ?_) (fun cdv A outer s H vs Q E hr h => ?_), F.bindsN fun _ _ _ _ _ _ us hl => match us, hl with | [_, _, _], _ => rfl, F.kp⟩
  · obtain ⟨a, dx, args, rfl, e, _⟩ := h
    simp [e]
  · obtain ⟨p, dx, args, rfl, e, hp, k⟩ := h
    obtain ⟨v1, v2, rfl⟩ : ∃ v1 v2, args = [v1, v2] := by
      match args, e with
      | [v1, v2], _ => exact ⟨v1, v2, rfl⟩
    refine ⟨_, PSs.nox (pss_cons (ps_fld (pv 0) (pv 1) rfl) (pss_one (ps_fld (pv 0) (pv 2) rfl))), ?_⟩
    refine ⟨_, rfl, _, rfl, p, _, dx, _, rfl, hp, T.state.c, T.state.n _ (by simp), lnZ ln0, ?_⟩
    refine ⟨_, rfl, _, rfl, p, _, dx, _, rfl, upd_same, T.state.c, T.state.n _ (by simp), lnZ (lnS ln0), ?_⟩
    refine k _ ?_ fun b hb => by rw [upd_ne hb, upd_ne hb]
    rw [upd_same, put_state]
    rfl
theorem sc_tick : FnScope ["self", "swept", "words", "state"] ["self", "swept", "words", "state"] (defScope s_Tick_init) := ⟨rfl, rfl, rfl, by decide +kernel, rfl, by decide +kernel, by decide +kernel⟩
theorem ok_tick (T : MachT K mg) : FnE P w K mg base CX0 1 ("Tick", some "__init__") ["self", "swept", "words", "state"] (spInit (He.ga K "Tick") ["swept", "words", "state"]) := by
  obtain ⟨fd, F⟩ := T.d_tick
  refine ⟨fd, F.ok sc_tick (fun vs H Q E h => ?_) (fun cdv A outer s H vs Q E hr h => ?_), F.bindsN fun _ _ _ _ _ _ us hl => match us, hl with | [_, _, _, _], _ => rfl, F.kp⟩
  · obtain ⟨a, dx, args, rfl, e, _⟩ := h
    simp [e]
  · obtain ⟨p, dx, args, rfl, e, hp, k⟩ := h
    obtain ⟨v1, v2, v3, rfl⟩ : ∃ v1 v2 v3, args = [v1, v2, v3] := by
      match args, e with
      | [v1, v2, v3], _ => exact ⟨v1, v2, v3, rfl⟩
    refine ⟨_, PSs.nox (pss_cons (ps_fld (pv 0) (pv 1) rfl) (pss_cons (ps_fld (pv 0) (pv 2) rfl) (pss_one (ps_fld (pv 0) (pv 3) rfl)))), ?_⟩
    refine ⟨_, rfl, _, rfl, p, _, dx, _, rfl, hp, T.tick.c, T.tick.n _ (by simp), lnZ ln0, ?_⟩
    refine ⟨_, rfl, _, rfl, p, _, dx, _, rfl, upd_same, T.tick.c, T.tick.n _ (by simp), lnZ (lnS ln0), ?_⟩
    refine ⟨_, rfl, _, rfl, p, _, dx, _, rfl, upd_same, T.tick.c, T.tick.n _ (by simp), lnZ (lnS (lnS ln0)), ?_⟩
    refine k _ ?_ fun b hb => by rw [upd_ne hb, upd_ne hb, upd_ne hb]
    rw [upd_same, put_tick]
    rfl
/-! ### moved -/
def spMoved : Sp := fun vs H Q _ => ∃ (tile tiles : Nat) (right : Bool), vs = [.int tile, .bl right, .int tiles] ∧ tile < tiles ∧
  ∀ (b : Addr) (H' : Hp), Same H H' → H' b = some (.tup [.int (movedM tile right tiles).1, .bl (movedM tile right tiles).2]) → Q (.ref b) H'
theorem sc_moved : FnScope ["tile", "is_right", "tiles", "later"] ["tile", "is_right", "tiles"] (defScope s_moved) := ⟨rfl, rfl, rfl, by decide +kernel, rfl, by decide +kernel, by decide +kernel⟩
theorem ok_moved (T : MachT K mg) : FnE P w K mg base CX0 1 ("moved", none) ["tile", "is_right", "tiles"] spMoved := by
  obtain ⟨fd, F⟩ := T.moved.d
  refine ⟨fd, F.ok sc_moved (fun vs H Q E h => ?_) (fun cdv A outer s H vs Q E hr h => ?_), F.bindsN fun _ _ _ _ _ _ us hl => match us, hl with | [_, _, _], _ => rfl, F.kp⟩
  · obtain ⟨tile, tiles, right, rfl, _⟩ := h
    rfl
  · obtain ⟨tile, tiles, right, rfl, ht, k⟩ := h
    refine ⟨_, PSs.nox (pss_cons (ps_set (i := 3) sc_moved.nd rfl (.inl rfl) (pe_ifExp (pt_val (pv 1)) (pe_op op_add (pv 0) pe_int) (pe_op op_sub (pv 0) pe_int)))
      (pss_one (ps_ret (pe_ifExp (pt_chain op_le op_lt pe_int (pv 3) (pv 2)) (pe_tup (pa_cons (pv 3) (pa_cons (pv 1) pa_nil))) (pe_tup (pa_cons (pv 0) (pa_cons (pe_not (pv 1)) pa_nil))))))), ?_⟩
    have fin : ∀ (x y : V), V.int (movedM tile right tiles).1 = x → V.bl (movedM tile right tiles).2 = y → ∀ p, H p = none → Q (.ref p) (upd H p (.tup [x, y])) := fun x y e1 e2 p np => by
      refine k p _ (sameUpd (Same.refl H) np) ?_
      rw [upd_same, e1, e2]
    cases right with
    | true =>
      refine ⟨_, rfl, _, rfl, ?_⟩
      refine ⟨_, rfl, _, _, rfl, rfl, ?_⟩
      refine ⟨_, rfl, _, _, rfl, rfl, _, rfl, ?_⟩
      refine ite2 (fun h => ?_) (fun h => ?_)
      · refine ⟨_, rfl, _, _, rfl, rfl, _, rfl, ?_⟩
        refine ite2 (fun h2 => ?_) (fun h2 => ?_)
        · have h2 : ((tile : Int) + 1) < tiles := of_decide_eq_true h2
          exact ⟨_, rfl, _, rfl, (by show 2 ≤ sizeLine; decide), fin _ _ (by simp only [movedM, if_pos (show tile + 1 < tiles by omega)]; rfl) (by simp only [movedM, if_pos (show tile + 1 < tiles by omega)]; rfl)⟩
        · have h2 : ¬ ((tile : Int) + 1) < tiles := fun q => h2 (decide_eq_true q)
          exact ⟨_, rfl, _, rfl, _, rfl, (by show 2 ≤ sizeLine; decide), fin _ _ (by simp only [movedM, if_neg (show ¬ tile + 1 < tiles by omega)]; rfl) (by simp only [movedM, if_neg (show ¬ tile + 1 < tiles by omega)]; rfl)⟩
      · exfalso
        exact h (decide_eq_true (by omega))
    | false =>
      refine ⟨_, rfl, _, rfl, ?_⟩
      refine ⟨_, rfl, _, _, rfl, rfl, ?_⟩
      refine ⟨_, rfl, _, _, rfl, rfl, _, rfl, ?_⟩
      refine ite2 (fun h => ?_) (fun h => ?_)
      · have h : (0 : Int) ≤ (tile : Int) - 1 := of_decide_eq_true h
        refine ⟨_, rfl, _, _, rfl, rfl, _, rfl, ?_⟩
        refine ite2 (fun h2 => ?_) (fun h2 => ?_)
        · refine ⟨_, rfl, _, rfl, (by show 2 ≤ sizeLine; decide), fin _ _ ?_ ?_⟩
          · simp only [movedM, if_pos (show 0 < tile by omega)]
            show V.int ((tile - 1 : Nat) : Int) = V.int ((tile : Int) - 1)
            congr 1
            omega
          · simp only [movedM, if_pos (show 0 < tile by omega)]
            rfl
        · exfalso
          exact h2 (decide_eq_true (by omega))
      · have h : ¬ (0 : Int) ≤ (tile : Int) - 1 := fun q => h (decide_eq_true q)
        refine ⟨_, rfl, ?_⟩
        refine iteF ⟨_, rfl, _, rfl, _, rfl, (by show 2 ≤ sizeLine; decide), fin _ _ ?_ ?_⟩
        · simp only [movedM, if_neg (show ¬ 0 < tile by omega)]; rfl
        · simp only [movedM, if_neg (show ¬ 0 < tile by omega)]; rfl
end
end Sw

end

section
set_option maxRecDepth 100000
set_option maxHeartbeats 4000000
/-! the machine: first_state, act, next_tick -/
namespace Sw
open PySem PySem.Spec PyProof.Rows L2 SwA
section
variable {P : Program} {w : World} {K : PySem.W.Frag} {mg : Str → Option Value} {base : Heap}
def spFirstState (K : PySem.W.Frag) : Sp := fun vs H Q _ => ∃ (pa : Addr) (pl : Plan), vs = [.ref pa] ∧ PlanAt K H pa pl ∧ pl.robots.length ≤ 100000 ∧ ∀ (b : Addr) (H' : Hp), H b = none → Same H H' → StateAt K H' b (firstM pl) → Q (.ref b) H'
abbrev fsN : List Str := ["parsed", "tile", "is_right"]
theorem sc_first_state : FnScope fsN ["parsed"] (defScope s_first_state) := ⟨rfl, rfl, rfl, by decide +kernel, rfl, by decide +kernel, by decide +kernel⟩
theorem ok_first_state (T : MachT K mg) : FnE P w K mg base CX0 3 ("first_state", none) ["parsed"] (spFirstState K) := by
  obtain ⟨fd, F⟩ := T.first_state.d
  obtain ⟨fdS, GS, bS, kS⟩ := ok_state (P := P) (w := w) (base := base) T
  refine ⟨fd, F.ok sc_first_state (fun vs H Q E h => ?_) (fun cdv A outer s H vs Q E hr h => ?_), F.bindsN fun _ _ _ _ _ _ us hl => match us, hl with | [_], _ => rfl, F.kp⟩
  · obtain ⟨pa, pl, rfl, _⟩ := h
    rfl
  · obtain ⟨pa, pl, rfl, hp, hz, k⟩ := h
    refine ⟨_, PSs.nox (pss_one (ps_ret (pe_make T.state.m GS hr rfl T.state.g bS .nil pass0 (pa_cons (pe_fld (pv 0) rfl) (pa_cons (pe_callTy call_tuple_of (by rfl) T.lo.p.tuple (by decide +kernel) (pa_cons
      (pe_lc (own := [("tile", 1), ("is_right", 2)]) (g := gTup K 2 (gCons (gName 1) (gCons (gName 2) gNil))) (tt := tYes) (te := tTup (tCons (tVar 1) (tCons (tVar 2) (tCons (tC (.int 0)) tNil)))) rfl sc_first_state.nd (pi_tup (pe_fld (pv 0) rfl))
        (blkOk_by (own := [("tile", 1), ("is_right", 2)]) (N := fsN) (sc := defScope s_first_state) (by decide +kernel))
        (fun _ _ _ _ _ => pg_tup rfl (pgs_cons (pg_name (i := 1) sc_first_state.nd rfl (Or.inl rfl)) (pgs_cons (pg_name (i := 2) sc_first_state.nd rfl (Or.inl rfl)) pgs_nil))) (fun _ _ _ _ _ => pts_nil)
        (fun _ _ _ _ _ => pe_tup (pa_cons (pv 1) (pa_cons (pv 2) (pa_cons pe_int pa_nil))))) pa_nil)) pa_nil))))), ?_⟩
    obtain ⟨dx, sa, ma, fa, ra, rd, ras, e1, e2, e3, e4, e5, e6, e7⟩ := hp
    refine ⟨_, rfl, pa, _, dx, _, _, rfl, e1, T.lo.plan.c, T.lo.plan.n _ (by simp), lpl_floor, _, rfl, pa, _, dx, _, _, rfl, e1, T.lo.plan.c, T.lo.plan.n _ (by simp), lpl_robots, ra, rfl, ⟨_, SqT.of e5⟩, fun D nD => ?_⟩
    refine lc_tup (K := K) (a := ra) (xs := ras.map V.ref) (vs := [1, 2]) (fun i H2 => ∃ bs : List Addr, H2 D = some (.lst (bs.map V.ref)) ∧ Same H H2 ∧ Paired (Rob3At H2) bs (((pl.robots.take i).map fun r => (r.1, r.2, 0)))) ⟨[], upd_same, sameUpd (Same.refl H) nD, .nil⟩ (fun i H2 _ ⟨_, _, sm, _⟩ => SqT.of (sm _ _ e5)) ?_ ?_
    · rintro i x H2 hx ⟨bs, hD, sm, hbs⟩
      rw [List.getElem?_map] at hx
      cases hai : ras[i]? with
      | none => rw [hai] at hx; cases hx
      | some ai =>
        rw [hai] at hx
        cases hx
        obtain ⟨ri, hri, hrob⟩ := Paired_idx e6 hai
        refine ⟨ai, _, rfl, SqT.of (sm _ _ hrob), rfl, _, _, rfl, _, _, rfl, rfl, rfl, _, rfl, _, rfl, (by show 3 ≤ sizeLine; decide), fun tu ntu => ?_⟩
        have s2 := sameUpd (o := .tup [.int ri.1, .bl ri.2, .int 0]) (Same.refl H2) ntu
        refine ⟨bs.map V.ref, s2 _ _ hD, ?_, bs ++ [tu], by rw [upd_same, List.map_append]; rfl, sameUpd (sm.trans s2) nD, ?_⟩
        · rw [List.length_map, hbs.length, List.length_map, List.length_take, sizeLine_eq]
          omega
        · rw [List.take_succ, hri, List.map_append]
          have kt := keepT (o' := .lst (bs.map V.ref ++ [.ref tu])) (s2 _ _ hD) (fun xs q => by cases q)
          exact Paired_snoc (Paired.mapP hbs fun a r q => kt _ _ (s2 _ _ q)) (kt _ _ upd_same)
    · rintro H2 ⟨bs, hD, sm, hbs⟩
      rw [List.length_map, e6.length, List.take_length] at hbs
      refine ⟨D, _, rfl, .inl ⟨SqL.of hD, fun rt nrt => ?_⟩⟩
      have s3 := sameUpd (o := .tup (bs.map V.ref)) (Same.refl H2) nrt
      intro x dx0 nx ndx ne0
      refine init_at (names := ["floor", "robots"]) rfl nx ndx fun H4 sm4 hx => ⟨rfl, ?_⟩
      obtain ⟨ds, hds⟩ := hx
      have sA := (sm.trans s3).trans sm4
      refine k x H4 ((sm.trans s3).free nx) sA ⟨ds, fa, rt, bs, hds, sA _ _ e4, sm4 _ _ upd_same, Paired.mapP hbs fun a r q => sm4 _ _ (s3 _ _ q)⟩
/-! ### act -/
def spAct (K : PySem.W.Frag) : Sp := fun vs H Q _ => ∃ (pa sa : Addr) (i n m : Nat) (pl : Plan) (st : MSt), vs = [.ref pa, .ref sa, .int i] ∧ PlanAt K H pa pl ∧ StateAt K H sa st ∧ WfM n m st ∧ i < m ∧ n ≤ 1000 ∧ m ≤ 1000 ∧
  ∀ (b sb : Addr) (H' : Hp), Same H H' → H' b = some (.tup [sV (actM pl.rules st i).1, .ref sb]) → StateAt K H' sb (actM pl.rules st i).2 → Q (.ref b) H'
abbrev acN : List Str := ["parsed", "state", "number", "tile", "is_right", "mood", "sign", "left", "move", "later", "floor"]
theorem sc_act : FnScope acN ["parsed", "state", "number"] (defScope s_act) := ⟨rfl, rfl, rfl, by decide +kernel, rfl, by decide +kernel, by decide +kernel⟩
theorem e_rest : ("rest" : Str) = sx wRest := by decide +kernel
theorem e_on : ("on" : Str) = sx wOn := by decide +kernel
theorem e_back : ("back" : Str) = sx wBack := by decide +kernel
theorem Paired_set {α β : Type} {F : α → β → Prop} {a : α} {b : β} (h : F a b) : ∀ {l : List α} {m : List β} (i : Nat), Paired F l m → Paired F (l.set i a) (m.set i b)
  | _, _, _, .nil => .nil
  | _, _, 0, .cons x r => .cons h r
  | _, _, i + 1, .cons x r => .cons x (Paired_set h i r)
theorem ok_act (T : MachT K mg) : FnE P w K mg base CX0 3 ("act", none) ["parsed", "state", "number"] (spAct K) := by
  obtain ⟨fd, F⟩ := T.act.d
  obtain ⟨fdS, GS, bS, kS⟩ := ok_state (P := P) (w := w) (base := base) T
  obtain ⟨fdR, GR, bR, kR⟩ := ok_replaced (P := P) (w := w) (base := base) T
  obtain ⟨fdM, GM, bM, kM⟩ := ok_moved (P := P) (w := w) (base := base) T
  obtain ⟨t1, mREST⟩ := T.REST
  refine ⟨fd, F.ok sc_act (fun vs H Q E h => ?_) (fun cdv A outer s H vs Q E hr h => ?_), F.bindsN fun _ _ _ _ _ _ us hl => match us, hl with | [_, _, _], _ => rfl, F.kp⟩
  · obtain ⟨pa, sa, i, n, m, pl, st, rfl, _⟩ := h
    rfl
  · obtain ⟨pa, sa, i, n, m, pl, st, rfl, hp, hst, hw, hi, hn, hm, k⟩ := h
    have hr1 : Room 1 _ := hr.mono (by decide)
    have hu := hu_of hr
    refine ⟨_, PSs.nox (pss_cons (ps_asg (pe_ix ix_tup (pe_fld (pv 1) rfl) (pv 2) (fun _ _ => rfl)) (pg_tup rfl (pgs_cons (pg_name (i := 3) sc_act.nd rfl (.inl rfl)) (pgs_cons (pg_name (i := 4) sc_act.nd rfl (.inl rfl)) (pgs_cons (pg_name (i := 5) sc_act.nd rfl (.inl rfl)) pgs_nil)))))
      (pss_cons (ps_set (i := 6) sc_act.nd rfl (.inl rfl) (pe_ix ix_tup (pe_fld (pv 1) rfl) (pv 3) (fun _ _ => rfl)))
      (pss_cons (ps_if (pt_cmp (pc_dnotin hu (pe_tup (pa_cons (pv 5) (pa_cons (pv 6) pa_nil))) (pe_fld (pv 0) rfl)))
        (pss_one (ps_ret (pe_tup (pa_cons (pe_glob (v := .str "rest") rfl mREST ⟨_, rfl⟩) (pa_cons (pv 1) pa_nil))))) pss_nil)
      (pss_cons (ps_asg (pe_dget hu (pe_fld (pv 0) rfl) (pe_tup (pa_cons (pv 5) (pa_cons (pv 6) pa_nil))) (fun _ _ => rfl)) (pg_tup rfl (pgs_cons (pg_name (i := 7) sc_act.nd rfl (.inl rfl)) (pgs_cons (pg_name (i := 8) sc_act.nd rfl (.inl rfl)) (pgs_cons (pg_name (i := 9) sc_act.nd rfl (.inl rfl)) pgs_nil)))))
      (pss_cons (ps_set (i := 10) sc_act.nd rfl (.inl rfl) (pe_call GR hr1 rfl T.replaced.g kR bR .nil pass0 (pa_cons (pe_fld (pv 1) rfl) (pa_cons (pv 3) (pa_cons (pv 7) pa_nil)))))
      (C8.pss_cut (ps_match (pv 8)
        (pms_str (pss_one (ps_asg (pe_call GM hr1 rfl T.moved.g kM bM .nil pass0 (pa_cons (pv 3) (pa_cons (pv 4) (pa_cons (pe_callB call_len_seq (by rfl) T.lo.p.l.len boot_len (pa_cons (pv 10) pa_nil)) pa_nil))))
            (pg_tup rfl (pgs_cons (pg_name (i := 3) sc_act.nd rfl (.inl rfl)) (pgs_cons (pg_name (i := 4) sc_act.nd rfl (.inl rfl)) pgs_nil)))))
        (pms_str (pss_one (ps_asg (pe_call GM hr1 rfl T.moved.g kM bM .nil pass0 (pa_cons (pv 3) (pa_cons (pe_not (pv 4)) (pa_cons (pe_callB call_len_seq (by rfl) T.lo.p.l.len boot_len (pa_cons (pv 10) pa_nil)) pa_nil))))
            (pg_tup rfl (pgs_cons (pg_name (i := 3) sc_act.nd rfl (.inl rfl)) (pgs_cons (pg_name (i := 4) sc_act.nd rfl (.inl rfl)) pgs_nil))))) pms_nil)))
      (pss_one (ps_ret (pe_tup (pa_cons (pv 8) (pa_cons (pe_make T.state.m GS hr rfl T.state.g bS .nil pass0 (pa_cons (pv 10) (pa_cons (pe_call GR hr1 rfl T.replaced.g kR bR .nil pass0 (pa_cons (pe_fld (pv 1) rfl) (pa_cons (pv 2)
        (pa_cons (pe_tup (pa_cons (pv 3) (pa_cons (pv 4) (pa_cons (pv 9) pa_nil)))) pa_nil)))) pa_nil))) pa_nil))))))))))), ?_⟩
    obtain ⟨dx, sga, moa, fla, rba, rda, rbs, p1, p2, p3, p4, p5, p6, kvs, p7, p8⟩ := hp
    obtain ⟨ds, fa, ra, ras, q1, q2, q3, q4⟩ := id hst
    have hlr : st.robots.length = m := hw.ro
    have hir : i < st.robots.length := by omega
    obtain ⟨⟨tile, right, mood⟩, hrob⟩ : ∃ r, st.robots[i] = r := ⟨_, rfl⟩
    have er : st.robots[i]? = some (tile, right, mood) := by rw [List.getElem?_eq_getElem hir, hrob]
    have hai : i < ras.length := by rw [q4.length]; exact hir
    have ear : ras[i]? = some ras[i] := List.getElem?_eq_getElem hai
    have hri : Rob3At H ras[i] (tile, right, mood) := Paired_get q4 ear er
    have htl : tile < st.floor.length := by rw [hw.fl]; exact hw.ti _ (List.mem_of_getElem? er)
    have efl : st.floor[tile]? = some (st.floor.getD tile 0) := by rw [List.getD_eq_getElem?_getD, List.getElem?_eq_getElem htl]; rfl
    refine ⟨_, rfl, sa, _, ds, _, _, rfl, q1, T.state.c, T.state.n _ (by simp), ls_robots, _, rfl, ra, _, _, _, rfl, rfl, SqT.of q3, atI_nat (by rw [List.getElem?_map, ear]; rfl), ras[i], _, rfl, SqT.of hri, rfl, _, _, rfl, _, _, rfl, _, _, rfl, rfl, ?_⟩
    refine ⟨_, rfl, sa, _, ds, _, _, rfl, q1, T.state.c, T.state.n _ (by simp), ls_floor, _, rfl, fa, _, _, _, rfl, rfl, SqT.of q2, atI_nat (by rw [List.getElem?_map, efl]; rfl), ?_⟩
    generalize hsign : st.floor.getD tile 0 = sign at *
    obtain ⟨g1, g2⟩ := rules_get (k := (mood, sign)) p8
    refine ⟨_, rfl, _, rfl, (by show 2 ≤ sizeLine; decide), fun tk ntk => ?_⟩
    have s1 := sameUpd (o := .tup [.int mood, .int sign]) (Same.refl H) ntk
    refine ⟨_, rfl, pa, _, dx, _, _, rfl, s1 _ _ p1, T.lo.plan.c, T.lo.plan.n _ (by simp), lpl_rules, rda, _, rfl, DGet.t (k := keyT (mood, sign)) (s1 _ _ p7) upd_same, _, rfl, ?_⟩
    cases hget : getA pl.rules (mood, sign) with
    | none =>
      rw [g1 hget]
      refine iteT ?_
      have ea : actM pl.rules st i = (wRest, st) := by simp only [actM, er, hsign, hget]
      refine ⟨_, rfl, (by show 2 ≤ sizeLine; decide), fun b nb => ?_⟩
      have s2 := s1.trans (sameUpd (o := .tup [.str "rest", .ref sa]) (Same.refl _) nb)
      refine k b sa _ s2 ?_ ?_
      · rw [upd_same, ea, e_rest]
      · rw [ea]
        exact hst.same s2
    | some r =>
      obtain ⟨t, g3, g4⟩ := g2 r hget
      rw [g3]
      refine iteF ?_
      refine ⟨_, rfl, pa, _, dx, _, _, rfl, s1 _ _ p1, T.lo.plan.c, T.lo.plan.n _ (by simp), lpl_rules, _, rfl, _, rfl, (by show 2 ≤ sizeLine; decide), fun tk2 ntk2 => ?_⟩
      have s2 := s1.trans (sameUpd (o := .tup [.int mood, .int sign]) (Same.refl _) ntk2)
      refine ⟨rda, _, rfl, ?_, t, _, rfl, SqT.of (s2 _ _ g4), rfl, _, _, rfl, _, _, rfl, _, _, rfl, rfl, ?_⟩
      · have z := DGet.t (k := keyT (mood, sign)) (s2 _ _ p7) (@upd_same (upd H tk (.tup [.int mood, .int sign])) tk2 (.tup [.int mood, .int sign]))
        rw [g3] at z
        exact z
      have q1' := s2 _ _ q1
      have q2' := s2 _ _ q2
      have q3' := s2 _ _ q3
      have q4' : Paired (Rob3At (upd (upd H tk (.tup [.int mood, .int sign])) tk2 (.tup [.int mood, .int sign]))) ras st.robots := Paired.mapP q4 fun a r q => s2 _ _ q
      generalize (upd (upd H tk (.tup [.int mood, .int sign])) tk2 (.tup [.int mood, .int sign])) = H2 at *
      refine ⟨_, rfl, sa, _, ds, _, _, rfl, q1', T.state.c, T.state.n _ (by simp), ls_floor, _, rfl, _, rfl, fa, tile, .int r.left, _, rfl, q2', by rw [List.length_map]; exact htl, by rw [List.length_map, hw.fl]; omega, fun fb H3 s3 hfb => ?_⟩
      have efb : (st.floor.map iV).set tile (.int r.left) = (st.floor.set tile r.left).map iV := by rw [List.map_set]
      rw [efb] at hfb
      have gm := goM_lt (move := r.move) (right := right) htl
      generalize hgo : goM r.move tile right st.floor.length = go at *
      have ea : actM pl.rules st i = (r.move, ⟨st.floor.set tile r.left, st.robots.set i (go.1, go.2, r.later)⟩) := by simp only [actM, er, hsign, hget, hgo]
      refine ⟨fun σ' H' => σ' = [some (.ref pa), some (.ref sa), some (.int i), some (.int go.1), some (.bl go.2), some (.int mood), some (.int sign), some (.int r.left), some (sV r.move), some (.int r.later), some (.ref fb)] ∧ Same H3 H', ?_, ?_⟩
      · refine ⟨_, rfl, _, rfl, fun z => ?_, fun z => ?_⟩
        · have z : r.move = wOn := sx_inj (by rw [← e_on]; exact z)
          refine ⟨_, rfl, _, rfl, _, rfl, fb, _, rfl, .inr (SqT.of hfb), tile, st.floor.length, right, by simp, htl, fun b H4 s4 hb => ?_⟩
          refine ⟨b, _, rfl, SqT.of hb, rfl, _, _, rfl, _, _, rfl, rfl, ?_, s4⟩
          have e : movedM tile right st.floor.length = go := by rw [← hgo]; simp only [goM, if_pos z]
          rw [e]
          rfl
        · have z1 : ¬ r.move = wOn := fun y => z (by rw [y, e_on])
          refine ⟨_, rfl, fun z => ?_, fun z => ?_⟩
          · have z : r.move = wBack := sx_inj (by rw [← e_back]; exact z)
            refine ⟨_, rfl, _, rfl, _, rfl, _, rfl, fb, _, rfl, .inr (SqT.of hfb), tile, st.floor.length, !right, by simp, htl, fun b H4 s4 hb => ?_⟩
            refine ⟨b, _, rfl, SqT.of hb, rfl, _, _, rfl, _, _, rfl, rfl, ?_, s4⟩
            have e : movedM tile (!right) st.floor.length = go := by rw [← hgo]; simp only [goM, if_neg z1, if_pos z]
            rw [e]
            rfl
          · have z2 : ¬ r.move = wBack := fun y => z (by rw [y, e_back])
            refine ⟨?_, Same.refl _⟩
            have e : (tile, right) = go := by rw [← hgo]; simp only [goM, if_neg z1, if_neg z2]
            rw [← e]
            rfl
      · rintro σ' H4 ⟨rfl, s4⟩
        have s34 := s3.trans s4
        refine ⟨_, rfl, _, rfl, _, rfl, sa, _, ds, _, _, rfl, s34 _ _ q1', T.state.c, T.state.n _ (by simp), ls_robots, _, rfl, _, rfl, _, rfl, _, rfl, (by show 3 ≤ sizeLine; decide), fun tr ntr => ?_⟩
        have s5 := s34.trans (sameUpd (o := .tup [.int go.1, .bl go.2, .int r.later]) (Same.refl _) ntr)
        refine ⟨ra, i, .ref tr, _, rfl, s5 _ _ q3', by rw [List.length_map, q4.length]; exact hir, by rw [List.length_map, q4.length]; omega, fun rb H6 s6 hrb => ?_⟩
        have erb : (ras.map V.ref).set i (.ref tr) = (ras.set i tr).map V.ref := by rw [List.map_set]
        rw [erb] at hrb
        intro x dx0 nx ndx ne0
        refine init_at (names := ["floor", "robots"]) rfl nx ndx fun H7 sm7 hx => ⟨rfl, ?_⟩
        obtain ⟨d7, hd7⟩ := hx
        refine ⟨(by show 2 ≤ sizeLine; decide), fun b nb => ?_⟩
        have sfin := sameUpd (o := .tup [sV r.move, .ref x]) (Same.refl H7) nb
        have s47 : Same H4 H7 := ((sameUpd (o := .tup [.int go.1, .bl go.2, .int r.later]) (Same.refl H4) ntr).trans s6).trans sm7
        refine k b x _ ((s2.trans ((s34.trans s47))).trans sfin) (by rw [upd_same, ea]) ?_
        rw [ea]
        refine StateAt.same sfin ⟨d7, fb, rb, ras.set i tr, hd7, s47 _ _ (s4 _ _ hfb), sm7 _ _ hrb, ?_⟩
        refine Paired_set ?_ i (Paired.mapP q4' fun a r q => s47 _ _ (s34 _ _ q))
        exact sm7 _ _ (s6 _ _ upd_same)
end
end Sw

end

section
set_option maxRecDepth 100000
set_option maxHeartbeats 4000000
/-! what a plan's rules keep: named moods, named signs -/
namespace Sw
open PySem PySem.Spec PyProof.Rows L2 SwA
/-- moods that are named, signs that are named -/
def MoS (m : Nat) (st : MSt) : Prop := ∀ r ∈ st.robots, r.2.2 < m
def LaOk (m : Nat) (rules : List ((Nat × Nat) × Rule)) : Prop := ∀ k r, getA rules k = some r → r.later < m
def RuOk (g : Nat) (rules : List ((Nat × Nat) × Rule)) : Prop := ∀ k r, getA rules k = some r → r.left < g
def MvOk (rules : List ((Nat × Nat) × Rule)) : Prop := ∀ k r, getA rules k = some r → r.move ∈ moves
theorem get_ok {pl : Plan} (h : WfP pl) {k : Nat × Nat} {r : Rule} (e : getA pl.rules k = some r) : RuleOk pl.signs.length pl.moods.length (k, r) := by
  unfold getA at e
  cases hf : pl.rules.find? (fun q => decide (q.1 = k)) with
  | none => rw [hf] at e; cases e
  | some q =>
    rw [hf] at e
    cases e
    have e1 : q.1 = k := by
      have := List.find?_some hf
      exact of_decide_eq_true this
    have := h.ru q (List.mem_of_find?_eq_some hf)
    rw [← e1]
    exact this
theorem laOk {pl : Plan} (h : WfP pl) : LaOk pl.moods.length pl.rules := fun _ _ e => (get_ok h e).la
theorem ruOk {pl : Plan} (h : WfP pl) : RuOk pl.signs.length pl.rules := fun _ _ e => (get_ok h e).l
theorem mvOk {pl : Plan} (h : WfP pl) : MvOk pl.rules := fun _ _ e => (get_ok h e).mv
theorem act_mo {m : Nat} {rules : List ((Nat × Nat) × Rule)} {st : MSt} {k : Nat} (hr : LaOk m rules) (h : MoS m st) : MoS m (actM rules st k).2 := by
  unfold actM
  split
  · exact h
  · split
    · exact h
    · rename_i r hr2
      intro x hx
      rcases List.mem_or_eq_of_mem_set hx with z | z
      · exact h x z
      · rw [z]
        exact hr _ _ hr2
theorem acts_mo {m : Nat} {rules : List ((Nat × Nat) × Rule)} {st : MSt} (hr : LaOk m rules) (h : MoS m st) : ∀ k, MoS m (actsM rules st k).2
  | 0 => h
  | k + 1 => act_mo hr (acts_mo hr h k)
theorem act_si {g : Nat} {rules : List ((Nat × Nat) × Rule)} {st : MSt} {k : Nat} (hr : RuOk g rules) (h : ∀ x ∈ st.floor, x < g) : ∀ x ∈ (actM rules st k).2.floor, x < g := by
  unfold actM
  split
  · exact h
  · split
    · exact h
    · rename_i r hr2
      intro x hx
      rcases List.mem_or_eq_of_mem_set hx with z | z
      · exact h x z
      · rw [z]
        exact hr _ _ hr2
theorem acts_si {g : Nat} {rules : List ((Nat × Nat) × Rule)} {st : MSt} (hr : RuOk g rules) (h : ∀ x ∈ st.floor, x < g) : ∀ k, ∀ x ∈ (actsM rules st k).2.floor, x < g
  | 0 => h
  | k + 1 => act_si hr (acts_si hr h k)
end Sw

end

section
set_option maxRecDepth 100000
set_option maxHeartbeats 4000000
/-! the story of a plan: the states one after another, until one comes again -/
namespace Sw
open PySem PySem.Spec PyProof.Rows L2 SwA
/-- the state before tick k -/
def stN (pl : Plan) : Nat → MSt
  | 0 => firstM pl
  | k + 1 => (nextM pl.rules (stN pl k)).state
/-- tick k -/
def tkN (pl : Plan) (k : Nat) : TickM := nextM pl.rules (stN pl k)
theorem tk_state (pl : Plan) (k : Nat) : (tkN pl k).state = stN pl (k + 1) := rfl
theorem first_wf {pl : Plan} (h : ∀ r ∈ pl.robots, r.1 < pl.floor.length) : WfM pl.floor.length pl.robots.length (firstM pl) :=
  ⟨rfl, List.length_map _, fun r hr => by obtain ⟨q, hq, rfl⟩ := List.mem_map.mp hr; exact h q hq⟩
theorem st_wf {pl : Plan} (h : ∀ r ∈ pl.robots, r.1 < pl.floor.length) : ∀ k, WfM pl.floor.length pl.robots.length (stN pl k)
  | 0 => first_wf h
  | k + 1 => (st_wf h k).next
theorem st_mo {pl : Plan} (h : WfP pl) : ∀ k, MoS pl.moods.length (stN pl k)
  | 0 => fun r hr => by
    obtain ⟨q, hq, rfl⟩ := List.mem_map.mp hr
    exact List.length_pos_iff.mpr h.m1
  | k + 1 => acts_mo (laOk h) (st_mo h k) _
theorem st_si {pl : Plan} (h : WfP pl) : ∀ k, ∀ x ∈ (stN pl k).floor, x < pl.signs.length
  | 0 => h.fl
  | k + 1 => acts_si (ruOk h) (st_si h k) _
/-- n ticks are told, all repeats from s on -/
structure Rep (f : Nat → MSt) (n s : Nat) : Prop where
  lt : s < n
  eq : f n = f s
  nd : ∀ i j, i < j → j < n → f i ≠ f j
/-- the index of tick t among the told ones -/
def foldT (n s t : Nat) : Nat := if t < n then t else s + (t - s) % (n - s)
theorem foldT_lt {n s t : Nat} (h : s < n) : foldT n s t < n := by
  unfold foldT
  split
  · assumption
  · have := Nat.mod_lt (t - s) (show n - s > 0 by omega)
    omega
theorem st_step {pl : Plan} {i j : Nat} (h : stN pl i = stN pl j) : stN pl (i + 1) = stN pl (j + 1) := by
  show (nextM pl.rules (stN pl i)).state = (nextM pl.rules (stN pl j)).state
  rw [h]
theorem st_add {pl : Plan} {i j : Nat} (h : stN pl i = stN pl j) : ∀ d, stN pl (i + d) = stN pl (j + d)
  | 0 => h
  | d + 1 => st_step (st_add h d)
theorem st_mul {pl : Plan} {n s : Nat} (h : Rep (stN pl) n s) (d : Nat) : ∀ k, stN pl (s + d + (n - s) * k) = stN pl (s + d)
  | 0 => rfl
  | k + 1 => by
    have hl := h.lt
    rw [← st_mul h d k]
    have e1 : s + d + (n - s) * (k + 1) = n + (d + (n - s) * k) := by
      rw [Nat.mul_add, Nat.mul_one]
      omega
    rw [e1, st_add h.eq]
    congr 1
    omega
theorem st_fold {pl : Plan} {n s : Nat} (h : Rep (stN pl) n s) (t : Nat) : stN pl (foldT n s t) = stN pl t := by
  unfold foldT
  split
  · rfl
  · rename_i hn
    have hl := h.lt
    have := st_mul h ((t - s) % (n - s)) ((t - s) / (n - s))
    rw [← this]
    congr 1
    have := Nat.mod_add_div (t - s) (n - s)
    omega
theorem tk_fold {pl : Plan} {n s : Nat} (h : Rep (stN pl) n s) (t : Nat) : tkN pl (foldT n s t) = tkN pl t := by
  unfold tkN
  rw [st_fold h]
/-- a tick comes again after a multiple of the length -/
theorem tk_again {pl : Plan} {n s : Nat} (h : Rep (stN pl) n s) {v k : Nat} (hs : s ≤ v) : tkN pl (v + (n - s) * k) = tkN pl v := by
  have := st_mul h (v - s) k
  rw [show s + (v - s) = v by omega] at this
  unfold tkN
  rw [this]
theorem Rep.unique {f : Nat → MSt} {n s n' s' : Nat} (h : Rep f n s) (h' : Rep f n' s') : n = n' ∧ s = s' := by
  have e : n = n' := by
    rcases Nat.lt_trichotomy n n' with z | z | z
    · exact absurd h.eq.symm (h'.nd s n h.lt z)
    · exact z
    · exact absurd h'.eq.symm (h.nd s' n' h'.lt z)
  subst e
  refine ⟨rfl, ?_⟩
  rcases Nat.lt_trichotomy s s' with z | z | z
  · exact absurd (h.eq.symm.trans h'.eq) (h.nd s s' z h'.lt)
  · exact z
  · exact absurd (h'.eq.symm.trans h.eq) (h.nd s' s z h.lt)
/-- a state comes again early -/
def Early (pl : Plan) (b : Nat) : Prop := ∃ i j, i < j ∧ j ≤ b ∧ stN pl i = stN pl j
theorem Early.mono {pl : Plan} {b c : Nat} (h : Early pl b) (l : b ≤ c) : Early pl c := let ⟨i, j, h1, h2, h3⟩ := h; ⟨i, j, h1, Nat.le_trans h2 l, h3⟩
/-! keys -/
def robK (r : Rob) : NestedKey := .tup [.num r.1, .num (if r.2.1 = true then 1 else 0), .num r.2.2]
def keyS (st : MSt) : NestedKey := .tup [.tup (st.floor.map fun n : Nat => .num n), .tup (st.robots.map robK)]
theorem robK_inj {a b : Rob} (h : robK a = robK b) : a = b := by
  obtain ⟨a1, a2, a3⟩ := a
  obtain ⟨b1, b2, b3⟩ := b
  unfold robK at h
  injection h with h
  injection h with e1 h
  injection h with e2 h
  injection h with e3 _
  injection e1 with e1
  injection e2 with e2
  injection e3 with e3
  have e1 : a1 = b1 := Int.natCast_inj.mp e1
  have e3 : a3 = b3 := Int.natCast_inj.mp e3
  have e2 : a2 = b2 := by
    cases a2 <;> cases b2 <;> first | rfl | simp at e2
  rw [e1, e2, e3]
theorem map_inj' {α β : Type} {f : α → β} (hf : ∀ a b, f a = f b → a = b) : ∀ {l m : List α}, l.map f = m.map f → l = m
  | [], [], _ => rfl
  | [], _ :: _, h => by cases h
  | _ :: _, [], h => by cases h
  | a :: l, b :: m, h => by
    injection h with h1 h2
    rw [hf _ _ h1, map_inj' hf h2]
theorem keyS_inj {a b : MSt} (h : keyS a = keyS b) : a = b := by
  unfold keyS at h
  injection h with h
  injection h with e1 h
  injection h with e2 _
  injection e1 with e1
  injection e2 with e2
  have f1 : a.floor = b.floor := map_inj' (fun x y z => by injection z with z; exact Int.natCast_inj.mp z) e1
  have f2 : a.robots = b.robots := map_inj' (fun x y z => robK_inj z) e2
  cases a
  cases b
  simp only at f1 f2
  rw [f1, f2]
theorem depth_nums : ∀ l : List Nat, NestedKey.depthAll (l.map fun n : Nat => NestedKey.num n) = 0
  | [] => rfl
  | _ :: l => by
    rw [List.map_cons, NestedKey.depthAll, depth_nums l]
    rfl
theorem depth_robs : ∀ l : List Rob, NestedKey.depthAll (l.map robK) ≤ 1
  | [] => Nat.zero_le _
  | r :: l => by
    have e : (robK r).depth = 1 := rfl
    rw [List.map_cons, NestedKey.depthAll, e]
    exact Nat.max_le.mpr ⟨Nat.le_refl _, depth_robs l⟩
theorem depth_keyS (st : MSt) : (keyS st).depth ≤ 8 := by
  have h1 := depth_nums st.floor
  have h2 := depth_robs st.robots
  show NestedKey.depthAll [.tup (st.floor.map fun n : Nat => .num n), .tup (st.robots.map robK)] + 1 ≤ 8
  simp only [NestedKey.depthAll, NestedKey.depth]
  omega
/-- what is seen: the number of each state -/
def SeenI (f : Nat → MSt) (n : Nat) (kvs : List KvN) : Prop := kvs.map (fun x => (x.1, x.2.2)) = (List.range n).map fun i : Nat => (keyS (f i), V.int i)
theorem valN_map (kvs : List KvN) (k : NestedKey) : valN kvs k = ((kvs.map fun x => (x.1, x.2.2)).find? fun q => decide (q.1 = k)).map (·.2) := by
  unfold valN
  induction kvs with
  | nil => rfl
  | cons x l ih =>
    rw [List.map_cons, List.find?_cons, List.find?_cons]
    by_cases h : x.1 = k
    · simp [h]
    · simp only [h, decide_false]
      exact ih
theorem SeenI.hit {f : Nat → MSt} {n m s : Nat} {kvs : List KvN} (h : SeenI f n kvs) (nd : ∀ i j, i < j → j < n → f i ≠ f j) (hs : s < n) (e : f s = f m) : valN kvs (keyS (f m)) = some (V.int s) := by
  rw [valN_map, h, ← e]
  have : ((List.range n).map fun i : Nat => (keyS (f i), V.int i)).find? (fun q => decide (q.1 = keyS (f s))) = some (keyS (f s), V.int s) := by
    rw [List.find?_map]
    have : (List.range n).find? ((fun q : NestedKey × V => decide (q.1 = keyS (f s))) ∘ fun i : Nat => (keyS (f i), V.int i)) = some s := by
      rw [List.find?_range_eq_some]
      refine ⟨by simp, List.mem_range.mpr hs, fun j hj => ?_⟩
      simp only [Function.comp, Bool.not_eq_true', decide_eq_false_iff_not]
      exact fun z => nd j s hj hs (keyS_inj z)
    rw [this]
    rfl
  rw [this]
  rfl
theorem SeenI.miss {f : Nat → MSt} {n m : Nat} {kvs : List KvN} (h : SeenI f n kvs) (nd : ∀ i < n, f i ≠ f m) : valN kvs (keyS (f m)) = none := by
  rw [valN_map, h]
  have : ((List.range n).map fun i : Nat => (keyS (f i), V.int i)).find? (fun q => decide (q.1 = keyS (f m))) = none := by
    rw [List.find?_eq_none]
    intro x hx
    obtain ⟨i, hi, rfl⟩ := List.mem_map.mp hx
    simp only [decide_eq_true_eq]
    exact fun z => nd i (List.mem_range.mp hi) (keyS_inj z)
  rw [this]
  rfl
theorem SeenI.more {f : Nat → MSt} {n : Nat} {kvs : List KvN} {b : Addr} (h : SeenI f n kvs) : SeenI f (n + 1) (kvs ++ [(keyS (f n), b, V.int n)]) := by
  unfold SeenI at h ⊢
  rw [List.map_append, h, List.range_succ, List.map_append]
  rfl
end Sw

end

section
set_option maxRecDepth 100000
set_option maxHeartbeats 4000000
/-! the law's own machine: how its states lie in the heap -/
namespace Sw
open PySem PySem.Spec PyProof.Rows L2 SwA
abbrev iVn (l : List Nat) : List V := l.map fun n : Nat => V.int n
theorem PlanV.same {H H' : Hp} {a : Addr} {pl : Plan} (s : Same H H') (h : PlanV H a pl) : PlanV H' a pl := by
  obtain ⟨sa, ma, fa, ra, rd, ras, e1, e2, e3, e4, e5, e6, kvs, e7, e8⟩ := h
  exact ⟨sa, ma, fa, ra, rd, ras, s _ _ e1, e2.mono fun _ z => s _ _ z, e3.mono fun _ z => s _ _ z, s _ _ e4, s _ _ e5, Paired.mapP e6 fun _ _ q => s _ _ q, kvs, s _ _ e7, Paired.mapP e8 fun _ _ q => q.mono fun _ _ z => s _ _ z⟩
/-! the law's own corridor; ok: what is true of its lists' places -/
def LState (ok : Addr → Prop) (H : Hp) (a : Addr) (st : MSt) : Prop := ∃ (fl rl : Addr) (ras : List Addr), (ok a ∧ ok fl ∧ ok rl) ∧ H a = some (.lst [.ref fl, .ref rl]) ∧ H fl = some (.lst (iVn st.floor)) ∧ H rl = some (.lst (ras.map V.ref)) ∧ Paired (Rob3At H) ras st.robots
theorem DrawAt.same {H H' : Hp} {d : Addr} (h : DrawAt H d) (s : Same H H') : DrawAt H' d := let ⟨a, b, c, l, e⟩ := h; ⟨a, b, c, l, s _ _ e⟩
theorem DrawAt.put {H : Hp} {d x : Addr} {o : HO} (h : DrawAt H d) (n : d ≠ x) : DrawAt (upd H x o) d := let ⟨a, b, c, l, e⟩ := h; ⟨a, b, c, l, (upd_ne n).trans e⟩
theorem DrawAt.ne {H : Hp} {d x : Addr} (h : DrawAt H d) (n : H x = none) : d ≠ x := fun z => by
  obtain ⟨a, b, c, l, e⟩ := h
  rw [z, n] at e
  cases e
theorem DrawAt.not {H : Hp} {d x : Addr} {o : HO} (hd : DrawAt H d) (h : H x = some o) (n : ∀ xs, o ≠ .lst xs) : x ≠ d := fun z => by
  obtain ⟨a, b, c, _, e⟩ := hd
  rw [z, e] at h
  exact n _ (Option.some.inj h).symm
theorem PlanV.keep {H H' : Hp} {a : Addr} {pl : Plan} (k : ∀ {x : Addr} {o : HO}, H x = some o → (∀ xs, o ≠ .lst xs) → H' x = some o) (h : PlanV H a pl) : PlanV H' a pl := by
  obtain ⟨sa, ma, fa, ra, rd, ras, e1, e2, e3, e4, e5, e6, kvs, e7, e8⟩ := h
  exact ⟨sa, ma, fa, ra, rd, ras, k e1 (by simp), e2.mono fun _ z => k z (by simp), e3.mono fun _ z => k z (by simp), k e4 (by simp), k e5 (by simp), Paired.mapP e6 fun _ _ q => k q (by simp), kvs, k e7 (by simp), Paired.mapP e8 fun _ _ q => q.mono fun _ _ z => k z (by simp)⟩
theorem PlanV.drawn {H H' : Hp} {a d : Addr} {pl : Plan} (hd : DrawAt H d) (dr : Drawn d H H') (h : PlanV H a pl) : PlanV H' a pl := h.keep fun h n => dr.same _ _ (hd.not h n) h
section
/-- tuples stand, and the lists of a kind -/
structure Kp (ok : Addr → Prop) (H H' : Hp) : Prop where
  t : ∀ b xs, H b = some (.tup xs) → H' b = some (.tup xs)
  o : ∀ b o, ok b → H b = some o → H' b = some o
  d : ∀ b ks, H b = some (.dT ks) → H' b = some (.dT ks)
  f : ∀ b o xs, H b = some (.frz o (.tup xs)) → H' b = some (.frz o (.tup xs))
theorem Kp.same {ok : Addr → Prop} {H H' : Hp} (s : Same H H') : Kp ok H H' := ⟨fun _ _ e => s _ _ e, fun _ _ _ e => s _ _ e, fun _ _ e => s _ _ e, fun _ _ _ e => s _ _ e⟩
theorem Kp.trans {ok : Addr → Prop} {H H1 H2 : Hp} (a : Kp ok H H1) (b : Kp ok H1 H2) : Kp ok H H2 := ⟨fun _ _ e => b.t _ _ (a.t _ _ e), fun _ _ k e => b.o _ _ k (a.o _ _ k e), fun _ _ e => b.d _ _ (a.d _ _ e), fun _ _ _ e => b.f _ _ _ (a.f _ _ _ e)⟩
/-- a list of no such kind is stored anew -/
theorem Kp.put {ok : Addr → Prop} {H : Hp} {x : Addr} {xs : List V} {o' : HO} (hx : H x = some (.lst xs)) (n : ¬ ok x) : Kp ok H (upd H x o') :=
  ⟨fun b ys e => (upd_ne (ne_of e hx (by intro z; cases z))).trans e, fun b o k e => (upd_ne (fun z : b = x => n (z ▸ k))).trans e, fun b ys e => (upd_ne (ne_of e hx (by intro z; cases z))).trans e, fun b o ys e => (upd_ne (ne_of e hx (by intro z; cases z))).trans e⟩
variable {ok ok' : Addr → Prop} {H H' : Hp}
theorem PlanV.kp {a : Addr} {pl : Plan} (s : Kp ok H H') (h : PlanV H a pl) : PlanV H' a pl := by
  obtain ⟨sa, ma, fa, ra, rd, ras, e1, ⟨o2, c2, d2, e2⟩, ⟨o3, c3, d3, e3⟩, e4, e5, e6, kvs, e7, e8⟩ := h
  exact ⟨sa, ma, fa, ra, rd, ras, s.t _ _ e1, ⟨o2, c2, d2, s.f _ _ _ e2⟩, ⟨o3, c3, d3, s.f _ _ _ e3⟩, s.t _ _ e4, s.t _ _ e5, Paired.mapP e6 fun _ _ q => s.t _ _ q, kvs, s.d _ _ e7, Paired.mapP e8 fun _ _ q => q.mono fun _ _ z => s.t _ _ z⟩
theorem LState.kp {a : Addr} {st : MSt} (h : LState ok H a st) (s : Kp ok H H') (i : ∀ b, ok b → ok' b := by exact fun _ z => z) : LState ok' H' a st :=
  let ⟨fl, rl, ras, ⟨o1, o2, o3⟩, e1, e2, e3, e4⟩ := h
  ⟨fl, rl, ras, ⟨i _ o1, i _ o2, i _ o3⟩, s.o _ _ o1 e1, s.o _ _ o2 e2, s.o _ _ o3 e3, Paired.mapP e4 fun _ _ q => s.t _ _ q⟩
theorem LState.same {a : Addr} {st : MSt} (h : LState ok H a st) (s : Same H H') : LState ok H' a st := h.kp (.same s)
theorem LState.mono {a : Addr} {st : MSt} (h : LState ok H a st) (i : ∀ b, ok b → ok' b) : LState ok' H a st := h.kp (.same (Same.refl _)) i
end
end Sw

end

section
set_option maxRecDepth 100000
set_option maxHeartbeats 4000000
/-! parts of a list by slices -/
namespace Sw
open PySem PySem.Spec PyProof.Rows L2 SwA
theorem cut_takeB {xs : List V} (n : Nat) : cutV xs none (some (n : Int)) = xs.take n := by
  show (xs.drop 0).take (HT.sIx xs.length xs.length (some (n : Int)) - 0) = xs.take n
  rw [HT.sIx_nat, List.drop_zero, Nat.sub_zero, ← List.take_eq_take_min]
theorem cut_dropB {xs : List V} (n : Nat) : cutV xs (some (n : Int)) none = xs.drop n := by
  show (xs.drop (HT.sIx xs.length 0 (some (n : Int)))).take (HT.sIx xs.length xs.length none - HT.sIx xs.length 0 (some (n : Int))) = xs.drop n
  rw [HT.sIx_none, HT.sIx_nat]
  rcases Nat.le_total n xs.length with h | h
  · rw [Nat.min_eq_left h]
    exact List.take_of_length_le (by rw [List.length_drop]; omega)
  · rw [Nat.min_eq_right h, List.drop_length, List.take_nil, List.drop_of_length_le h]
end Sw

end

section
set_option maxRecDepth 100000
set_option maxHeartbeats 1000000
/-! t[lo:hi] of a tuple without a dict of its own: such a tuple again -/
namespace SwA
open PySem PySem.Spec PyProof.Rows L2
def rSlN : V → Option Int → Option Int → Hp → VK → Prop := fun x lo hi H Q => ∃ a xs, x = .ref a ∧ TupN H a xs ∧ ∀ (b : Addr) (H' : Hp), Same H H' → TupN H' b (cutV xs lo hi) → Q (.ref b) H'
theorem cut_whole {xs : List V} {lo hi : Option Int} (h : HT.sIx xs.length 0 lo = 0 ∧ HT.sIx xs.length xs.length hi = xs.length) : cutV xs lo hi = xs := by
  unfold cutV
  rw [h.1, h.2]
  simp
theorem sl_tupN {X : Cx} : SlR X rSlN := by
  intro pins s σ H x v vl vu lo hi sl Q I rx hs pl pu h
  obtain ⟨a, xs, rfl, hx, q⟩ := h
  have hxs : SqT X.K H a xs := hx.sq
  cases rx
  obtain ⟨its, r, ht, hz⟩ := I.tuple hxs
  have hlen : its.toArray.size = xs.length := by rw [List.size_toArray]; exact r.length.symm
  refine ⟨"tuple", _, PyProof.Rows.slot_tuple_getitem.lookup, ht.typeIs, ?_⟩
  by_cases hw : HT.sIx xs.length 0 lo = 0 ∧ HT.sIx xs.length xs.length hi = xs.length
  · exact getItem_tuple_whole ht hs pl pu (by rw [hlen]; exact hw) ⟨.ref a, H, I, rfl, q a H (Same.refl H) (by rw [cut_whole hw]; exact hx)⟩
  · refine HT.getItem_tuple_cut ht hs pl pu (by rw [hlen]; exact hw) ?_ (by rw [hlen]; exact hz)
    rw [hlen]
    have hn := I.hok.fresh (Nat.le_refl s.heap.objs.size)
    have rr := (r.drop (HT.sIx xs.length 0 lo)).take (HT.sIx xs.length xs.length hi - HT.sIx xs.length 0 lo)
    have lz : (cutV xs lo hi).length ≤ sizeLine := Nat.le_trans (cutV_length xs lo hi) hz
    exact ⟨.ref s.heap.objs.size, _, I.laid (t' := s.toks) (o := .frz _ (.tup (cutV xs lo hi))) (fun b o e => Heap.get?_push_of_some _ e) (Nat.le_refl _) ⟨Heap.get?_push_size _ rfl, lz, _, rr, IsTup.new _ _⟩, rfl, q _ _ (Sw.sameUpd (Same.refl H) hn) ⟨_, rfl, rfl, upd_same⟩⟩
end SwA

end

section
set_option maxRecDepth 100000
set_option maxHeartbeats 4000000
/-! small plans come again early: there are few states -/
namespace Sw
open PySem
theorem pigeon : ∀ (B : Nat) (e : Nat → Nat), (∀ i, i ≤ B → e i < B) → ∃ i j, i < j ∧ j ≤ B ∧ e i = e j
  | 0, e, h => absurd (h 0 (Nat.le_refl 0)) (Nat.not_lt_zero _)
  | B + 1, e, h => by
    by_cases hx : ∃ i, i ≤ B ∧ e i = e (B + 1)
    · obtain ⟨i, hi, he⟩ := hx
      exact ⟨i, B + 1, by omega, Nat.le_refl _, he⟩
    · have hn : ∀ i, i ≤ B → e i ≠ e (B + 1) := fun i hi he => hx ⟨i, hi, he⟩
      obtain ⟨i, j, h1, h2, h3⟩ := pigeon B (fun i => if e (B + 1) < e i then e i - 1 else e i) fun i hi => by
        have a1 := h i (by omega)
        have a2 := h (B + 1) (Nat.le_refl _)
        have a3 := hn i hi
        show (if e (B + 1) < e i then e i - 1 else e i) < B
        split <;> omega
      refine ⟨i, j, h1, by omega, ?_⟩
      have a1 := hn i (by omega)
      have a2 := hn j h2
      have h3 : (if e (B + 1) < e i then e i - 1 else e i) = (if e (B + 1) < e j then e j - 1 else e j) := h3
      split at h3 <;> split at h3 <;> omega
def encL (b : Nat) : List Nat → Nat
  | [] => 0
  | d :: l => d + b * encL b l
theorem encL_lt {b : Nat} : ∀ {l : List Nat}, (∀ d ∈ l, d < b) → encL b l < b ^ l.length
  | [], _ => by simp [encL]
  | d :: l, h => by
    have h1 := h d List.mem_cons_self
    have h2 := encL_lt fun x hx => h x (List.mem_cons_of_mem _ hx)
    show d + b * encL b l < b ^ (l.length + 1)
    have : b * (encL b l + 1) ≤ b * b ^ l.length := Nat.mul_le_mul_left b h2
    rw [Nat.mul_add, Nat.mul_one] at this
    rw [Nat.pow_succ, Nat.mul_comm (b ^ l.length) b]
    omega
theorem digit_inj {b d e x y : Nat} (hd : d < b) (he : e < b) (h : d + b * x = e + b * y) : d = e ∧ x = y := by
  have h1 : (d + b * x) % b = (e + b * y) % b := by rw [h]
  rw [Nat.add_mul_mod_self_left, Nat.add_mul_mod_self_left, Nat.mod_eq_of_lt hd, Nat.mod_eq_of_lt he] at h1
  subst h1
  refine ⟨rfl, ?_⟩
  have h2 : b * x = b * y := by omega
  exact Nat.eq_of_mul_eq_mul_left (by omega) h2
theorem encL_inj {b : Nat} : ∀ {l m : List Nat}, (∀ d ∈ l, d < b) → (∀ d ∈ m, d < b) → l.length = m.length → encL b l = encL b m → l = m
  | [], [], _, _, _, _ => rfl
  | [], _ :: _, _, _, h, _ => by cases h
  | _ :: _, [], _, _, h, _ => by cases h
  | d :: l, e :: m, h1, h2, h3, h4 => by
    obtain ⟨e1, e2⟩ := digit_inj (h1 d List.mem_cons_self) (h2 e List.mem_cons_self) h4
    rw [e1, encL_inj (fun x hx => h1 x (List.mem_cons_of_mem _ hx)) (fun x hx => h2 x (List.mem_cons_of_mem _ hx)) (Nat.succ.inj h3) e2]
def rd (r : Rob) : Nat := r.1 + 4 * ((if r.2.1 = true then 1 else 0) + 2 * r.2.2)
theorem rd_lt {m : Nat} {r : Rob} (h1 : r.1 < 4) (h2 : r.2.2 < m) : rd r < 8 * m := by
  unfold rd
  split <;> omega
theorem rd_inj {r q : Rob} (h1 : r.1 < 4) (h2 : q.1 < 4) (h : rd r = rd q) : r = q := by
  obtain ⟨a, b, c⟩ := r
  obtain ⟨a', b', c'⟩ := q
  unfold rd at h
  obtain ⟨e1, e2⟩ := digit_inj h1 h2 h
  have h3 : (if b = true then 1 else 0) < 2 := by split <;> omega
  have h4 : (if b' = true then 1 else 0) < 2 := by split <;> omega
  obtain ⟨e3, e4⟩ := digit_inj h3 h4 e2
  have e5 : b = b' := by
    cases b <;> cases b' <;> first | rfl | simp at e3
  simp only at e1 e4
  rw [e1, e5, e4]
def encS (g m : Nat) (st : MSt) : Nat := encL g st.floor + g ^ st.floor.length * encL (8 * m) (st.robots.map rd)
structure In (g m n r : Nat) (st : MSt) : Prop where
  w : WfM n r st
  s : ∀ x ∈ st.floor, x < g
  o : MoS m st
theorem In.rds {g m n r : Nat} {st : MSt} (h : In g m n r st) (hn : n ≤ 4) : ∀ d ∈ st.robots.map rd, d < 8 * m := fun d hd => by
  obtain ⟨q, hq, rfl⟩ := List.mem_map.mp hd
  exact rd_lt (Nat.lt_of_lt_of_le (h.w.ti q hq) hn) (h.o q hq)
theorem encS_lt {g m n r : Nat} {st : MSt} (h : In g m n r st) (hn : n ≤ 4) : encS g m st < g ^ n * (8 * m) ^ r := by
  have h1 := encL_lt h.s
  have h2 := encL_lt (h.rds hn)
  rw [List.length_map, h.w.ro] at h2
  rw [h.w.fl] at h1
  unfold encS
  rw [h.w.fl]
  have : g ^ n * (encL (8 * m) (st.robots.map rd) + 1) ≤ g ^ n * (8 * m) ^ r := Nat.mul_le_mul_left _ h2
  rw [Nat.mul_add, Nat.mul_one] at this
  omega
theorem encS_inj {g m n r : Nat} {a b : MSt} (ha : In g m n r a) (hb : In g m n r b) (hn : n ≤ 4) (h : encS g m a = encS g m b) : a = b := by
  unfold encS at h
  rw [ha.w.fl, hb.w.fl] at h
  have h1 := encL_lt ha.s
  have h2 := encL_lt hb.s
  rw [ha.w.fl] at h1
  rw [hb.w.fl] at h2
  obtain ⟨e1, e2⟩ := digit_inj h1 h2 h
  have f1 : a.floor = b.floor := encL_inj ha.s hb.s (by rw [ha.w.fl, hb.w.fl]) e1
  have f2 : a.robots.map rd = b.robots.map rd := encL_inj (ha.rds hn) (hb.rds hn) (by rw [List.length_map, List.length_map, ha.w.ro, hb.w.ro]) e2
  have f3 : a.robots = b.robots := by
    refine List.ext_getElem (by rw [ha.w.ro, hb.w.ro]) fun i h1 h2 => ?_
    have := congrArg (fun l => l[i]?) f2
    simp only [List.getElem?_map, List.getElem?_eq_getElem h1, List.getElem?_eq_getElem h2, Option.map_some, Option.some.injEq] at this
    exact rd_inj (Nat.lt_of_lt_of_le (ha.w.ti _ (List.getElem_mem h1)) hn) (Nat.lt_of_lt_of_le (hb.w.ti _ (List.getElem_mem h2)) hn) this
  cases a
  cases b
  simp only at f1 f3
  rw [f1, f3]
/-- few tiles, signs, moods and robots -/
def Small (pl : Plan) : Prop := pl.floor.length ≤ 4 ∧ ((pl.robots.length = 1 ∧ pl.signs.length ≤ 4 ∧ pl.moods.length ≤ 3) ∨ (pl.robots.length ≤ 2 ∧ pl.signs.length ≤ 2 ∧ pl.moods.length ≤ 2))
theorem early_of {pl : Plan} (wf : WfP pl) (hn : pl.floor.length ≤ 4) : Early pl (pl.signs.length ^ pl.floor.length * (8 * pl.moods.length) ^ pl.robots.length) := by
  have hin : ∀ k, In pl.signs.length pl.moods.length pl.floor.length pl.robots.length (stN pl k) := fun k => ⟨st_wf wf.rt k, st_si wf k, st_mo wf k⟩
  obtain ⟨i, j, h1, h2, h3⟩ := pigeon _ (fun k => encS pl.signs.length pl.moods.length (stN pl k)) fun i _ => encS_lt (hin i) hn
  exact ⟨i, j, h1, h2, encS_inj (hin i) (hin j) hn h3⟩
theorem small_early {pl : Plan} (wf : WfP pl) (h : Small pl) : Early pl 20000 := by
  refine (early_of wf h.1).mono ?_
  rcases h.2 with ⟨h1, h2, h3⟩ | ⟨h1, h2, h3⟩
  · rw [h1]
    have a1 : pl.signs.length ^ pl.floor.length ≤ 4 ^ 4 := Nat.le_trans (Nat.pow_le_pow_left h2 _) (Nat.pow_le_pow_right (by decide) h.1)
    have a2 : (8 * pl.moods.length) ^ 1 ≤ 24 := by rw [Nat.pow_one]; omega
    exact Nat.le_trans (Nat.mul_le_mul a1 a2) (by decide)
  · have a1 : pl.signs.length ^ pl.floor.length ≤ 2 ^ 4 := Nat.le_trans (Nat.pow_le_pow_left h2 _) (Nat.pow_le_pow_right (by decide) h.1)
    have a2 : (8 * pl.moods.length) ^ pl.robots.length ≤ 16 ^ 2 := Nat.le_trans (Nat.pow_le_pow_left (show 8 * pl.moods.length ≤ 16 by omega) _) (Nat.pow_le_pow_right (by decide) h1)
    exact Nat.le_trans (Nat.mul_le_mul a1 a2) (by decide)
end Sw

end

section
set_option maxRecDepth 100000
set_option maxHeartbeats 4000000
/-! the law's own: short plans -/
namespace Sw
open PySem PySem.Spec PyProof.Rows L2 SwA
def keptOf (g m : Nat) (rules : List ((Nat × Nat) × Rule)) (mo si : Nat) : List ((Nat × Nat) × Rule) := match getA rules (mo, si) with
  | none => []
  | some r => [((mo, si), ⟨r.left % g, r.move, r.later % m⟩)]
def keptRow (g m : Nat) (rules : List ((Nat × Nat) × Rule)) (mo n : Nat) : List ((Nat × Nat) × Rule) := ((List.range n).map (keptOf g m rules mo)).flatten
def keptR (g m : Nat) (rules : List ((Nat × Nat) × Rule)) (n : Nat) : List ((Nat × Nat) × Rule) := ((List.range n).map fun mo => keptRow g m rules mo g).flatten
theorem keptRow_succ (g m : Nat) (rules : List ((Nat × Nat) × Rule)) (mo n : Nat) : keptRow g m rules mo (n + 1) = keptRow g m rules mo n ++ keptOf g m rules mo n := by
  unfold keptRow
  rw [List.range_succ]
  simp
theorem keptR_succ (g m : Nat) (rules : List ((Nat × Nat) × Rule)) (n : Nat) : keptR g m rules (n + 1) = keptR g m rules n ++ keptRow g m rules n g := by
  unfold keptR
  rw [List.range_succ]
  simp
def shortP (pl : Plan) : Plan := if pl.robots.length = 1 then pl else
  ⟨pl.signs.take 2, pl.moods.take 2, pl.floor.map (· % (pl.signs.take 2).length), pl.robots.take 2, keptR (pl.signs.take 2).length (pl.moods.take 2).length pl.rules (pl.moods.take 2).length⟩
theorem keptOf_mem {g m : Nat} {rules : List ((Nat × Nat) × Rule)} {mo si : Nat} {kv : (Nat × Nat) × Rule} (h : kv ∈ keptOf g m rules mo si) : kv.1 = (mo, si) ∧ ∃ r, getA rules (mo, si) = some r ∧ kv.2 = ⟨r.left % g, r.move, r.later % m⟩ := by
  unfold keptOf at h
  cases hg : getA rules (mo, si) with
  | none => rw [hg] at h; cases h
  | some r =>
    rw [hg] at h
    rw [List.mem_singleton.mp h]
    exact ⟨rfl, r, rfl, rfl⟩
theorem keptRow_mem {g m : Nat} {rules : List ((Nat × Nat) × Rule)} {mo n : Nat} {kv : (Nat × Nat) × Rule} (h : kv ∈ keptRow g m rules mo n) : ∃ si, si < n ∧ kv ∈ keptOf g m rules mo si := by
  unfold keptRow at h
  obtain ⟨l, hl, hk⟩ := List.mem_flatten.mp h
  obtain ⟨si, hs, rfl⟩ := List.mem_map.mp hl
  exact ⟨si, List.mem_range.mp hs, hk⟩
theorem keptR_mem {g m : Nat} {rules : List ((Nat × Nat) × Rule)} {n : Nat} {kv : (Nat × Nat) × Rule} (h : kv ∈ keptR g m rules n) : kv.1.1 < n ∧ kv.1.2 < g ∧ ∃ r, getA rules kv.1 = some r ∧ kv.2 = ⟨r.left % g, r.move, r.later % m⟩ := by
  unfold keptR at h
  obtain ⟨l, hl, hk⟩ := List.mem_flatten.mp h
  obtain ⟨mo, hm, rfl⟩ := List.mem_map.mp hl
  obtain ⟨si, hs, hk⟩ := keptRow_mem hk
  obtain ⟨e, r, h1, h2⟩ := keptOf_mem hk
  rw [e]
  exact ⟨List.mem_range.mp hm, hs, r, h1, h2⟩
abbrev LtP (a b : Nat × Nat) : Prop := a.1 < b.1 ∨ (a.1 = b.1 ∧ a.2 < b.2)
theorem keptRow_sorted (g m : Nat) (rules : List ((Nat × Nat) × Rule)) (mo : Nat) : ∀ n, ((keptRow g m rules mo n).map (·.1)).Pairwise LtP
  | 0 => by simp [keptRow]
  | n + 1 => by
    rw [keptRow_succ, List.map_append, List.pairwise_append]
    refine ⟨keptRow_sorted g m rules mo n, ?_, fun a ha b hb => ?_⟩
    · unfold keptOf
      split <;> simp
    · obtain ⟨x, hx, rfl⟩ := List.mem_map.mp ha
      obtain ⟨y, hy, rfl⟩ := List.mem_map.mp hb
      obtain ⟨si, hs, hx⟩ := keptRow_mem hx
      obtain ⟨e1, _⟩ := keptOf_mem hx
      obtain ⟨e2, _⟩ := keptOf_mem hy
      rw [e1, e2]
      exact .inr ⟨rfl, hs⟩
theorem keptR_sorted (g m : Nat) (rules : List ((Nat × Nat) × Rule)) : ∀ n, ((keptR g m rules n).map (·.1)).Pairwise LtP
  | 0 => by simp [keptR]
  | n + 1 => by
    rw [keptR_succ, List.map_append, List.pairwise_append]
    refine ⟨keptR_sorted g m rules n, keptRow_sorted g m rules n g, fun a ha b hb => ?_⟩
    obtain ⟨x, hx, rfl⟩ := List.mem_map.mp ha
    obtain ⟨y, hy, rfl⟩ := List.mem_map.mp hb
    obtain ⟨si, hs, hy⟩ := keptRow_mem hy
    obtain ⟨e2, _⟩ := keptOf_mem hy
    obtain ⟨e1, _⟩ := keptR_mem hx
    rw [e2]
    exact .inl e1
theorem SortedR.nodup {rules : List ((Nat × Nat) × Rule)} (h : SortedR rules) : (rules.map (·.1)).Nodup := List.Pairwise.imp (fun {a b} q z => by rw [z] at q; omega) h
theorem NamesOk.take {ws : List Cs} (h : NamesOk ws) (n : Nat) : NamesOk (ws.take n) := ⟨h.nd.sublist (List.take_sublist _ _), fun w hw => h.ok w (List.mem_of_mem_take hw)⟩
theorem short_wf {pl : Plan} (wf : WfP pl) (so : SortedR pl.rules) (hn : pl.floor.length ≤ 4) (hm : pl.moods.length ≤ 3) : WfP (shortP pl) ∧ SortedR (shortP pl).rules ∧ Small (shortP pl) ∧ (shortP pl).floor.length = pl.floor.length := by
  unfold shortP
  split
  · rename_i h1
    exact ⟨wf, so, ⟨hn, .inl ⟨h1, wf.s4, hm⟩⟩, rfl⟩
  · rename_i h1
    have s1 := List.length_pos_iff.mpr wf.s1
    have m1 := List.length_pos_iff.mpr wf.m1
    have r1 := List.length_pos_iff.mpr wf.r1
    have ls : (pl.signs.take 2).length = min 2 pl.signs.length := List.length_take
    have lm : (pl.moods.take 2).length = min 2 pl.moods.length := List.length_take
    have lr : (pl.robots.take 2).length = min 2 pl.robots.length := List.length_take
    have gs : 0 < (pl.signs.take 2).length := by omega
    have gm : 0 < (pl.moods.take 2).length := by omega
    have hso := keptR_sorted (pl.signs.take 2).length (pl.moods.take 2).length pl.rules (pl.moods.take 2).length
    refine ⟨⟨wf.sN.take 2, wf.mN.take 2, List.length_pos_iff.mp gs, by show (pl.signs.take 2).length ≤ 4; omega, List.length_pos_iff.mp gm, by show (pl.moods.take 2).length ≤ 6; omega, by show 1 ≤ (pl.floor.map _).length; rw [List.length_map]; exact wf.n1, by show (pl.floor.map _).length ≤ 16; rw [List.length_map]; exact wf.n16, ?_, ?_, by show (pl.robots.take 2).length ≤ 3; omega, ?_, SortedR.nodup hso, ?_⟩, hso, ⟨by show (pl.floor.map _).length ≤ 4; rw [List.length_map]; exact hn, .inr ⟨by show (pl.robots.take 2).length ≤ 2; omega, by show (pl.signs.take 2).length ≤ 2; omega, by show (pl.moods.take 2).length ≤ 2; omega⟩⟩, List.length_map _⟩
    · intro x hx
      obtain ⟨y, _, rfl⟩ := List.mem_map.mp hx
      exact Nat.mod_lt _ gs
    · exact List.length_pos_iff.mp (by show 0 < (pl.robots.take 2).length; omega)
    · intro r hr
      show r.1 < (pl.floor.map _).length
      rw [List.length_map]
      exact wf.rt r (List.mem_of_mem_take hr)
    · intro kv hkv
      obtain ⟨k1, k2, r, k3, k4⟩ := keptR_mem hkv
      have ro := get_ok wf k3
      refine ⟨k1, k2, ?_, ?_, ?_⟩
      · rw [k4]; exact Nat.mod_lt _ gs
      · rw [k4]; exact Nat.mod_lt _ gm
      · rw [k4]; exact ro.mv
theorem Paired_take {α β : Type} {F : α → β → Prop} : ∀ {a : List α} {b : List β}, Paired F a b → ∀ n, Paired F (a.take n) (b.take n)
  | _, _, .nil, n => by cases n <;> exact .nil
  | _, _, .cons x t, 0 => .nil
  | _, _, .cons x t, n + 1 => .cons x (Paired_take t n)
theorem FnE.impJ {P : Program} {w : World} {K : PySem.W.Frag} {mg : Str → Option Value} {base : Heap} {CX : CXT} {k : Nat} {p : Str × Option Str} {ps : List Str} {sp sp' : Sp} (h : FnE P w K mg base CX k p ps sp) (i : ∀ vs H Q E, sp' vs H Q E → sp vs H Q E) : FnE P w K mg base CX k p ps sp' := by
  obtain ⟨fd, G, b, q⟩ := h
  exact ⟨fd, G.imp i, b, q⟩
structure ShoT (K : PySem.W.Frag) (mg : Str → Option Value) : Prop where
  p : PlaT K mg
  min : mg "min" = none
  short : DeT K mg "_law_short" s__law_short
section
variable {P : Program} {w : World} {K : PySem.W.Frag} {mg : Str → Option Value} {base : Heap}
/-- .. with the names told -/
def spShortB : Sp := fun vs H Q _ => ∃ (d : Addr) (most : Nat), vs = [.ref d, .int most] ∧ DrawAt H d ∧ 1 ≤ most ∧ most ≤ 100 ∧
  ∀ (a : Addr) (H' : Hp) (pl : Plan), Drawn d H H' → WfP pl → Small pl → pl.floor.length ≤ most → SortedR pl.rules → (∀ x ∈ pl.signs, x ∈ sBase) → H a = none → PlanV H' a pl → Q (.ref a) H'
def spShort : Sp := fun vs H Q _ => ∃ (d : Addr) (most : Nat), vs = [.ref d, .int most] ∧ DrawAt H d ∧ 1 ≤ most ∧ most ≤ 100 ∧
  ∀ (a : Addr) (H' : Hp) (pl : Plan), Drawn d H H' → WfP pl → Small pl → pl.floor.length ≤ most → SortedR pl.rules → H a = none → PlanV H' a pl → Q (.ref a) H'
abbrev shoN : List Str := ["_law_d", "_law_most", "_law_signs", "_law_moods", "_law_floor", "_law_robots", "_law_rules", "_law_kept", "_law_mood", "_law_sign", "_law_left", "_law_move", "_law_later"]
theorem sc_sho : FnScope shoN ["_law_d", "_law_most"] (defScope s__law_short) := ⟨rfl, rfl, rfl, by decide +kernel, rfl, by decide +kernel, by decide +kernel⟩
abbrev rLenA (K : PySem.W.Frag) : List V → Hp → VK → Prop := fun xs H Q => ∃ p ys, xs = [V.ref p] ∧ (SqL K H p ys ∨ SqT K H p ys) ∧ Q (.int ys.length) H
theorem ok_shoB (T : ShoT K mg) : FnE P w K mg base CX0 4 ("_law_short", none) ["_law_d", "_law_most"] spShortB := by
  obtain ⟨fd, F⟩ := T.short.d
  obtain ⟨fdPL, GPL, bPL, kPL⟩ := ok_lplan (P := P) (w := w) (base := base) T.p
  refine ⟨fd, F.ok sc_sho (fun vs H Q E h => ?_) (fun cdv A outer s H vs Q E hr h => ?_), F.bindsN fun _ _ _ _ _ _ us hl => match us, hl with | [_, _], _ => rfl, F.kp⟩
  · obtain ⟨d, most, rfl, _⟩ := h
    rfl
  · obtain ⟨d, most, rfl, hd, hm1, hm2, k⟩ := h
    have hr3 : Room 3 _ := hr.mono (by decide)
    have hu := hu_of hr
    refine ⟨_, PSs.nox (pss_cons (ps_asg (pe_call GPL hr3 rfl T.p.plan.g kPL bPL .nil pass0 (pa_cons (pv 0) (pa_cons (pe_callB (cr_min rfl) (by rfl) T.min (by decide +kernel) (pa_cons (pe_lst (pa_cons (pv 1) (pa_cons pe_int pa_nil))) pa_nil)) pa_nil)))
        (pg_tup rfl (pgs_cons (pg_name (i := 2) sc_sho.nd rfl (.inr rfl)) (pgs_cons (pg_name (i := 3) sc_sho.nd rfl (.inl rfl)) (pgs_cons (pg_name (i := 4) sc_sho.nd rfl (.inl rfl)) (pgs_cons (pg_name (i := 5) sc_sho.nd rfl (.inl rfl)) (pgs_cons (pg_name (i := 6) sc_sho.nd rfl (.inl rfl)) pgs_nil)))))))
      (pss_cons (ps_if (pt_cmpR op_eq (pe_callB call_len_seq (by rfl) T.p.s.l.len boot_len (pa_cons (pv 5) pa_nil)) pe_int (nomark _))
        (pss_one (ps_ret (pe_tup (pa_cons (pv 2) (pa_cons (pv 3) (pa_cons (pv 4) (pa_cons (pv 5) (pa_cons (pv 6) pa_nil)))))))) pss_nil)
      (pss_cons (ps_asg (pe_tup (pa_cons (pe_slice sl_tupN (pv 2) po_none (po_some pe_int)) (pa_cons (pe_slice sl_tupN (pv 3) po_none (po_some pe_int)) (pa_cons pe_dnewT pa_nil))))
        (pg_tup rfl (pgs_cons (pg_name (i := 2) sc_sho.nd rfl (.inr rfl)) (pgs_cons (pg_name (i := 3) sc_sho.nd rfl (.inl rfl)) (pgs_cons (pg_name (i := 7) sc_sho.nd rfl (.inl rfl)) pgs_nil)))))
      (pss_cons (ps_for PassesOwn.never rfl (pi_range1 (by rfl) T.p.s.l.range (pa_cons (pe_callB call_len_seq (by rfl) T.p.s.l.len boot_len (pa_cons (pv 3) pa_nil)) pa_nil)) (pg_name (i := 8) sc_sho.nd rfl (.inl rfl))
        (pss_one (ps_for PassesOwn.never rfl (pi_range1 (by rfl) T.p.s.l.range (pa_cons (pe_callB call_len_seq (by rfl) T.p.s.l.len boot_len (pa_cons (pv 2) pa_nil)) pa_nil)) (pg_name (i := 9) sc_sho.nd rfl (.inl rfl))
          (pss_one (ps_if (pt_cmp (pc_din hu (pe_tup (pa_cons (pv 8) (pa_cons (pv 9) pa_nil))) (pv 6)))
            (pss_cons (ps_asg (pe_dget hu (pv 6) (pe_tup (pa_cons (pv 8) (pa_cons (pv 9) pa_nil))) (fun _ _ => rfl))
              (pg_tup rfl (pgs_cons (pg_name (i := 10) sc_sho.nd rfl (.inl rfl)) (pgs_cons (pg_name (i := 11) sc_sho.nd rfl (.inl rfl)) (pgs_cons (pg_name (i := 12) sc_sho.nd rfl (.inl rfl)) pgs_nil)))))
            (pss_one (ps_dput hu (pv 7) (pe_tup (pa_cons (pv 8) (pa_cons (pv 9) pa_nil))) (pe_tup (pa_cons (pe_op op_mod (pv 10) (pe_callB call_len_seq (by rfl) T.p.s.l.len boot_len (pa_cons (pv 2) pa_nil))) (pa_cons (pv 11) (pa_cons (pe_op op_mod (pv 12) (pe_callB call_len_seq (by rfl) T.p.s.l.len boot_len (pa_cons (pv 3) pa_nil))) pa_nil)))) rfl))) pss_nil)))))
      (pss_one (ps_ret (pe_tup (pa_cons (pv 2) (pa_cons (pv 3) (pa_cons (pe_callTy call_tuple_of (by rfl) T.p.s.l.tuple (by decide +kernel) (pa_cons (pe_lc (own := [("_law_sign", 9)]) (g := (gName 9)) (tt := tYes) (te := tOp (rI (fun _ j => 0 < j) fun i j => .int (i % j)) (tVar 9) (tCB (rLenA K) (tCons (tVar 2) tNil))) rfl sc_sho.nd (pi_tup (pv 4)) (blkOk_by (own := [("_law_sign", 9)]) (N := shoN) (sc := defScope s__law_short) (by decide +kernel)) (fun _ _ _ _ _ => (pg_name (i := 9) sc_sho.nd rfl (.inl rfl))) (fun _ _ _ _ _ => pts_nil) (fun _ _ _ _ _ => (pe_op op_mod (pv 9) (pe_callB call_len_seq (by rfl) T.p.s.l.len boot_len (pa_cons (pv 2) pa_nil))))) pa_nil)) (pa_cons (pe_slice sl_tupA (pv 5) po_none (po_some pe_int)) (pa_cons (pv 7) pa_nil)))))))))))), ?_⟩
    refine ⟨_, rfl, _, rfl, (by show 2 ≤ sizeLine; decide), fun q0 nq0 => ?_⟩
    have dr0 := (Drawn.refl hd).new (o := .lst [V.int most, V.int 4]) nq0
    have hq0 := @upd_same H q0 (.lst [V.int most, V.int 4])
    generalize upd H q0 (.lst [V.int most, V.int 4]) = H1 at *
    refine ⟨q0, [(most : Int), 4], rfl, SqL.of hq0, by simp, fun mi hmem hle => ?_⟩
    have hmi : mi = ((min most 4 : Nat) : Int) := by
      have a1 := hle (most : Int) (by simp)
      have a2 := hle 4 (by simp)
      simp only [List.mem_cons, List.not_mem_nil, or_false] at hmem
      omega
    subst hmi
    refine ⟨d, min most 4, rfl, dr0.at_, by omega, by omega, fun pa H2 pl dr wf hfl ⟨hmo, hsb, _⟩ so npa hP => ?_⟩
    have hd0 : ∃ o, H d = some o := let ⟨_, _, _, _, e⟩ := hd; ⟨_, e⟩
    have dr2 : Drawn d H H2 := dr0.trans dr
    obtain ⟨wf2, so2, sm2, fl2⟩ := short_wf wf so (by omega) hmo
    have hsb2 : ∀ x ∈ (shortP pl).signs, x ∈ sBase := fun x hx => by
      unfold shortP at hx
      split at hx
      · exact hsb x hx
      · exact hsb x (List.mem_of_mem_take hx)
    have fin : ∀ (a : Addr) (H' : Hp), Same H2 H' → H2 a = none → PlanV H' a (shortP pl) → Q (.ref a) H' := fun a H' s na hp => k a H' _ (dr2.trans (Drawn.of dr2.at_ s)) wf2 sm2 (by omega) so2 hsb2 (dr2.free hd0 na) hp
    obtain ⟨sa, ma, fa, ra, rdA, ras, e0, e1, e2, e3, e4, e5, kvs, e6, e7⟩ := hP
    refine ⟨pa, _, rfl, SqT.of e0, rfl, _, _, rfl, _, _, rfl, _, _, rfl, _, _, rfl, _, _, rfl, rfl, ?_⟩
    have hras : ras.length = pl.robots.length := e5.length
    have h16 := wf.n16
    have h3 := wf.r3
    have r1 := List.length_pos_iff.mpr wf.r1
    refine ⟨_, rfl, ra, _, rfl, .inr (SqT.of e4), rfl, _, rfl, ?_⟩
    rw [List.length_map, hras]
    by_cases h1 : pl.robots.length = 1
    · rw [decide_eq_true (show V.int (pl.robots.length : Nat) = V.int 1 by rw [h1]; rfl)]
      refine iteT ⟨_, rfl, _, rfl, _, rfl, _, rfl, _, rfl, (by show 5 ≤ sizeLine; decide), fun t nt => ?_⟩
      have eS : shortP pl = pl := by unfold shortP; rw [if_pos h1]
      rw [eS] at fin
      have s3 := sameUpd (o := .tup [.ref sa, .ref ma, .ref fa, .ref ra, .ref rdA]) (Same.refl H2) nt
      exact fin t _ s3 nt ⟨sa, ma, fa, ra, rdA, ras, upd_same, e1.mono fun _ z => s3 _ _ z, e2.mono fun _ z => s3 _ _ z, s3 _ _ e3, s3 _ _ e4, Paired.mapP e5 fun _ _ q => s3 _ _ q, kvs, s3 _ _ e6, Paired.mapP e7 fun _ _ q => q.mono fun _ _ z => s3 _ _ z⟩
    rw [decide_eq_false (fun z => h1 (by have := V.int.inj z; omega))]
    refine iteF ?_
    have eS : shortP pl = ⟨pl.signs.take 2, pl.moods.take 2, pl.floor.map (· % (pl.signs.take 2).length), pl.robots.take 2, keptR (pl.signs.take 2).length (pl.moods.take 2).length pl.rules (pl.moods.take 2).length⟩ := by unfold shortP; rw [if_neg h1]
    rw [eS] at fin
    have s1 := List.length_pos_iff.mpr wf.s1
    have m1 := List.length_pos_iff.mpr wf.m1
    have ls : (pl.signs.take 2).length = min 2 pl.signs.length := List.length_take
    have lm : (pl.moods.take 2).length = min 2 pl.moods.length := List.length_take
    have cs : cutV (pl.signs.map sV) none (some 2) = (pl.signs.take 2).map sV := (cut_takeB 2).trans List.map_take.symm
    have cm : cutV (pl.moods.map sV) none (some 2) = (pl.moods.take 2).map sV := (cut_takeB 2).trans List.map_take.symm
    refine ⟨_, rfl, _, rfl, sa, _, rfl, e1, fun sa2 H3 s3 hsa2 => ?_⟩
    rw [cs] at hsa2
    refine ⟨_, rfl, _, rfl, ma, _, rfl, e2.mono fun _ z => s3 _ _ z, fun ma2 H4 s4 hma2 => ?_⟩
    rw [cm] at hma2
    replace hsa2 := hsa2.mono fun _ z => s4 _ _ z
    have s24 := s3.trans s4
    intro kd nkd
    have n2kd := s24.free nkd
    have s5 := sameUpd (o := .dT []) (Same.refl H4) nkd
    have hkd := @upd_same H4 kd (.dT [])
    replace hsa2 := hsa2.mono fun _ z => s5 _ _ z
    replace hma2 := hma2.mono fun _ z => s5 _ _ z
    have s25 := s24.trans s5
    generalize upd H4 kd (.dT []) = H5 at *
    refine ⟨(by show 3 ≤ sizeLine; decide), fun tt ntt => ?_⟩
    have ktt : kd ≠ tt := fun z => by rw [← z, hkd] at ntt; cases ntt
    have s6 := sameUpd (o := .tup [.ref sa2, .ref ma2, .ref kd]) (Same.refl H5) ntt
    have htt := @upd_same H5 tt (.tup [.ref sa2, .ref ma2, .ref kd])
    replace hsa2 := hsa2.mono fun _ z => s6 _ _ z
    replace hma2 := hma2.mono fun _ z => s6 _ _ z
    replace hkd := s6 _ _ hkd
    have s26 := s25.trans s6
    generalize upd H5 tt (.tup [.ref sa2, .ref ma2, .ref kd]) = H6 at *
    refine ⟨tt, _, rfl, SqT.of htt, rfl, _, _, rfl, _, _, rfl, _, _, rfl, rfl, ?_⟩
    obtain ⟨G, hG⟩ : ∃ G, G = (pl.signs.take 2).length := ⟨_, rfl⟩
    obtain ⟨M, hM⟩ : ∃ M, M = (pl.moods.take 2).length := ⟨_, rfl⟩
    rw [← hG, ← hM] at fin
    -- the frame: all but kd
    have fr : ∀ x o, x ≠ kd → H6 x = some o → cutH H6 [kd] x = some o := fun x o n e => by
      unfold cutH
      rw [if_neg (fun z => n (List.mem_singleton.mp z))]
      exact e
    have frS : Same H2 (cutH H6 [kd]) := fun x o e => fr x o (fun z => by rw [z, n2kd] at e; cases e) (s26 _ _ e)
    have fsa : TupN (cutH H6 [kd]) sa2 ((pl.signs.take 2).map sV) := hsa2.mono fun o z => fr _ _ (fun y => by rw [y, hkd] at z; cases z) z
    have fma : TupN (cutH H6 [kd]) ma2 ((pl.moods.take 2).map sV) := hma2.mono fun o z => fr _ _ (fun y => by rw [y, hkd] at z; cases z) z
    have fkd : cutH H6 [kd] kd = none := cutH_in (by simp)
    refine ⟨_, rfl, ma2, _, rfl, .inr hma2.sq, _, rfl, by omega, by rw [List.length_map]; omega, ?_⟩
    rw [List.length_map, ← hM]
    have h0 : cutH H6 [kd] = cutH H6 [kd] := rfl
    generalize hF : cutH H6 [kd] = F at *
    refine for_range (lo := 0) (n := ((M : Nat) : Int).toNat) (fun i σ H7 => ∃ (o8 o9 o10 o11 o12 : Option V) (kks : List (List Key × V)), σ = [some (.ref d), some (.int most), some (.ref sa2), some (.ref ma2), some (.ref fa), some (.ref ra), some (.ref rdA), some (.ref kd), o8, o9, o10, o11, o12] ∧
      Same F H7 ∧ H7 kd = some (.dT kks) ∧ Paired (RuleAt H7) (keptR G M pl.rules i) kks) ⟨_, _, _, _, _, [], rfl, by rw [← hF]; exact cutH_same, hkd, .nil⟩ ?_ ?_
    · rintro i σ H7 hi ⟨o8, o9, o10, o11, o12, kks, rfl, sm7, hk7, hp7⟩
      rw [Int.toNat_natCast] at hi
      rw [Int.zero_add]
      have hsaL : (pl.signs.take 2).length ≤ 2 := by omega
      have lenR : (keptR G M pl.rules i).length ≤ 4 := by
        have := inc_len (n := 4) (lo := 0) (l := (keptR G M pl.rules i).map fun kv => kv.1.1 * 2 + kv.1.2) ?_ ?_
        · rw [List.length_map] at this
          exact this
        · rw [List.pairwise_map]
          have hs := keptR_sorted G M pl.rules i
          rw [List.pairwise_map] at hs
          refine List.Pairwise.imp_of_mem (fun {a b} ha hb q => ?_) hs
          have := (keptR_mem ha).2.1
          have := (keptR_mem hb).2.1
          have q : a.1.1 < b.1.1 ∨ (a.1.1 = b.1.1 ∧ a.1.2 < b.1.2) := q
          omega
        · intro x hx
          obtain ⟨kv, hk, rfl⟩ := List.mem_map.mp hx
          have := (keptR_mem hk).2.1
          have := (keptR_mem hk).1
          omega
      refine ⟨_, rfl, sa2, _, rfl, .inr (fsa.mono fun _ z => sm7 _ _ z).sq, _, rfl, by omega, by rw [List.length_map]; omega, ?_⟩
      rw [List.length_map, ← hG]
      refine for_range (lo := 0) (n := ((G : Nat) : Int).toNat) (fun j σ H8 => ∃ (o9 o10 o11 o12 : Option V) (kks : List (List Key × V)), σ = [some (.ref d), some (.int most), some (.ref sa2), some (.ref ma2), some (.ref fa), some (.ref ra), some (.ref rdA), some (.ref kd), some (.int i), o9, o10, o11, o12] ∧
        Same F H8 ∧ H8 kd = some (.dT kks) ∧ Paired (RuleAt H8) (keptR G M pl.rules i ++ keptRow G M pl.rules i j) kks) ⟨_, _, _, _, kks, rfl, sm7, hk7, by simpa [keptRow] using hp7⟩ ?_ ?_
      · rintro j σ H8 hj ⟨o9, o10, o11, o12, kks, rfl, sm8, hk8, hp8⟩
        rw [Int.toNat_natCast] at hj
        rw [Int.zero_add]
        have e6' := sm8 _ _ (frS _ _ e6)
        have e7' : Paired (RuleAt H8) pl.rules kvs := Paired.mapP e7 fun _ _ q => q.mono fun b xs z => sm8 _ _ (frS _ _ z)
        refine ⟨_, rfl, _, rfl, (by show 2 ≤ sizeLine; decide), fun tk ntk => ?_⟩
        have s9 := sameUpd (o := .tup [.int (i : Nat), .int (j : Nat)]) (Same.refl H8) ntk
        have htk := @upd_same H8 tk (.tup [.int (i : Nat), .int (j : Nat)])
        replace sm8 := sm8.trans s9
        replace hk8 := s9 _ _ hk8
        replace hp8 := Paired.mapP hp8 fun _ _ q => RuleAt.mono (fun b xs z => s9 _ _ z) q
        replace e7' := Paired.mapP e7' fun _ _ q => RuleAt.mono (fun b xs z => s9 _ _ z) q
        replace e6' := s9 _ _ e6'
        generalize upd H8 tk (.tup [.int (i : Nat), .int (j : Nat)]) = H9 at *
        obtain ⟨g1, g2⟩ := rules_get (k := (i, j)) e7'
        refine ⟨_, rfl, rdA, _, rfl, DGet.t (k := keyT (i, j)) e6' htk, _, rfl, ?_⟩
        have lenW : (keptRow G M pl.rules i j).length ≤ 2 := by
          have hle : ∀ n, (keptRow G M pl.rules i n).length ≤ n := fun n => by
            induction n with
            | zero => simp [keptRow]
            | succ n ih =>
              rw [keptRow_succ, List.length_append]
              have : (keptOf G M pl.rules i n).length ≤ 1 := by unfold keptOf; split <;> simp
              omega
          have := hle j
          omega
        cases hget : getA pl.rules (i, j) with
        | none =>
          rw [g1 hget]
          refine iteF ?_
          have eK : keptOf G M pl.rules i j = [] := by unfold keptOf; rw [hget]
          exact ⟨_, _, _, _, kks, rfl, sm8, hk8, by rw [keptRow_succ, eK, List.append_nil]; exact hp8⟩
        | some r =>
          obtain ⟨t, g3, g4⟩ := g2 r hget
          rw [g3]
          refine iteT ?_
          have eK : keptOf G M pl.rules i j = [((i, j), ⟨r.left % G, r.move, r.later % M⟩)] := by unfold keptOf; rw [hget]
          refine ⟨_, rfl, _, rfl, _, rfl, (by show 2 ≤ sizeLine; decide), fun tk2 ntk2 => ?_⟩
          have s10 := sameUpd (o := .tup [.int (i : Nat), .int (j : Nat)]) (Same.refl H9) ntk2
          have htk2 := @upd_same H9 tk2 (.tup [.int (i : Nat), .int (j : Nat)])
          replace sm8 := sm8.trans s10
          replace hk8 := s10 _ _ hk8
          replace hp8 := Paired.mapP hp8 fun _ _ q => RuleAt.mono (fun b xs z => s10 _ _ z) q
          replace e6' := s10 _ _ e6'
          replace g4 := s10 _ _ g4
          generalize upd H9 tk2 (.tup [.int (i : Nat), .int (j : Nat)]) = H10 at *
          refine ⟨rdA, .ref t, rfl, by rw [← g3]; exact DGet.t (k := keyT (i, j)) e6' htk2, t, _, rfl, SqT.of g4, rfl, _, _, rfl, _, _, rfl, _, _, rfl, rfl, ?_⟩
          have fsa10 := fsa.mono fun _ z => sm8 _ _ z
          have fma10 := fma.mono fun _ z => sm8 _ _ z
          refine ⟨_, rfl, _, rfl, sa2, _, rfl, .inr fsa10.sq, _, _, rfl, rfl, by rw [List.length_map]; omega, ?_⟩
          rw [List.length_map, ← hG]
          refine ⟨_, rfl, _, rfl, _, rfl, ma2, _, rfl, .inr fma10.sq, _, _, rfl, rfl, by rw [List.length_map]; omega, ?_⟩
          rw [List.length_map, ← hM]
          have em1 : ((r.left : Nat) : Int) % ((G : Nat) : Int) = ((r.left % G : Nat) : Int) := (Int.natCast_emod _ _).symm
          have em2 : ((r.later : Nat) : Int) % ((M : Nat) : Int) = ((r.later % M : Nat) : Int) := (Int.natCast_emod _ _).symm
          refine ⟨(by show 3 ≤ sizeLine; decide), fun tv ntv => ?_⟩
          have s11 := sameUpd (o := .tup [.int (((r.left : Nat) : Int) % ((G : Nat) : Int)), sV r.move, .int (((r.later : Nat) : Int) % ((M : Nat) : Int))]) (Same.refl H10) ntv
          have htv := @upd_same H10 tv (.tup [.int (((r.left : Nat) : Int) % ((G : Nat) : Int)), sV r.move, .int (((r.later : Nat) : Int) % ((M : Nat) : Int))])
          replace sm8 := sm8.trans s11
          replace hk8 := s11 _ _ hk8
          replace hp8 := Paired.mapP hp8 fun _ _ q => RuleAt.mono (fun b xs z => s11 _ _ z) q
          generalize upd H10 tv (.tup [.int (((r.left : Nat) : Int) % ((G : Nat) : Int)), sV r.move, .int (((r.later : Nat) : Int) % ((M : Nat) : Int))]) = H11 at *
          replace htv : H11 tv = some (.tup [.int (r.left % G : Nat), sV r.move, .int (r.later % M : Nat)]) := by rw [htv, em1, em2]
          refine ⟨_, rfl, _, rfl, _, rfl, (by show 2 ≤ sizeLine; decide), fun tk3 ntk3 => ?_⟩
          have s12 := sameUpd (o := .tup [.int (i : Nat), .int (j : Nat)]) (Same.refl H11) ntk3
          have htk3 := @upd_same H11 tk3 (.tup [.int (i : Nat), .int (j : Nat)])
          replace sm8 := sm8.trans s12
          replace hk8 := s12 _ _ hk8
          replace htv := s12 _ _ htv
          replace hp8 := Paired.mapP hp8 fun _ _ q => RuleAt.mono (fun b xs z => s12 _ _ z) q
          generalize upd H11 tk3 (.tup [.int (i : Nat), .int (j : Nat)]) = H12 at *
          have hno : valV kks (keyT (i, j)) = none := by
            refine (rules_get (k := (i, j)) hp8).1 (getA_none fun q hq z => ?_)
            rcases List.mem_append.mp hq with y | y
            · have := (keptR_mem y).1
              rw [z] at this
              exact Nat.lt_irrefl _ this
            · obtain ⟨si, hs, y⟩ := keptRow_mem y
              have := (keptOf_mem y).1
              rw [z] at this
              injection this with _ e2
              omega
          have hkl := hp8.length
          rw [List.length_append] at hkl
          refine ⟨kd, _, rfl, DPut.t (k := keyT (i, j)) hk8 htk3 (by rw [sizeLine_eq]; omega), ?_⟩
          rw [putK_new _ hno]
          have kt := keepT (o' := .dT (kks ++ [(keyT (i, j), V.ref tv)])) hk8 (fun xs q => by cases q)
          refine ⟨_, _, _, _, _, rfl, sameUpd sm8 fkd, upd_same, ?_⟩
          rw [keptRow_succ, eK, ← List.append_assoc]
          exact paired_append (Paired.mapP hp8 fun _ _ q => RuleAt.mono (fun b xs z => kt _ _ z) q) (.cons ⟨rfl, tv, rfl, kt _ _ htv⟩ .nil)
      · rintro σ H8 ⟨o9, o10, o11, o12, kks, rfl, sm8, hk8, hp8⟩
        rw [Int.toNat_natCast, ← keptR_succ] at hp8
        exact ⟨_, _, _, _, _, kks, rfl, sm8, hk8, hp8⟩
    rintro σ H7 ⟨o8, o9, o10, o11, o12, kks, rfl, sm7, hk7, hp7⟩
    rw [Int.toNat_natCast] at hp7
    have hfa := sm7 _ _ (frS _ _ e3)
    have gs : 0 < G := by omega
    refine ⟨_, rfl, _, rfl, _, rfl, fa, rfl, ⟨_, SqT.of hfa⟩, fun D nD => ?_⟩
    have kD : kd ≠ D := fun z => by rw [← z, hk7] at nD; cases nD
    refine lc_tup (K := K) (a := fa) (xs := pl.floor.map fun n : Nat => V.int n) (fun i H8 => Same H7 H8 ∧ H8 D = some (.lst ((pl.floor.take i).map fun n : Nat => V.int (n % G : Nat)))) ⟨sameUpd (Same.refl H7) nD, upd_same⟩ (fun i H8 _ ⟨sm, _⟩ => SqT.of (sm _ _ hfa)) ?_ ?_
    · rintro i x H8 hx ⟨sm, hD⟩
      rw [List.getElem?_map] at hx
      cases hai : pl.floor[i]? with
      | none => rw [hai] at hx; cases hx
      | some ai =>
        rw [hai] at hx
        cases hx
        have fsa8 := fsa.mono fun _ z => sm _ _ (sm7 _ _ z)
        refine ⟨rfl, _, rfl, _, rfl, sa2, _, rfl, .inr fsa8.sq, _, _, rfl, rfl, by rw [List.length_map]; omega, ?_⟩
        refine ⟨_, hD, by rw [List.length_map, List.length_take, sizeLine_eq]; omega, sameUpd sm nD, ?_⟩
        rw [upd_same, List.length_map, ← hG, List.take_succ (l := pl.floor), hai, List.map_append]
        rfl
    rintro H8 ⟨s8, hD⟩
    rw [List.length_map, List.take_length] at hD
    refine ⟨D, _, rfl, .inl ⟨SqL.of hD, fun fa2 nfa2 => ?_⟩⟩
    have eF : ((pl.floor.map fun n : Nat => V.int (n % G : Nat))) = (pl.floor.map (· % G)).map fun n : Nat => V.int n := by rw [List.map_map]; rfl
    rw [eF]
    have s9 := sameUpd (o := .tup ((pl.floor.map (· % G)).map fun n : Nat => V.int n)) (Same.refl H8) nfa2
    have hfa2 := @upd_same H8 fa2 (.tup ((pl.floor.map (· % G)).map fun n : Nat => V.int n))
    have s79 := s8.trans s9
    generalize upd H8 fa2 (.tup ((pl.floor.map (· % G)).map fun n : Nat => V.int n)) = H9 at *
    have sF9 := sm7.trans s79
    have s29 := frS.trans sF9
    have hk9 := s79 _ _ hk7
    have hp9 : Paired (RuleAt H9) (keptR G M pl.rules M) kks := Paired.mapP hp7 fun _ _ q => RuleAt.mono (fun b xs z => s79 _ _ z) q
    have last : ∀ (ra2 : Addr) (H10 : Hp), Same H9 H10 → H10 ra2 = some (.tup ((ras.take 2).map V.ref)) → ∀ t, H10 t = none → Q (.ref t) (upd H10 t (.tup [.ref sa2, .ref ma2, .ref fa2, .ref ra2, .ref kd])) := fun ra2 H10 s10 hra2 t nt => by
      have s11 := sameUpd (o := .tup [.ref sa2, .ref ma2, .ref fa2, .ref ra2, .ref kd]) (Same.refl H10) nt
      have sX := s10.trans s11
      have s2X := s29.trans sX
      refine fin t _ s2X ((s29.trans s10).free nt) ⟨sa2, ma2, fa2, ra2, kd, ras.take 2, upd_same, fsa.mono fun _ z => sX _ _ (sF9 _ _ z), fma.mono fun _ z => sX _ _ (sF9 _ _ z), sX _ _ hfa2, s11 _ _ hra2, ?_, kks, sX _ _ hk9, Paired.mapP hp9 fun _ _ q => RuleAt.mono (fun b xs z => sX _ _ z) q⟩
      exact Paired_take (Paired.mapP e5 fun _ _ q => s2X _ _ q) 2
    refine ⟨_, rfl, _, rfl, ra, _, rfl, SqT.of (s29 _ _ e4), fun hwh => ?_, fun hwh ra2 nra2 => ?_⟩
    · have e2 : ras.take 2 = ras := by
        have h2 := hwh.2
        rw [show (some (2 : Int)) = some ((2 : Nat) : Int) from rfl, HT.sIx_nat, List.length_map] at h2
        exact List.take_of_length_le (by omega)
      refine ⟨_, rfl, (by show 5 ≤ sizeLine; decide), fun t nt => ?_⟩
      exact last ra H9 (Same.refl _) (by rw [e2]; exact s29 _ _ e4) t nt
    · have cr : cutV (ras.map V.ref) none (some 2) = (ras.take 2).map V.ref := (cut_takeB 2).trans List.map_take.symm
      rw [cr]
      refine ⟨_, rfl, (by show 5 ≤ sizeLine; decide), fun t nt => ?_⟩
      exact last ra2 _ (sameUpd (Same.refl H9) nra2) upd_same t nt
theorem ok_sho (T : ShoT K mg) : FnE P w K mg base CX0 4 ("_law_short", none) ["_law_d", "_law_most"] spShort :=
  (ok_shoB T).impJ fun vs H Q E ⟨d, most, e, h1, h2, h3, k⟩ => ⟨d, most, e, h1, h2, h3, fun a H' pl a1 a2 a3 a4 a5 _ a7 a8 => k a H' pl a1 a2 a3 a4 a5 a7 a8⟩
end
end Sw

end

section
set_option maxRecDepth 100000
/-! robots and names of signs, as lists of the law's and the program's results -/
namespace Sw
open PySem PySem.Spec PyProof.Rows L2 SwA
abbrev wayS (r : Bool) : Str := if r = true then "right" else "left"
def RobT (moods : List Cs) (H : Hp) (a : Addr) (r : Rob) : Prop := H a = some (.tup [.int r.1, .str (wayS r.2.1), sV (moods.getD r.2.2 [])])
abbrev namesV (signs : List Cs) (floor : List Nat) : List V := floor.map fun s => sV (signs.getD s [])
end Sw

end

section
set_option maxRecDepth 100000
set_option maxHeartbeats 4000000
/-! properties -/
namespace Sw
open PySem PySem.Spec PyProof.Rows L2 SwA
/-- a property -/
structure PrT (K : PySem.W.Frag) (C f q : Str) (st : Stmt) : Prop where
  d : ∃ fd, FunD K f q (defArgs st) (defBody st) (defScope st) [] [] (He5.wf K (He.ga K C) "property" f) fd
  p : PropOf K (He.ga K C) f (He.ma K (He.ga K C) f) (He5.wf K (He.ga K C) "property" f)
/-- a def at an address keeps a promise -/
def FnX (P : Program) (w : World) (K : PySem.W.Frag) (mg : Str → Option Value) (base : Heap) (CX : CXT) (k : Nat) (f : Addr) (ps : List Str) (sp : Sp) : Prop :=
  ∃ fd, FnOk P w K mg base CX k f fd ps sp ∧ Binds K fd ps []
end Sw

end

section
set_option maxRecDepth 100000
set_option maxHeartbeats 4000000
/-! next_tick -/
namespace Sw
open PySem PySem.Spec PyProof.Rows L2 SwA
section
variable {P : Program} {w : World} {K : PySem.W.Frag} {mg : Str → Option Value} {base : Heap}
def spNextTick (K : PySem.W.Frag) : Sp := fun vs H Q _ => ∃ (pa sa : Addr) (n m : Nat) (pl : Plan) (st : MSt), vs = [.ref pa, .ref sa] ∧ PlanAt K H pa pl ∧ StateAt K H sa st ∧ WfM n m st ∧ n ≤ 1000 ∧ m ≤ 1000 ∧
  ∀ (b : Addr) (H' : Hp), Same H H' → TickAt K H' b (nextM pl.rules st) → Q (.ref b) H'
abbrev ntN : List Str := ["parsed", "state", "swept", "words", "number", "word", "robot"]
theorem sc_next_tick : FnScope ntN ["parsed", "state"] (defScope s_next_tick) := ⟨rfl, rfl, rfl, by decide +kernel, rfl, by decide +kernel, by decide +kernel⟩
theorem ok_next_tick (T : MachT K mg) : FnE P w K mg base CX0 4 ("next_tick", none) ["parsed", "state"] (spNextTick K) := by
  obtain ⟨fd, F⟩ := T.next_tick.d
  obtain ⟨fdA, GA, bA, kA⟩ := ok_act (P := P) (w := w) (base := base) T
  obtain ⟨fdT, GT, bT, kT⟩ := ok_tick (P := P) (w := w) (base := base) T
  refine ⟨fd, F.ok sc_next_tick (fun vs H Q E h => ?_) (fun cdv A outer s H vs Q E hr h => ?_), F.bindsN fun _ _ _ _ _ _ us hl => match us, hl with | [_, _], _ => rfl, F.kp⟩
  · obtain ⟨pa, sa, n, m, pl, st, rfl, _⟩ := h
    rfl
  · obtain ⟨pa, sa, n, m, pl, st, rfl, hp, hst, hw, hn, hm, k⟩ := h
    have hr2 : Room 2 _ := hr.mono (by decide)
    refine ⟨_, PSs.nox (pss_cons (ps_par (by rfl) sc_next_tick.nd (i := 2) (j := 3) rfl rfl (by decide) rfl rfl (pa_cons (pe_tupleOfN (by rfl) T.lo.p.tuple
        (pe_lc (own := [("robot", 6)]) (g := gName 6) (tt := tYes) (te := tOp (rIxT K) (tVar 6) (tC (.int 0))) rfl sc_next_tick.nd (pi_tup (pe_fld (pv 1) rfl))
          (blkOk_by (own := [("robot", 6)]) (N := ntN) (sc := defScope s_next_tick) (by decide +kernel)) (fun _ _ _ _ _ => pg_name (i := 6) sc_next_tick.nd rfl (Or.inl rfl)) (fun _ _ _ _ _ => pts_nil)
          (fun _ _ _ _ _ => pe_ix ix_tup (pv 6) pe_int (fun _ _ => rfl)))) (pa_cons (pe_lst pa_nil) pa_nil)) (by rfl))
      (pss_cons (ps_for PassesOwn.never rfl (pi_range1 (by rfl) T.lo.p.range (pa_cons (pe_callB call_len_seq (by rfl) T.lo.p.l.len boot_len (pa_cons (pe_fld (pv 1) rfl) pa_nil)) pa_nil)) (pg_name (i := 4) sc_next_tick.nd rfl (.inl rfl))
        (pss_cons (ps_asg (pe_call GA hr rfl T.act.g kA bA .nil pass0 (pa_cons (pv 0) (pa_cons (pv 1) (pa_cons (pv 4) pa_nil)))) (pg_tup rfl (pgs_cons (pg_name (i := 5) sc_next_tick.nd rfl (.inl rfl)) (pgs_cons (pg_name (i := 1) sc_next_tick.nd rfl (.inl rfl)) pgs_nil))))
        (pss_one (ps_expr (pe_bm PySem.F.plainAttrs_list PySem.F.slot_list_append PySem.F.type_list_append mt_append (pv 3) (pa_cons (pv 5) pa_nil))))))
      (pss_one (ps_ret (pe_make T.tick.m GT hr2 rfl T.tick.g bT .nil pass0 (pa_cons (pv 2) (pa_cons (pe_callTy call_tuple_of (by rfl) T.lo.p.tuple (by decide +kernel) (pa_cons (pv 3) pa_nil)) (pa_cons (pv 1) pa_nil)))))))), ?_⟩
    obtain ⟨ds, fa, ra, ras, q1, q2, q3, q4⟩ := id hst
    have hlr : ras.length = m := by rw [q4.length, hw.ro]
    refine ⟨_, rfl, sa, _, ds, _, _, rfl, q1, T.state.c, T.state.n _ (by simp), ls_robots, ra, rfl, ⟨_, SqT.of q3⟩, fun D nD => ?_⟩
    refine lc_tup (K := K) (a := ra) (xs := ras.map V.ref) (vs := [6]) (fun i H2 => H2 D = some (.lst (((st.robots.take i).map (·.1)).map iV)) ∧ Same H H2) ⟨upd_same, sameUpd (Same.refl H) nD⟩ (fun i H2 _ ⟨_, sm⟩ => SqT.of (sm _ _ q3)) ?_ ?_
    · rintro i x H2 hx ⟨hD, sm⟩
      rw [List.getElem?_map] at hx
      cases hai : ras[i]? with
      | none => rw [hai] at hx; cases hx
      | some ai =>
        rw [hai] at hx
        cases hx
        obtain ⟨ri, hri, hrob⟩ := Paired_idx q4 hai
        have hil : i < ras.length := (List.getElem?_eq_some_iff.mp hai).1
        refine ⟨rfl, _, rfl, ai, _, _, _, rfl, rfl, SqT.of (sm _ _ hrob), rfl, _, hD, ?_, ?_, sameUpd sm nD⟩
        · rw [List.length_map, List.length_map, List.length_take, sizeLine_eq]
          omega
        · rw [upd_same, List.take_succ, hri, List.map_append, List.map_append]
          rfl
    · rintro H2 ⟨hD, sm⟩
      rw [List.length_map, q4.length, List.take_length] at hD
      refine ⟨D, _, rfl, SqL.of hD, fun sw osw nsw oc od => ?_⟩
      have s3 := sm.trans (sameUpd (o := .frz osw (.tup ((st.robots.map (·.1)).map iV))) (Same.refl H2) nsw)
      have hsw : TupN (upd H2 sw (.frz osw (.tup ((st.robots.map (·.1)).map iV)))) sw ((st.robots.map (·.1)).map iV) := ⟨osw, oc, od, upd_same⟩
      generalize upd H2 sw (.frz osw (.tup ((st.robots.map (·.1)).map iV))) = H3 at *
      refine ⟨(by show 0 ≤ sizeLine; decide), fun wl nwl => ?_⟩
      have s4 := s3.trans (sameUpd (o := .lst []) (Same.refl H3) nwl)
      have nwl0 : H wl = none := s3.free nwl
      have hsw4 : TupN (upd H3 wl (.lst [])) sw ((st.robots.map (·.1)).map iV) := hsw.mono fun _ z => sameUpd (Same.refl H3) nwl _ _ z
      have hwl := @upd_same H3 wl (.lst [])
      generalize upd H3 wl (.lst []) = H4 at *
      refine ⟨_, _, rfl, ?_⟩
      refine ⟨_, rfl, sa, _, ds, _, _, rfl, s4 _ _ q1, T.state.c, T.state.n _ (by simp), ls_robots, ra, _, rfl, .inr (SqT.of (s4 _ _ q3)), _, rfl, by omega, by simp; omega, ?_⟩
      have elen : (((ras.map V.ref).length : Nat) : Int).toNat = m := by rw [Int.toNat_natCast, List.length_map, hlr]
      refine for_range (lo := 0) (n := (((ras.map V.ref).length : Nat) : Int).toNat) (fun i σ H5 => ∃ (sb : Addr) (o4 o5 : Option V), σ = [some (.ref pa), some (.ref sb), some (.ref sw), some (.ref wl), o4, o5, none] ∧ Same H H5 ∧ H5 wl = some (.lst ((actsM pl.rules st i).1.map sV)) ∧
        TupN H5 sw ((st.robots.map (·.1)).map iV) ∧ StateAt K H5 sb (actsM pl.rules st i).2) ⟨sa, none, none, rfl, s4, hwl, hsw4, hst.same s4⟩ ?_ ?_
      · rintro i σ H5 hi ⟨sb, o4, o5, rfl, s5, hw5, hsw5, hst5⟩
        rw [elen] at hi
        refine ⟨_, rfl, _, rfl, _, rfl, pa, sb, i, n, m, pl, _, by rw [Int.zero_add]; rfl, hp.same s5, hst5, hw.acts i, hi, hn, hm, fun b sc H6 s6 hb hst6 => ?_⟩
        refine ⟨b, _, rfl, SqT.of hb, rfl, _, _, rfl, _, _, rfl, rfl, ?_⟩
        refine ⟨_, rfl, .inl ⟨rfl, _, SqL.of (s6 _ _ hw5)⟩, _, rfl, wl, _, _, rfl, rfl, s6 _ _ hw5, ?_, ?_⟩
        · rw [List.length_map, acts_len, sizeLine_eq]
          omega
        · have sk : ∀ a o, a ≠ wl → H6 a = some o → (upd H6 wl (.lst ((actsM pl.rules st i).1.map sV ++ [sV (actM pl.rules (actsM pl.rules st i).2 i).1]))) a = some o := fun a o h e => by rw [upd_ne h]; exact e
          refine ⟨sc, _, _, rfl, sameUpd (s5.trans s6) nwl0, ?_, ?_, ?_⟩
          · rw [upd_same]
            show _ = some (HO.lst (((actsM pl.rules st i).1 ++ [(actM pl.rules (actsM pl.rules st i).2 i).1]).map sV))
            rw [List.map_append]
            rfl
          · refine hsw5.mono fun o z => ?_
            have z6 := s6 _ _ z
            rw [upd_ne (ne_of z6 (s6 _ _ hw5) (by intro q; cases q))]
            exact z6
          · obtain ⟨d6, f6, r6, rs6, z1, z2, z3, z4⟩ := hst6
            have kt := keepT (o' := .lst ((actsM pl.rules st i).1.map sV ++ [sV (actM pl.rules (actsM pl.rules st i).2 i).1])) (s6 _ _ hw5) (fun xs q => by cases q)
            exact ⟨d6, f6, r6, rs6, by rw [upd_ne (ne_of z1 (s6 _ _ hw5) (by intro q; cases q))]; exact z1, kt _ _ z2, kt _ _ z3, Paired.mapP z4 fun a r q => kt _ _ q⟩
      · rintro σ H5 ⟨sb, o4, o5, rfl, s5, hw5, hsw5, hst5⟩
        rw [elen] at hw5 hst5
        refine ⟨_, rfl, _, rfl, wl, _, rfl, .inl ⟨SqL.of hw5, fun wt nwt => ?_⟩⟩
        have s6 := sameUpd (o := .tup ((actsM pl.rules st m).1.map sV)) (Same.refl H5) nwt
        refine ⟨_, rfl, ?_⟩
        intro x dx0 nx ndx ne0
        refine init_at (names := ["swept", "words", "state"]) rfl nx ndx fun H7 sm7 hx => ⟨rfl, ?_⟩
        obtain ⟨d7, hd7⟩ := hx
        have em : nextM pl.rules st = ⟨st.robots.map (·.1), (actsM pl.rules st m).1, (actsM pl.rules st m).2⟩ := by
          unfold nextM
          rw [hw.ro]
        refine k x H7 (s5.trans (s6.trans sm7)) ?_
        rw [em]
        exact ⟨d7, sw, wt, sb, hd7, hsw5.mono fun _ z => sm7 _ _ (s6 _ _ z), sm7 _ _ upd_same, hst5.same (s6.trans sm7)⟩
end
end Sw

end

section
set_option maxRecDepth 100000
set_option maxHeartbeats 400000
/-! Story: made -/
namespace Sw
open PySem PySem.Spec PyProof.Rows L2 SwA
theorem ps_no {X : Cx} {st : Stmt} : PS X st (fun _ _ _ => False) := ⟨fun pins s σ H D I h => h.elim⟩
/-- what never changes -/
def FixS (K : PySem.W.Frag) : HO → Prop
  | .tup _ => True
  | .dT _ => True
  | .frz _ _ => True
  | .ins C _ _ => C ≠ He.ga K "Story"
  | _ => False
def FzS (K : PySem.W.Frag) (H H' : Hp) : Prop := ∀ a o, H a = some o → FixS K o → H' a = some o
theorem FzS.put {K : PySem.W.Frag} {H : Hp} {x : Addr} {o o' : HO} (hx : H x = some o) (nf : ¬ FixS K o) : FzS K H (upd H x o') := fun a u e f => by
  rw [upd_ne (ne_of e hx (fun q => nf (q ▸ f)))]
  exact e
structure ApS (K : PySem.W.Frag) : Prop where
  st : He.ga K "State" ≠ He.ga K "Story"
  pl : He.ga K "Plan" ≠ He.ga K "Story"
  tk : He.ga K "Tick" ≠ He.ga K "Story"
section
variable {K : PySem.W.Frag} {H H' : Hp}
theorem StateAt.fzS (A : ApS K) {a : Addr} {st : MSt} (s : FzS K H H') (h : StateAt K H a st) : StateAt K H' a st :=
  let ⟨dx, fa, ra, ras, e1, e2, e3, e4⟩ := h
  ⟨dx, fa, ra, ras, s _ _ e1 A.st, s _ _ e2 trivial, s _ _ e3 trivial, Paired.mapP e4 fun _ _ q => s _ _ q trivial⟩
theorem TickAt.fzS (A : ApS K) {a : Addr} {t : TickM} (s : FzS K H H') (h : TickAt K H a t) : TickAt K H' a t :=
  let ⟨dx, sw, wo, sa, e1, e2, e3, e4⟩ := h
  ⟨dx, sw, wo, sa, s _ _ e1 A.tk, e2.mono fun _ z => s _ _ z trivial, s _ _ e3 trivial, e4.fzS A s⟩
theorem PlanAt.fzS (A : ApS K) {a : Addr} {pl : Plan} (s : FzS K H H') (h : PlanAt K H a pl) : PlanAt K H' a pl := by
  obtain ⟨dx, sa, ma, fa, ra, rd, ras, e1, e2, e3, e4, e5, e6, kvs, e7, e8⟩ := h
  exact ⟨dx, sa, ma, fa, ra, rd, ras, s _ _ e1 A.pl, e2.mono fun _ z => s _ _ z trivial, e3.mono fun _ z => s _ _ z trivial, s _ _ e4 trivial, s _ _ e5 trivial, Paired.mapP e6 fun _ _ q => s _ _ q trivial, kvs, s _ _ e7 trivial, Paired.mapP e8 fun _ _ q => q.mono fun _ _ z => s _ _ z trivial⟩
end
abbrev stoFs (a b : V) : List (Str × V) := [("ticks", a), ("start", b)]
theorem lo_ticks {a b : V} : List.lookup ("ticks" : Str) (stoFs a b) = some a := by kernel_rfl
theorem lo_start {a b : V} : List.lookup ("start" : Str) (stoFs a b) = some b := by kernel_rfl
theorem put_s1 (a : V) : putF "ticks" a [] = ([("ticks", a)] : List (Str × V)) := by kernel_rfl
theorem put_s2 (a b : V) : putF "start" b [("ticks", a)] = stoFs a b := by kernel_rfl
theorem put_s3 (a b c : V) : putF "start" c (stoFs a b) = stoFs a c := by kernel_rfl
def ticksL (pl : Plan) (n : Nat) : List TickM := (List.range n).map (tkN pl)
/-- a finished story -/
def StoryAt (K : PySem.W.Frag) (H : Hp) (a : Addr) (pl : Plan) (n s : Nat) : Prop := ∃ (dx tl : Addr) (tas : List Addr), H a = some (.ins (He.ga K "Story") dx (stoFs (.ref tl) (.int s))) ∧ H tl = some (.lst (tas.map V.ref)) ∧ Paired (TickAt K H) tas (ticksL pl n) ∧ Rep (stN pl) n s ∧ n ≤ 20000
theorem StoryAt.same {K : PySem.W.Frag} {H H' : Hp} {a : Addr} {pl : Plan} {n s : Nat} (h : StoryAt K H a pl n s) (m : Same H H') : StoryAt K H' a pl n s :=
  let ⟨dx, tl, tas, e1, e2, e3, e4⟩ := h
  ⟨dx, tl, tas, m _ _ e1, m _ _ e2, Paired.mapP e3 fun _ _ q => q.same m, e4⟩
theorem hu9_of {A : Around} {k : Nat} (hr : Room k A) : A.units + 9 < cLine := by
  have := hr.units
  omega
structure StoT (K : PySem.W.Frag) (mg : Str → Option Value) : Prop where
  m : MachT K mg
  ap : ApS K
  key : PrT K "State" "key" "State.key" s_State_key
  MAX : ∃ t, mg "MAX_STATES" = some (.int 20000 t)
  sto : MkC K mg "Story" ["ticks", "start"]
  d_sto : FD K ("Story", some "__init__") "__init__" "Story.__init__" s_Story_init
section
variable {P : Program} {w : World} {K : PySem.W.Frag} {mg : Str → Option Value} {base : Heap}
def spKey (K : PySem.W.Frag) : Sp := fun vs H Q _ => ∃ (sa : Addr) (st : MSt), vs = [.ref sa] ∧ StateAt K H sa st ∧ ∀ (b : Addr) (H' : Hp), H b = none → Same H H' → KeyN H' (keyS st) b → Q (.ref b) H'
theorem sc_key : FnScope ["self"] ["self"] (defScope s_State_key) := ⟨rfl, rfl, rfl, by decide +kernel, rfl, by decide +kernel, by decide +kernel⟩
theorem nk_nums {H : Hp} : ∀ l : List Nat, NkAll H (l.map fun n : Nat => .num n) (l.map fun n : Nat => V.int n)
  | [] => .nil
  | _ :: l => .cons (.int _) (nk_nums l)
theorem nk_robs {H : Hp} : ∀ {ras : List Addr} {rs : List Rob}, Paired (Rob3At H) ras rs → NkAll H (rs.map robK) (ras.map V.ref)
  | _, _, .nil => .nil
  | _, _, .cons h t => .cons (.tup h (.cons (.int _) (.cons (.bl _) (.cons (.int _) .nil)))) (nk_robs t)
theorem ok_key (T : StoT K mg) : FnX P w K mg base CX0 1 (He5.wf K (He.ga K "State") "property" "key") ["self"] (spKey K) := by
  obtain ⟨fd, F⟩ := T.key.d
  refine ⟨fd, F.ok sc_key (fun vs H Q E h => ?_) (fun cdv A outer s H vs Q E hr h => ?_), F.bindsN fun _ _ _ _ _ _ us hl => match us, hl with | [_], _ => rfl⟩
  · obtain ⟨sa, st, rfl, _⟩ := h
    rfl
  · obtain ⟨sa, st, rfl, hS, k⟩ := h
    refine ⟨_, PSs.nox (pss_one (ps_ret (pe_tup (pa_cons (pe_fld (pv 0) rfl) (pa_cons (pe_fld (pv 0) rfl) pa_nil))))), ?_⟩
    obtain ⟨dx, fa, ra, ras, e1, e2, e3, e4⟩ := id hS
    refine ⟨_, rfl, sa, _, dx, _, _, rfl, e1, T.m.state.c, T.m.state.n _ (by simp), ls_floor, _, rfl, sa, _, dx, _, _, rfl, e1, T.m.state.c, T.m.state.n _ (by simp), ls_robots, (by show 2 ≤ sizeLine; decide), fun t nt => ?_⟩
    have s1 := sameUpd (o := .tup [.ref fa, .ref ra]) (Same.refl H) nt
    exact k t _ nt s1 ⟨.tup upd_same (.cons (.tup (s1 _ _ e2) (nk_nums _)) (.cons (.tup (s1 _ _ e3) (nk_robs (Paired.mapP e4 fun _ _ q => s1 _ _ q))) .nil)), depth_keyS st⟩
/-- while the story is told: n ticks so far -/
structure Tell (P : Program) (w : World) (K : PySem.W.Frag) (H0 H : Hp) (p dx tl sd pa sa : Addr) (tas : List Addr) (kvs : List KvN) (pl : Plan) (n : Nat) : Prop where
  sm : Same H0 H
  ob : H p = some (.ins (He.ga K "Story") dx (stoFs (.ref tl) .non))
  li : H tl = some (.lst (tas.map V.ref))
  di : DictN P w H sd kvs
  pn : PlanAt K H pa pl
  st : StateAt K H sa (stN pl n)
  ti : Paired (TickAt K H) tas (ticksL pl n)
  se : SeenI (stN pl) n kvs
  nd : ∀ i j, i < j → j < n → stN pl i ≠ stN pl j
theorem Tell.same {H0 H H' : Hp} {p dx tl sd pa sa : Addr} {tas : List Addr} {kvs : List KvN} {pl : Plan} {n : Nat} (h : Tell P w K H0 H p dx tl sd pa sa tas kvs pl n) (s : Same H H') : Tell P w K H0 H' p dx tl sd pa sa tas kvs pl n :=
  ⟨h.sm.trans s, s _ _ h.ob, s _ _ h.li, h.di.same s, h.pn.same s, h.st.same s, Paired.mapP h.ti fun _ _ q => q.same s, h.se, h.nd⟩
def spStory (K : PySem.W.Frag) : Sp := fun vs H Q _ => ∃ (H0 : Hp) (p dx pa : Addr) (pl : Plan), vs = [.ref p, .ref pa] ∧ H p = some (.ins (He.ga K "Story") dx []) ∧ Same H0 H ∧ H0 p = none ∧ PlanAt K H0 pa pl ∧ (∀ r ∈ pl.robots, r.1 < pl.floor.length) ∧ pl.floor.length ≤ 1000 ∧ pl.robots.length ≤ 1000 ∧ Early pl 20000 ∧
  ∀ (n s : Nat) (H' : Hp), Same H0 H' → StoryAt K H' p pl n s → Q .non H'
abbrev siN : List Str := ["self", "parsed", "state", "seen"]
theorem sc_story : FnScope siN ["self", "parsed"] (defScope s_Story_init) := ⟨rfl, rfl, rfl, by decide +kernel, rfl, by decide +kernel, by decide +kernel⟩
theorem ok_story (T : StoT K mg) : FnE P w K mg base CX0 5 ("Story", some "__init__") ["self", "parsed"] (spStory K) := by
  obtain ⟨fd, F⟩ := T.d_sto
  obtain ⟨fdF, GF, bF, kF⟩ := ok_first_state (P := P) (w := w) (base := base) T.m
  obtain ⟨fdN, GN, bN, kN⟩ := ok_next_tick (P := P) (w := w) (base := base) T.m
  obtain ⟨fdK, GK, bK⟩ := ok_key (P := P) (w := w) (base := base) T
  obtain ⟨tMX, mMX⟩ := T.MAX
  refine ⟨fd, F.ok sc_story (fun vs H Q E h => ?_) (fun cdv A outer s H vs Q E hr h => ?_), F.bindsN fun _ _ _ _ _ _ us hl => match us, hl with | [_, _], _ => rfl, F.kp⟩
  · obtain ⟨H0, p, dx, pa, pl, rfl, _⟩ := h
    rfl
  · obtain ⟨H0, p, dx, pa, pl, rfl, hp, sm, n0p, hpl, hrt, h1000, h1000r, hea, k⟩ := h
    have hr2 : Room 2 _ := hr.mono (by decide)
    have hr3 : Room 3 _ := hr.mono (by decide)
    have hr4 : Room 4 _ := hr.mono (by decide)
    refine ⟨_, PSs.nox (pss_cons (ps_fld (pv 0) (pe_lst pa_nil) rfl)
      (pss_cons (ps_fld (pv 0) pe_non rfl)
      (pss_cons (ps_par (i := 2) (j := 3) (by rfl) sc_story.nd rfl rfl (by decide) rfl rfl (pa_cons (pe_call GF hr3 rfl T.m.first_state.g kF bF .nil pass0 (pa_cons (pv 1) pa_nil)) (pa_cons (pe_dnewN (P := P) (w := w) rfl rfl) pa_nil)) (by rfl))
      (pss_one (ps_while PassesOwn.never (pt_cmpR op_isN (pe_fld (pv 0) rfl) pe_non (nomark _))
        (pss_one (ps_if (pt_cmp (pc_nin (P := P) (w := w) rfl rfl (hu9_of hr) (pe_prop (pv 2) T.m.state.c T.key.p GK hr2 bK .nil pass0 rfl) (pv 3)))
          (pss_one (ps_fld (pv 0) (pe_nget (P := P) (w := w) rfl rfl (hu9_of hr) (pv 3) (pe_prop (pv 2) T.m.state.c T.key.p GK hr2 bK .nil pass0 rfl) (fun _ _ => rfl)) rfl))
          (pss_cons (ps_if (pt_cmpR op_eq (pe_callB call_len_seq (by rfl) T.m.lo.p.l.len boot_len (pa_cons (pe_fld (pv 0) rfl) pa_nil)) (pe_glob (v := .int 20000) rfl mMX ⟨_, rfl⟩) (nomark _))
            (pss_one ps_no) pss_nil)
          (pss_cons (ps_nput (P := P) (w := w) rfl rfl (hu9_of hr) (pv 3) (pe_prop (pv 2) T.m.state.c T.key.p GK hr2 bK .nil pass0 rfl) (pe_callB call_len_seq (by rfl) T.m.lo.p.l.len boot_len (pa_cons (pe_fld (pv 0) rfl) pa_nil)) rfl)
          (pss_cons (ps_expr (pe_bm PySem.F.plainAttrs_list PySem.F.slot_list_append PySem.F.type_list_append mt_append (pe_fld (pv 0) rfl) (pa_cons (pe_call GN hr4 rfl T.m.next_tick.g kN bN .nil pass0 (pa_cons (pv 1) (pa_cons (pv 2) pa_nil))) pa_nil)))
          (pss_one (ps_set (i := 2) sc_story.nd rfl (.inl rfl) (pe_fld (pe_ix ix_list (pe_fld (pv 0) rfl) (pe_un un_neg pe_int) (fun _ _ => rfl)) rfl))))))))))))), ?_⟩
    refine ⟨(by show 0 ≤ sizeLine; decide), fun tl ntl => ?_⟩
    have ptl := ne_of_none hp ntl
    have n0tl := sm.free ntl
    have s1 := sameUpd (o := .lst []) (Same.refl H) ntl
    have htl := @upd_same H tl (.lst [])
    replace hp := s1 _ _ hp
    replace sm := sm.trans s1
    generalize upd H tl (.lst []) = H1 at *
    refine ⟨_, rfl, p, _, dx, _, rfl, hp, T.sto.c, T.sto.n _ (by simp), lnZ ln0, ?_⟩
    rw [put_s1]
    replace sm := sameUpd (o := .ins (He.ga K "Story") dx [("ticks", .ref tl)]) sm n0p
    replace htl : (upd H1 p (.ins (He.ga K "Story") dx [("ticks", .ref tl)])) tl = _ := (upd_ne (Ne.symm ptl)).trans htl
    replace hp := @upd_same H1 p (.ins (He.ga K "Story") dx [("ticks", .ref tl)])
    generalize upd H1 p (.ins (He.ga K "Story") dx [("ticks", .ref tl)]) = H2 at *
    refine ⟨_, rfl, p, _, dx, _, rfl, hp, T.sto.c, T.sto.n _ (by simp), lnZ (lnS ln0), ?_⟩
    rw [put_s2]
    replace sm := sameUpd (o := .ins (He.ga K "Story") dx (stoFs (.ref tl) .non)) sm n0p
    replace htl : (upd H2 p (.ins (He.ga K "Story") dx (stoFs (.ref tl) .non))) tl = _ := (upd_ne (Ne.symm ptl)).trans htl
    replace hp := @upd_same H2 p (.ins (He.ga K "Story") dx (stoFs (.ref tl) .non))
    generalize upd H2 p (.ins (He.ga K "Story") dx (stoFs (.ref tl) .non)) = H3 at *
    refine ⟨_, rfl, pa, pl, rfl, hpl.same sm, by omega, fun sa0 H4 nsa s4 hst => ?_⟩
    replace sm := sm.trans s4
    replace htl := s4 _ _ htl
    replace hp := s4 _ _ hp
    intro sd nsd
    have n0sd := sm.free nsd
    have s5 := sameUpd (o := DNo P w sd []) (Same.refl H4) nsd
    have hsd := @upd_same H4 sd (DNo P w sd [])
    replace hp := s5 _ _ hp
    replace htl := s5 _ _ htl
    replace sm := sm.trans s5
    replace hst := hst.same s5
    generalize upd H4 sd (DNo P w sd []) = H5 at *
    refine ⟨_, _, rfl, ?_⟩
    have T0 : Tell P w K H0 H5 p dx tl sd pa sa0 [] [] pl 0 := ⟨sm, hp, htl, ⟨hsd, fun x hx => by cases hx⟩, hpl.same sm, hst, .nil, rfl, fun i j _ hj => by omega⟩
    have hlt : ∀ {n : Nat}, (∀ i j, i < j → j < n → stN pl i ≠ stN pl j) → n ≤ 20000 := fun {n} nd => by
      obtain ⟨i, j, h1, h2, h3⟩ := hea
      rcases Nat.lt_or_ge j n with z | z
      · exact absurd h3 (nd i j h1 z)
      · omega
    refine ⟨fun m σ Hx => (∃ (sa : Addr) (tas : List Addr) (kvs : List KvN) (n : Nat), σ = [some (.ref p), some (.ref pa), some (.ref sa), some (.ref sd)] ∧ Tell P w K H0 Hx p dx tl sd pa sa tas kvs pl n ∧ m = 20001 - n) ∨
      ∃ (sa : Addr) (n s : Nat), σ = [some (.ref p), some (.ref pa), some (.ref sa), some (.ref sd)] ∧ Same H0 Hx ∧ StoryAt K Hx p pl n s ∧ m = 0, ⟨20001, .inl ⟨sa0, [], [], 0, rfl, T0, rfl⟩⟩, ?_⟩
    rintro m σ Hx (⟨sa, tas, kvs, n, rfl, t, rfl⟩ | ⟨sa, n, s2, rfl, sm, hS, rfl⟩)
    rotate_left
    · obtain ⟨ds, tl2, tas, e1, _⟩ := id hS
      refine ⟨_, rfl, p, _, ds, _, _, rfl, e1, T.sto.c, T.sto.n _ (by simp), lo_start, rfl, _, rfl, ?_⟩
      exact k n s2 Hx sm hS
    have hn := hlt t.nd
    refine ⟨_, rfl, p, _, dx, _, _, rfl, t.ob, T.sto.c, T.sto.n _ (by simp), lo_start, rfl, _, rfl, ?_⟩
    refine ⟨fun σ' H' => ∃ m', m' < 20001 - n ∧ ((∃ (sa : Addr) (tas : List Addr) (kvs : List KvN) (n : Nat), σ' = [some (.ref p), some (.ref pa), some (.ref sa), some (.ref sd)] ∧ Tell P w K H0 H' p dx tl sd pa sa tas kvs pl n ∧ m' = 20001 - n) ∨
      ∃ (sa : Addr) (n s : Nat), σ' = [some (.ref p), some (.ref pa), some (.ref sa), some (.ref sd)] ∧ Same H0 H' ∧ StoryAt K H' p pl n s ∧ m' = 0), fun _ _ z => z, ?_⟩
    obtain ⟨ds, fa, ra, ras, q1, _⟩ := id t.st
    refine ⟨_, rfl, sa, ds, _, rfl, q1, sa, _, rfl, t.st, fun b H6 nb s6 hk => ?_⟩
    have t6 := t.same s6
    refine ⟨_, rfl, sd, kvs, _, b, rfl, rfl, t6.di, hk, ?_⟩
    by_cases hse : ∃ s, s < n ∧ stN pl s = stN pl n
    · obtain ⟨s2, hs2, es⟩ := hse
      have hit := t.se.hit t.nd hs2 es
      rw [hit]
      refine ⟨_, rfl, iteT ?_⟩
      obtain ⟨ds, fa, ra, ras, q1, _⟩ := id t6.st
      refine ⟨_, rfl, _, rfl, sa, ds, _, rfl, q1, sa, _, rfl, t6.st, fun b2 H7 nb2 s7 hk2 => ?_⟩
      have t7 := t6.same s7
      refine ⟨sd, kvs, _, b2, _, rfl, rfl, t7.di, hk2, hit, ?_⟩
      refine ⟨_, rfl, p, _, dx, _, rfl, t7.ob, T.sto.c, T.sto.n _ (by simp), (by show 2 < 1000; decide), ?_⟩
      rw [put_s3]
      have fz := FzS.put (K := K) (o' := .ins (He.ga K "Story") dx (stoFs (.ref tl) (.int s2))) t7.ob (fun q => q rfl)
      refine ⟨0, by omega, .inr ⟨sa, n, s2, rfl, sameUpd t7.sm n0p, ⟨dx, tl, tas, upd_same, (upd_ne (Ne.symm ptl)).trans t7.li, Paired.mapP t7.ti fun _ _ q => q.fzS T.ap fz, ⟨hs2, es.symm, t.nd⟩, hn⟩, rfl⟩⟩
    · have hno : ∀ i < n, stN pl i ≠ stN pl n := fun i hi z => hse ⟨i, hi, z⟩
      have miss := t.se.miss hno
      rw [miss]
      refine ⟨_, rfl, iteF ?_⟩
      have hn2 : n ≠ 20000 := fun z => by
        obtain ⟨i, j, h1, h2, h3⟩ := hea
        rcases Nat.lt_or_ge j n with y | y
        · exact t.nd i j h1 y h3
        · have : j = n := by omega
          rw [this] at h1 h3
          exact hno i h1 h3
      have htl6 := t6.ti.length
      have hlen : tas.length = n := by rw [htl6, ticksL, List.length_map, List.length_range]
      refine ⟨_, rfl, p, _, dx, _, _, rfl, t6.ob, T.sto.c, T.sto.n _ (by simp), lo_ticks, tl, _, rfl, .inl (SqL.of t6.li), rfl, _, rfl, ?_⟩
      rw [List.length_map, hlen, decide_eq_false (fun z => hn2 (by have := V.int.inj z; omega))]
      refine iteF ?_
      refine ⟨_, rfl, p, _, dx, _, _, rfl, t6.ob, T.sto.c, T.sto.n _ (by simp), lo_ticks, tl, _, rfl, .inl (SqL.of t6.li), ?_⟩
      rw [List.length_map, hlen]
      obtain ⟨ds, fa, ra, ras, q1, _⟩ := id t6.st
      refine ⟨_, rfl, _, rfl, sa, ds, _, rfl, q1, sa, _, rfl, t6.st, fun b2 H7 nb2 s7 hk2 => ?_⟩
      have t7 := t6.same s7
      have hkl : kvs.length = n := by
        have := congrArg List.length t.se
        rw [List.length_map, List.length_map, List.length_range] at this
        exact this
      refine ⟨sd, kvs, _, b2, rfl, rfl, t7.di, hk2, miss, by rw [hkl, sizeLine_eq]; omega, ?_⟩
      -- seen
      have fz := FzS.put (K := K) (o' := DNo P w sd (kvs ++ [(keyS (stN pl n), b2, V.int n)])) t7.di.1 (fun q => q)
      have psd : p ≠ sd := ne_of t7.ob t7.di.1 (fun z => nomatch z)
      have tsd : tl ≠ sd := ne_of t7.li t7.di.1 (fun z => nomatch z)
      have ob8 : (upd H7 sd (DNo P w sd (kvs ++ [(keyS (stN pl n), b2, V.int n)]))) p = _ := (upd_ne psd).trans t7.ob
      have li8 : (upd H7 sd (DNo P w sd (kvs ++ [(keyS (stN pl n), b2, V.int n)]))) tl = _ := (upd_ne tsd).trans t7.li
      have st8 := t7.st.fzS T.ap fz
      have ti8 := Paired.mapP t7.ti fun _ _ q => TickAt.fzS T.ap fz q
      have sm8 := sameUpd (o := DNo P w sd (kvs ++ [(keyS (stN pl n), b2, V.int n)])) t7.sm n0sd
      have kt : ∀ b xs, H7 b = some (.tup xs) → (upd H7 sd (DNo P w sd (kvs ++ [(keyS (stN pl n), b2, V.int n)]))) b = some (.tup xs) := fun b xs e => fz _ _ e trivial
      have di8 : DictN P w (upd H7 sd (DNo P w sd (kvs ++ [(keyS (stN pl n), b2, V.int n)]))) sd (kvs ++ [(keyS (stN pl n), b2, V.int n)]) := ⟨upd_same, fun x hx => by
        rcases List.mem_append.mp hx with z | z
        · exact (t7.di.2 x z).keep kt
        · rw [List.mem_singleton.mp z]
          exact hk2.keep kt⟩
      generalize upd H7 sd (DNo P w sd (kvs ++ [(keyS (stN pl n), b2, V.int n)])) = H8 at *
      -- the tick
      refine ⟨_, rfl, p, _, dx, _, _, rfl, ob8, T.sto.c, T.sto.n _ (by simp), lo_ticks, .inl ⟨rfl, _, SqL.of li8⟩, _, rfl, _, rfl, pa, sa, _, _, pl, _, rfl, hpl.same sm8, st8, st_wf hrt n, h1000, h1000r, fun ta H9 s9 htk => ?_⟩
      replace ob8 := s9 _ _ ob8
      replace li8 := s9 _ _ li8
      replace ti8 := Paired.mapP ti8 fun _ _ q => TickAt.same s9 q
      replace sm8 := sm8.trans s9
      replace di8 := di8.same s9
      refine ⟨tl, _, _, rfl, rfl, li8, by rw [List.length_map, hlen, sizeLine_eq]; omega, ?_⟩
      have fz2 := FzS.put (K := K) (o' := .lst (tas.map V.ref ++ [V.ref ta])) li8 (fun q => q)
      have ob9 : (upd H9 tl (.lst (tas.map V.ref ++ [V.ref ta]))) p = _ := (upd_ne ptl).trans ob8
      have li9 := @upd_same H9 tl (.lst (tas.map V.ref ++ [V.ref ta]))
      have ti9 := Paired.mapP ti8 fun _ _ q => TickAt.fzS T.ap fz2 q
      have sm9 := sameUpd (o := .lst (tas.map V.ref ++ [V.ref ta])) sm8 n0tl
      have di9 := di8.keep (fun b xs e => fz2 _ _ e trivial) (upd_ne (o := .lst (tas.map V.ref ++ [V.ref ta])) (Ne.symm tsd))
      replace htk := htk.fzS T.ap fz2
      generalize upd H9 tl (.lst (tas.map V.ref ++ [V.ref ta])) = H10 at *
      obtain ⟨dt, sw, wo, sb, w1, w2, w3, w4⟩ := id htk
      have hat : atI (tas.map V.ref ++ [V.ref ta]) (-1) = some (V.ref ta) := by
        unfold atI ixN
        rw [if_neg (by decide), if_pos (by rw [List.length_append, List.length_singleton]; omega)]
        have e : ((-1 : Int) + ((tas.map V.ref ++ [V.ref ta]).length : Nat)).toNat = (tas.map V.ref).length := by
          rw [List.length_append, List.length_singleton]
          omega
        rw [e]
        simp
      refine ⟨_, rfl, p, _, dx, _, _, rfl, ob9, T.sto.c, T.sto.n _ (by simp), lo_ticks, _, rfl, tl, _, _, _, rfl, rfl, SqL.of li9, hat, ta, _, dt, _, _, rfl, w1, T.m.tick.c, T.m.tick.n _ (by simp), lt_state, ?_⟩
      refine ⟨20001 - (n + 1), by omega, .inl ⟨sb, tas ++ [ta], _, n + 1, rfl, ⟨sm9, ob9, by rw [li9, List.map_append]; rfl, di9, hpl.same sm9, w4, ?_, t.se.more, ?_⟩, rfl⟩⟩
      · unfold ticksL
        rw [List.range_succ, List.map_append]
        exact paired_append ti9 (.cons htk .nil)
      · intro i j hi hj
        rcases Nat.lt_or_ge j n with z | z
        · exact t.nd i j hi z
        · have : j = n := by omega
          rw [this]
          exact hno i (by omega)
end
end Sw

end

section
set_option maxRecDepth 100000
set_option maxHeartbeats 4000000
/-! Story: size, happens -/
namespace Sw
open PySem PySem.Spec PyProof.Rows L2 SwA
structure HapT (K : PySem.W.Frag) (mg : Str → Option Value) : Prop where
  s : StoT K mg
  size : PrT K "Story" "size" "Story.size" s_Story_size
  happens : MeT K "Story" "happens" "Story.happens" s_Story_happens
theorem story_at {K : PySem.W.Frag} {H1 : Hp} {pa x dx : Addr} {pl : Plan} {Q : VK} {E : XK} (hpl : PlanAt K H1 pa pl) (hr : ∀ r ∈ pl.robots, r.1 < pl.floor.length) (hn : pl.floor.length ≤ 1000) (hm : pl.robots.length ≤ 1000) (hea : Early pl 20000) (nx : H1 x = none) (ndx : H1 dx = none)
    (k : ∀ (n s : Nat) (H' : Hp), Same H1 H' → StoryAt K H' x pl n s → Q .non H') : spStory K [.ref x, .ref pa] (upd (upd H1 dx (.own x)) x (.ins (He.ga K "Story") dx [])) Q E :=
  ⟨H1, x, dx, pa, pl, rfl, upd_same, sameUpd (sameUpd (Same.refl H1) ndx) nx, nx, hpl, hr, hn, hm, hea, k⟩
theorem story_wf {K : PySem.W.Frag} {H1 : Hp} {pa x dx : Addr} {pl : Plan} {Q : VK} {E : XK} (hpl : PlanAt K H1 pa pl) (wf : WfP pl) (hea : Early pl 20000) (nx : H1 x = none) (ndx : H1 dx = none)
    (k : ∀ (n s : Nat) (H' : Hp), Same H1 H' → StoryAt K H' x pl n s → Q .non H') : spStory K [.ref x, .ref pa] (upd (upd H1 dx (.own x)) x (.ins (He.ga K "Story") dx [])) Q E :=
  story_at hpl wf.rt (Nat.le_trans wf.n16 (by decide)) (Nat.le_trans wf.r3 (by decide)) hea nx ndx k
theorem lo_no_happens {a b : V} : List.lookup ("happens" : Str) (stoFs a b) = none := by kernel_rfl
theorem lo_no_count {a b : V} : List.lookup ("count" : Str) (stoFs a b) = none := by kernel_rfl
section
variable {P : Program} {w : World} {K : PySem.W.Frag} {mg : Str → Option Value} {base : Heap}
def spSize (K : PySem.W.Frag) : Sp := fun vs H Q _ => ∃ (a : Addr) (pl : Plan) (n s : Nat), vs = [.ref a] ∧ StoryAt K H a pl n s ∧ Q (.int ((n : Int) - (s : Int))) H
theorem sc_size : FnScope ["self"] ["self"] (defScope s_Story_size) := ⟨rfl, rfl, rfl, by decide +kernel, rfl, by decide +kernel, by decide +kernel⟩
theorem tas_len {K : PySem.W.Frag} {H : Hp} {tas : List Addr} {pl : Plan} {n : Nat} (h : Paired (TickAt K H) tas (ticksL pl n)) : tas.length = n := by rw [h.length, ticksL, List.length_map, List.length_range]
theorem ok_size (T : HapT K mg) : FnX P w K mg base CX0 1 (He5.wf K (He.ga K "Story") "property" "size") ["self"] (spSize K) := by
  obtain ⟨fd, F⟩ := T.size.d
  refine ⟨fd, F.ok sc_size (fun vs H Q E h => ?_) (fun cdv A outer s H vs Q E hr h => ?_), F.bindsN fun _ _ _ _ _ _ us hl => match us, hl with | [_], _ => rfl⟩
  · obtain ⟨a, pl, n, s, rfl, _⟩ := h
    rfl
  · obtain ⟨a, pl, n, s2, rfl, hS, k⟩ := h
    refine ⟨_, PSs.nox (pss_one (ps_ret (pe_op op_sub (pe_callB call_len_seq (by rfl) T.s.m.lo.p.l.len boot_len (pa_cons (pe_fld (pv 0) rfl) pa_nil)) (pe_fld (pv 0) rfl)))), ?_⟩
    obtain ⟨dx, tl, tas, e1, e2, e3, e4, e5⟩ := id hS
    have hl := tas_len e3
    refine ⟨_, rfl, a, _, dx, _, _, rfl, e1, T.s.sto.c, T.s.sto.n _ (by simp), lo_ticks, tl, _, rfl, .inl (SqL.of e2), _, rfl, a, _, dx, _, _, rfl, e1, T.s.sto.c, T.s.sto.n _ (by simp), lo_start, _, _, rfl, rfl, ?_⟩
    rw [List.length_map, hl]
    exact k
def spHappens (K : PySem.W.Frag) : Sp := fun vs H Q _ => ∃ (a : Addr) (pl : Plan) (n s t : Nat), vs = [.ref a, .int t] ∧ StoryAt K H a pl n s ∧ ∀ (ta : Addr), TickAt K H ta (tkN pl t) → Q (.ref ta) H
theorem sc_happens : FnScope ["self", "tick"] ["self", "tick"] (defScope s_Story_happens) := ⟨rfl, rfl, rfl, by decide +kernel, rfl, by decide +kernel, by decide +kernel⟩
theorem ok_happens (T : HapT K mg) : FnE P w K mg base CX0 3 ("Story", some "happens") ["self", "tick"] (spHappens K) := by
  obtain ⟨fd, F⟩ := T.happens.d
  obtain ⟨fdZ, GZ, bZ⟩ := ok_size (P := P) (w := w) (base := base) T
  refine ⟨fd, F.ok sc_happens (fun vs H Q E h => ?_) (fun cdv A outer s H vs Q E hr h => ?_), F.bindsN fun _ _ _ _ _ _ us hl => match us, hl with | [_, _], _ => rfl, F.kp⟩
  · obtain ⟨a, pl, n, s, t, rfl, _⟩ := h
    rfl
  · obtain ⟨a, pl, n, s2, t, rfl, hS, k⟩ := h
    refine ⟨_, PSs.nox (pss_one (ps_ret (pe_ix ix_list (pe_fld (pv 0) rfl) (pe_ifExp (pt_cmpR op_lt (pv 1) (pe_callB call_len_seq (by rfl) T.s.m.lo.p.l.len boot_len (pa_cons (pe_fld (pv 0) rfl) pa_nil)) (nomark _)) (pv 1) (pe_op op_add (pe_fld (pv 0) rfl) (pe_op op_mod (pe_op op_sub (pv 1) (pe_fld (pv 0) rfl)) (pe_prop (pv 0) T.s.sto.c T.size.p GZ hr bZ .nil pass0 rfl)))) (fun _ _ => rfl)))), ?_⟩
    obtain ⟨dx, tl, tas, e1, e2, e3, e4, e5⟩ := id hS
    have hl := tas_len e3
    have hlt := e4.lt
    have hfo : ∀ i : Nat, i = foldT n s2 t → atI (tas.map V.ref) (i : Int) = some (V.ref (tas.getD i 0)) ∧ TickAt K H (tas.getD i 0) (tkN pl t) := fun i hi => by
      have hi2 : i < n := by rw [hi]; exact foldT_lt hlt
      have hi3 : i < tas.length := by omega
      have eg : tas[i]? = some (tas.getD i 0) := by rw [List.getD_eq_getElem?_getD, List.getElem?_eq_getElem hi3]; rfl
      refine ⟨atI_nat (by rw [List.getElem?_map, eg]; rfl), ?_⟩
      obtain ⟨y, hy, hT⟩ := Paired_idx e3 eg
      unfold ticksL at hy
      rw [List.getElem?_map, List.getElem?_range hi2] at hy
      cases hy
      rw [← tk_fold e4 t, ← hi]
      exact hT
    refine ⟨_, rfl, a, _, dx, _, _, rfl, e1, T.s.sto.c, T.s.sto.n _ (by simp), lo_ticks, _, rfl, _, rfl, a, _, dx, _, _, rfl, e1, T.s.sto.c, T.s.sto.n _ (by simp), lo_ticks, tl, _, rfl, .inl (SqL.of e2), _, _, rfl, rfl, _, rfl, ?_⟩
    rw [List.length_map, hl]
    by_cases h : t < n
    · rw [decide_eq_true (show (t : Int) < (n : Nat) by omega)]
      obtain ⟨f1, f2⟩ := hfo t (by unfold foldT; rw [if_pos h])
      exact iteT ⟨_, rfl, tl, _, _, _, rfl, rfl, SqL.of e2, f1, k _ f2⟩
    · rw [decide_eq_false (show ¬ (t : Int) < (n : Nat) by omega)]
      obtain ⟨f1, f2⟩ := hfo (s2 + (t - s2) % (n - s2)) (by unfold foldT; rw [if_neg h])
      refine iteF ⟨_, rfl, a, _, dx, _, _, rfl, e1, T.s.sto.c, T.s.sto.n _ (by simp), lo_start, _, rfl, _, rfl, a, _, dx, _, _, rfl, e1, T.s.sto.c, T.s.sto.n _ (by simp), lo_start, _, _, rfl, rfl, _, rfl, a, dx, _, rfl, e1, a, pl, n, s2, rfl, hS, ?_⟩
      refine ⟨_, _, rfl, rfl, by omega, _, _, rfl, rfl, tl, _, _, _, rfl, rfl, SqL.of e2, ?_, k _ f2⟩
      rw [← f1]
      congr 1
      have e6 : ((t : Int) - (s2 : Int)) % ((n : Int) - (s2 : Int)) = (((t - s2) % (n - s2) : Nat) : Int) := by
        rw [Int.natCast_emod]
        congr 1 <;> omega
      rw [e6]
      rfl
end
end Sw

end

section
set_option maxRecDepth 100000
set_option maxHeartbeats 4000000
/-! check_tick, where all is well -/
namespace Sw
open PySem PySem.Spec PyProof.Rows L2 SwA
structure CkT (K : PySem.W.Frag) (mg : Str → Option Value) : Prop where
  h : HapT K mg
  MAXT : ∃ t, mg "MAX_TICK" = some (.int 1000000000000000000 t)
  ck : DeT K mg "check_tick" s_check_tick
section
variable {P : Program} {w : World} {K : PySem.W.Frag} {mg : Str → Option Value} {base : Heap}
def spCkTick (K : PySem.W.Frag) : Sp := fun vs H Q _ => ∃ (t : Nat), vs = [.int t] ∧ t ≤ 1000000000000000000 ∧ Q .non H
theorem sc_ckt : FnScope ["tick"] ["tick"] (defScope s_check_tick) := ⟨rfl, rfl, rfl, by decide +kernel, rfl, by decide +kernel, by decide +kernel⟩
theorem ok_ckt (T : CkT K mg) : FnE P w K mg base CX0 2 ("check_tick", none) ["tick"] (spCkTick K) := by
  obtain ⟨fd, F⟩ := T.ck.d
  obtain ⟨fdI, GI, bI, kI⟩ := ok_is_int_in (P := P) (w := w) (base := base) T.h.s.m
  obtain ⟨tMT, mMT⟩ := T.MAXT
  refine ⟨fd, F.ok sc_ckt (fun vs H Q E h => ?_) (fun cdv A outer s H vs Q E hr h => ?_), F.bindsN fun _ _ _ _ _ _ us hl => match us, hl with | [_], _ => rfl, F.kp⟩
  · obtain ⟨t, rfl, _⟩ := h
    rfl
  · obtain ⟨t, rfl, ht, k⟩ := h
    refine ⟨_, PSs.nox (pss_one (ps_if (pt_not (pt_val (pe_call GI hr rfl T.h.s.m.is_int_in.g kI bI .nil pass0 (pa_cons (pv 0) (pa_cons pe_int (pa_cons (pe_glob (v := .int 1000000000000000000) rfl mMT ⟨_, rfl⟩) pa_nil))))))
        (pss_one ps_no) pss_nil)), ?_⟩
    have hI : isIntIn (.int t) 0 1000000000000000000 = true := by
      unfold isIntIn
      simp
      omega
    refine ⟨_, rfl, .int t, _, 0, 1000000000000000000, rfl, .int _, ?_⟩
    rw [hI]
    exact ⟨_, rfl, k⟩
end
end Sw

end

section
set_option maxRecDepth 100000
set_option maxHeartbeats 4000000
/-! robots_in -/
namespace Sw
open PySem PySem.Spec PyProof.Rows L2 SwA
structure RinT (K : PySem.W.Frag) (mg : Str → Option Value) : Prop where
  c : CkT K mg
  ri : DeT K mg "robots_in" s_robots_in
section
variable {P : Program} {w : World} {K : PySem.W.Frag} {mg : Str → Option Value} {base : Heap}
def spRobotsIn (K : PySem.W.Frag) : Sp := fun vs H Q _ => ∃ (text : Cs) (pl : Plan) (t : Nat), vs = [sV text, .int t] ∧ Reads text pl ∧ WfP pl ∧ Early pl 20000 ∧ t ≤ 1000000000000000000 ∧
  ∀ (l : Addr) (ts : List Addr) (H' : Hp), H l = none → Same H H' → H' l = some (.lst (ts.map V.ref)) → Paired (RobT pl.moods H') ts (stN pl (t + 1)).robots → Q (.ref l) H'
abbrev rnN : List Str := ["plan", "tick", "parsed", "robots", "tile", "is_right", "mood"]
theorem sc_rin : FnScope rnN ["plan", "tick"] (defScope s_robots_in) := ⟨rfl, rfl, rfl, by decide +kernel, rfl, by decide +kernel, by decide +kernel⟩
theorem ok_rin (T : RinT K mg) : FnE P w K mg base CX0 9 ("robots_in", none) ["plan", "tick"] (spRobotsIn K) := by
  obtain ⟨fd, F⟩ := T.ri.d
  obtain ⟨fdL, GL, bL, kL⟩ := ok_read (P := P) (w := w) (base := base) T.c.h.s.m.lo
  obtain ⟨fdC, GC, bC, kC⟩ := ok_ckt (P := P) (w := w) (base := base) T.c
  obtain ⟨fdS, GS, bS, kS⟩ := ok_story (P := P) (w := w) (base := base) T.c.h.s
  obtain ⟨fdH, GH, bH, kH⟩ := ok_happens (P := P) (w := w) (base := base) T.c.h
  refine ⟨fd, F.ok sc_rin (fun vs H Q E h => ?_) (fun cdv A outer s H vs Q E hr h => ?_), F.bindsN fun _ _ _ _ _ _ us hl => match us, hl with | [_, _], _ => rfl, F.kp⟩
  · obtain ⟨text, pl, t, rfl, _⟩ := h
    rfl
  · obtain ⟨text, pl, t, rfl, hR, wf, hea, ht, k⟩ := h
    have hr2 : Room 2 _ := hr.mono (by decide)
    have hr3 : Room 3 _ := hr.mono (by decide)
    have hr6 : Room 6 _ := hr.mono (by decide)
    have hr8 : Room 8 _ := hr.mono (by decide)
    refine ⟨_, PSs.nox (pss_cons (ps_set (i := 2) sc_rin.nd rfl (.inr rfl) (pe_call GL hr8 rfl T.c.h.s.m.lo.g_load kL bL .nil pass0 (pa_cons (pv 0) pa_nil)))
      (pss_cons (ps_expr (pe_call GC hr2 rfl T.c.ck.g kC bC .nil pass0 (pa_cons (pv 1) pa_nil)))
      (pss_cons (ps_set (i := 3) sc_rin.nd rfl (.inl rfl) (pe_fld (pe_fld (pe_meth (pe_make T.c.h.s.sto.m GS hr6 rfl T.c.h.s.sto.g bS .nil pass0 (pa_cons (pv 2) pa_nil)) T.c.h.s.sto.c T.c.h.happens.m GH hr3 bH .nil pass0 (pa_cons (pv 1) pa_nil)) rfl) rfl))
      (pss_one (ps_ret (pe_lc (own := [("tile", 4), ("is_right", 5), ("mood", 6)]) (g := (gTup K 3 (gCons (gName 4) (gCons (gName 5) (gCons (gName 6) gNil))))) (tt := tYes) (te := tTup (tCons (tVar 4) (tCons (tIf (tB (tVar 5)) (tC (.str "right")) (tC (.str "left"))) (tCons (tOp (rIxT K) (tFld K (tVar 2) "moods") (tVar 6)) tNil)))) rfl sc_rin.nd (pi_tup (pv 3)) (blkOk_by (own := [("tile", 4), ("is_right", 5), ("mood", 6)]) (N := rnN) (sc := defScope s_robots_in) (by decide +kernel)) (fun _ _ _ _ _ => (pg_tup rfl (pgs_cons (pg_name (i := 4) sc_rin.nd rfl (.inl rfl)) (pgs_cons (pg_name (i := 5) sc_rin.nd rfl (.inl rfl)) (pgs_cons (pg_name (i := 6) sc_rin.nd rfl (.inl rfl)) pgs_nil))))) (fun _ _ _ _ _ => pts_nil) (fun _ _ _ _ _ => (pe_tup (pa_cons (pv 4) (pa_cons (pe_ifExp (pt_val (pv 5)) pe_str pe_str) (pa_cons (pe_ix ix_tup (pe_fld (pv 2) rfl) (pv 6) (fun _ _ => rfl)) pa_nil))))))))))), ?_⟩
    refine ⟨_, rfl, text, pl, rfl, hR, fun pa H1 npa s1 hpl => ?_⟩
    refine ⟨_, rfl, t, rfl, ht, ?_⟩
    refine ⟨_, rfl, ?_⟩
    intro x dx nx ndx ne
    refine story_wf hpl wf hea nx ndx fun n s2 H2 s12 hS => ⟨rfl, ?_⟩
    obtain ⟨dy, tl, tas, e1, _⟩ := id hS
    replace hpl := hpl.same s12
    refine ⟨x, dy, _, rfl, e1, lo_no_happens, _, rfl, x, pl, n, s2, t, rfl, hS, fun ta hT => ?_⟩
    obtain ⟨dt, sw, wo, sb, w1, w2, w3, w4⟩ := id hT
    obtain ⟨ds, fa, ra, ras, q1, q2, q3, q4⟩ := id w4
    refine ⟨ta, _, dt, _, _, rfl, w1, T.c.h.s.m.tick.c, T.c.h.s.m.tick.n _ (by simp), lt_state, sb, _, ds, _, _, rfl, q1, T.c.h.s.m.state.c, T.c.h.s.m.state.n _ (by simp), ls_robots, ?_⟩
    obtain ⟨dp, sga, mda, fla, rba, rda, ras3, z1, z2, z3, z4, z5⟩ := id hpl
    rw [tk_state] at q4
    have hmo := st_mo wf (t + 1)
    have hrl := (st_wf wf.rt (t + 1)).ro
    have hr3' := wf.r3
    have s02 := s1.trans s12
    refine ⟨_, rfl, ra, rfl, ⟨_, SqT.of q3⟩, fun D nD => ?_⟩
    refine lc_tup (K := K) (a := ra) (xs := ras.map V.ref) (fun i H3 => ∃ ts : List Addr, H3 D = some (.lst (ts.map V.ref)) ∧ Same H2 H3 ∧ Paired (RobT pl.moods H3) ts ((stN pl (t + 1)).robots.take i)) ⟨[], upd_same, sameUpd (Same.refl H2) nD, .nil⟩ (fun i H3 _ ⟨_, _, sm, _⟩ => SqT.of (sm _ _ q3)) ?_ ?_
    · rintro i x H3 hx ⟨ts, hD, sm, hts⟩
      rw [List.getElem?_map] at hx
      cases hai : ras[i]? with
      | none => rw [hai] at hx; cases hx
      | some ai =>
        rw [hai] at hx
        cases hx
        obtain ⟨⟨tile, right, mood⟩, hri, hrob⟩ := Paired_idx q4 hai
        have hir : i < (stN pl (t + 1)).robots.length := (List.getElem?_eq_some_iff.mp hri).1
        have hal := hmo _ (List.mem_of_getElem? hri)
        have eal : pl.moods[mood]? = some pl.moods[mood] := List.getElem?_eq_getElem hal
        have htl := hts.length
        rw [List.length_take] at htl
        have fin : ∀ z : Str, z = wayS right → ∀ σ : L2.St, σ = [some (sV text), some (.int t), some (.ref pa), some (.ref ra), some (.int tile), some (.bl right), some (.int mood)] → tOp (rIxT K) (tFld K (tVar 2) "moods") (tVar 6) σ H3 (fun x H1 => [V.int tile, .str z, x].length ≤ sizeLine ∧ ∀ p, H1 p = none → ∃ acc, (upd H1 p (.tup [V.int tile, .str z, x])) D = some (.lst acc) ∧ acc.length < sizeLine ∧ ∃ ts : List Addr, (upd (upd H1 p (.tup [V.int tile, .str z, x])) D (.lst (acc ++ [.ref p]))) D = some (.lst (ts.map V.ref)) ∧ Same H2 (upd (upd H1 p (.tup [V.int tile, .str z, x])) D (.lst (acc ++ [.ref p]))) ∧ Paired (RobT pl.moods (upd (upd H1 p (.tup [V.int tile, .str z, x])) D (.lst (acc ++ [.ref p])))) ts ((stN pl (t + 1)).robots.take (i + 1))) := fun z hz σ hσ => by
          subst hσ
          refine ⟨_, rfl, pa, _, dp, _, _, rfl, sm _ _ z1, T.c.h.s.m.lo.plan.c, T.c.h.s.m.lo.plan.n _ (by simp), lpl_moods, _, rfl, mda, _, _, _, rfl, rfl, (z3.mono fun _ z => sm _ _ z).sq, atI_nat (by rw [List.getElem?_map, eal]; rfl), (by show 3 ≤ sizeLine; decide), fun t nt => ?_⟩
          have s2 := sameUpd (o := .tup [.int tile, .str z, sV pl.moods[mood]]) (Same.refl H3) nt
          have ht := @upd_same H3 t (.tup [.int tile, .str z, sV pl.moods[mood]])
          have hD2 := s2 _ _ hD
          have hts2 : Paired (RobT pl.moods (upd H3 t (.tup [.int tile, .str z, sV pl.moods[mood]]))) ts _ := Paired.mapP hts fun _ _ q => s2 _ _ q
          have sm2 := sm.trans s2
          generalize upd H3 t (.tup [.int tile, .str z, sV pl.moods[mood]]) = H4 at *
          have kt := keepT (o' := .lst (ts.map V.ref ++ [.ref t])) hD2 (fun xs q => by cases q)
          refine ⟨_, hD2, by rw [List.length_map, sizeLine_eq]; omega, ts ++ [t], by rw [upd_same, List.map_append]; rfl, sameUpd sm2 nD, ?_⟩
          rw [List.take_succ, hri]
          refine Paired_snoc (Paired.mapP hts2 fun _ _ q => kt _ _ q) ?_
          have e2 := kt _ _ ht
          rw [hz] at e2
          show _ = some (HO.tup [.int tile, .str (wayS right), sV (pl.moods.getD mood [])])
          rw [List.getD_eq_getElem?_getD, eal]
          exact e2
        refine ⟨ai, _, rfl, SqT.of (sm _ _ hrob), rfl, _, _, rfl, _, _, rfl, _, _, rfl, rfl, rfl, _, rfl, _, rfl, _, rfl, ?_⟩
        cases right with
        | true => exact iteT (fin _ rfl _ rfl)
        | false => exact iteF (fin _ rfl _ rfl)
    · rintro H3 ⟨ts, hD, sm, hts⟩
      rw [List.length_map, q4.length, List.take_length] at hts
      exact k D ts H3 (s02.free nD) (s02.trans sm) hD hts
end
end Sw

end

section
set_option maxRecDepth 100000
set_option maxHeartbeats 4000000
/-! first_difference -/
namespace Sw
open PySem PySem.Spec PyProof.Rows L2 SwA
structure FdT (K : PySem.W.Frag) (mg : Str → Option Value) : Prop where
  h : HapT K mg
  range : mg "range" = none
  max : mg "max" = none
  fd : DeT K mg "first_difference" s_first_difference
/-- the first tick at which the signs differ -/
def FirstD (p q : Plan) : Option Nat → Prop
  | some u => (stN p (u + 1)).floor ≠ (stN q (u + 1)).floor ∧ ∀ v, v < u → (stN p (v + 1)).floor = (stN q (v + 1)).floor
  | none => ∀ v, (stN p (v + 1)).floor = (stN q (v + 1)).floor
theorem equal_ever {p q : Plan} {n1 s1 n2 s2 M : Nat} (h1 : Rep (stN p) n1 s1) (h2 : Rep (stN q) n2 s2) (d1 : (n1 - s1) ∣ M) (d2 : (n2 - s2) ∣ M) (hM : 0 < M)
    (he : ∀ v, v < max s1 s2 + M → (stN p (v + 1)).floor = (stN q (v + 1)).floor) : ∀ v, (stN p (v + 1)).floor = (stN q (v + 1)).floor := by
  intro v
  rcases Nat.lt_or_ge v (max s1 s2 + M) with z | z
  · exact he v z
  · obtain ⟨c1, e1⟩ := d1
    obtain ⟨c2, e2⟩ := d2
    have hm := Nat.mod_lt (v - max s1 s2) hM
    have hd := Nat.mod_add_div (v - max s1 s2) M
    have hq := he (max s1 s2 + (v - max s1 s2) % M) (by omega)
    have a1 := tk_again h1 (v := max s1 s2 + (v - max s1 s2) % M) (k := c1 * ((v - max s1 s2) / M)) (by omega)
    have a2 := tk_again h2 (v := max s1 s2 + (v - max s1 s2) % M) (k := c2 * ((v - max s1 s2) / M)) (by omega)
    rw [← Nat.mul_assoc, ← e1, show max s1 s2 + (v - max s1 s2) % M + M * ((v - max s1 s2) / M) = v by omega] at a1
    rw [← Nat.mul_assoc, ← e2, show max s1 s2 + (v - max s1 s2) % M + M * ((v - max s1 s2) / M) = v by omega] at a2
    show (tkN p v).state.floor = (tkN q v).state.floor
    rw [a1, a2]
    exact hq
theorem sh_names {l : List Cs} (h : NamesOk l) : ShD 2 (.tuple (strsD l)) := shd_tuple fun d hd => by
  obtain ⟨z, hz, rfl⟩ := List.mem_map.mp hd
  exact shd_nm (h.ok z hz).1.1
section
variable {P : Program} {w : World} {K : PySem.W.Frag} {mg : Str → Option Value} {base : Heap}
def spFirstD (K : PySem.W.Frag) : Sp := fun vs H Q _ => ∃ (t1 t2 : Cs) (p q : Plan), vs = [sV t1, sV t2] ∧ (Reads t1 p ∧ WfP p ∧ Early p 20000) ∧ (Reads t2 q ∧ WfP q ∧ Early q 20000) ∧ p.floor.length = q.floor.length ∧ p.signs = q.signs ∧
  ∀ (r : Option Nat) (H' : Hp), Same H H' → FirstD p q r → Q (oV r) H'
abbrev fdN : List Str := ["plan", "other", "one", "two", "first", "second", "multiple", "tick"]
theorem sc_fd : FnScope fdN ["plan", "other"] (defScope s_first_difference) := ⟨rfl, rfl, rfl, by decide +kernel, rfl, by decide +kernel, by decide +kernel⟩
theorem ok_fd (T : FdT K mg) : FnE P w K mg base CX0 9 ("first_difference", none) ["plan", "other"] (spFirstD K) := by
  obtain ⟨fd, F⟩ := T.fd.d
  obtain ⟨fdL, GL, bL, kL⟩ := ok_read (P := P) (w := w) (base := base) T.h.s.m.lo
  obtain ⟨fdS, GS, bS, kS⟩ := ok_story (P := P) (w := w) (base := base) T.h.s
  obtain ⟨fdH, GH, bH, kH⟩ := ok_happens (P := P) (w := w) (base := base) T.h
  obtain ⟨fdZ, GZ, bZ⟩ := ok_size (P := P) (w := w) (base := base) T.h
  refine ⟨fd, F.ok sc_fd (fun vs H Q E h => ?_) (fun cdv A outer s H vs Q E hr h => ?_), F.bindsN fun _ _ _ _ _ _ us hl => match us, hl with | [_, _], _ => rfl, F.kp⟩
  · obtain ⟨t1, t2, p, q, rfl, _⟩ := h
    rfl
  · obtain ⟨t1, t2, p, q, rfl, ⟨hR1, wf1, hea1⟩, ⟨hR2, wf2, hea2⟩, hfl, hsg, k⟩ := h
    have hr2 : Room 2 _ := hr.mono (by decide)
    have hr3 : Room 3 _ := hr.mono (by decide)
    have hr6 : Room 6 _ := hr.mono (by decide)
    have hr8 : Room 8 _ := hr.mono (by decide)
    have hu := hr.units
    refine ⟨_, PSs.nox (pss_cons (ps_par (i := 2) (j := 3) (by rfl) sc_fd.nd rfl rfl (by decide) rfl rfl (pa_cons (pe_call GL hr8 rfl T.h.s.m.lo.g_load kL bL .nil pass0 (pa_cons (pv 0) pa_nil)) (pa_cons (pe_call GL hr8 rfl T.h.s.m.lo.g_load kL bL .nil pass0 (pa_cons (pv 1) pa_nil)) pa_nil)) (by rfl))
      (pss_cons (ps_if (PW.pt (pw_or (pt_cmpR op_ne (pe_callB call_len_seq (by rfl) T.h.s.m.lo.p.l.len boot_len (pa_cons (pe_fld (pv 2) rfl) pa_nil)) (pe_callB call_len_seq (by rfl) T.h.s.m.lo.p.l.len boot_len (pa_cons (pe_fld (pv 3) rfl) pa_nil)) (nomark _)) (pw_or1 (pt_cmpR (op_neD hr.units) (pe_fld (pv 2) rfl) (pe_fld (pv 3) rfl) (nomark _)))))
        (pss_one ps_no) pss_nil)
      (pss_cons (ps_par (i := 4) (j := 5) (by rfl) sc_fd.nd rfl rfl (by decide) rfl rfl (pa_cons (pe_make T.h.s.sto.m GS hr6 rfl T.h.s.sto.g bS .nil pass0 (pa_cons (pv 2) pa_nil)) (pa_cons (pe_make T.h.s.sto.m GS hr6 rfl T.h.s.sto.g bS .nil pass0 (pa_cons (pv 3) pa_nil)) pa_nil)) (by rfl))
      (pss_cons (ps_set (i := 6) sc_fd.nd rfl (.inl rfl) (pe_prop (pv 4) T.h.s.sto.c T.h.size.p GZ hr2 bZ .nil pass0 rfl))
      (pss_cons (ps_while PassesOwn.never (pt_cmpR op_ne (pe_op op_mul (pe_op op_fdiv (pv 6) (pe_prop (pv 5) T.h.s.sto.c T.h.size.p GZ hr2 bZ .nil pass0 rfl)) (pe_prop (pv 5) T.h.s.sto.c T.h.size.p GZ hr2 bZ .nil pass0 rfl)) (pv 6) (nomark _))
        (pss_one (ps_aug (i := 6) sc_fd.nd rfl (.inl rfl) (pe_prop (pv 4) T.h.s.sto.c T.h.size.p GZ hr2 bZ .nil pass0 rfl) ip_add)))
      (pss_cons (ps_for PassesOwn.never rfl (pi_range1 (by rfl) T.range (pa_cons (pe_op op_add (pe_callB (call_max2 rfl) (by rfl) T.max (by decide +kernel) (pa_cons (pe_fld (pv 4) rfl) (pa_cons (pe_fld (pv 5) rfl) pa_nil))) (pv 6)) pa_nil)) (pg_name (i := 7) sc_fd.nd rfl (.inl rfl))
        (pss_one (ps_if (pt_cmpR (op_neD hr.units) (pe_fld (pe_fld (pe_meth (pv 4) T.h.s.sto.c T.h.happens.m GH hr3 bH .nil pass0 (pa_cons (pv 7) pa_nil)) rfl) rfl) (pe_fld (pe_fld (pe_meth (pv 5) T.h.s.sto.c T.h.happens.m GH hr3 bH .nil pass0 (pa_cons (pv 7) pa_nil)) rfl) rfl) (nomark _))
          (pss_one (ps_ret (pv 7))) pss_nil)))
      (pss_one (ps_ret pe_non)))))))), ?_⟩
    refine ⟨_, rfl, t1, p, rfl, hR1, fun pa H1 npa s1 hp1 => ?_⟩
    refine ⟨_, rfl, t2, q, rfl, hR2, fun qa H2 nqa s2 hq2 => ?_⟩
    refine ⟨_, _, rfl, ?_⟩
    replace hp1 := hp1.same s2
    obtain ⟨dp1, sga1, mda1, fla1, rba1, rda1, rs1, y1, y2, y3, y4, y5⟩ := id hp1
    obtain ⟨dp2, sga2, mda2, fla2, rba2, rda2, rs2, z1, z2, z3, z4, z5⟩ := id hq2
    refine ⟨_, rfl, pa, _, dp1, _, _, rfl, y1, T.h.s.m.lo.plan.c, T.h.s.m.lo.plan.n _ (by simp), lpl_floor, fla1, _, rfl, .inr (SqT.of y4), _, rfl, qa, _, dp2, _, _, rfl, z1, T.h.s.m.lo.plan.c, T.h.s.m.lo.plan.n _ (by simp), lpl_floor, fla2, _, rfl, .inr (SqT.of z4), rfl, _, rfl, ?_⟩
    rw [List.length_map, List.length_map, hfl, decide_eq_true rfl]
    refine iteF ⟨_, rfl, pa, _, dp1, _, _, rfl, y1, T.h.s.m.lo.plan.c, T.h.s.m.lo.plan.n _ (by simp), lpl_signs, _, rfl, qa, _, dp2, _, _, rfl, z1, T.h.s.m.lo.plan.c, T.h.s.m.lo.plan.n _ (by simp), lpl_signs, _, _, .tup y2.sq (dpa_strs _), .tup z2.sq (dpa_strs _), ?_⟩
    have hsh := sh_names wf1.sN
    have hsh2 := sh_names wf2.sN
    refine ⟨hsh.shaped (by decide), hsh2.shaped (by decide), _, rfl, ?_⟩
    rw [hsg, hsh2.eqv]
    have sA := s1.trans s2
    refine ⟨_, rfl, ?_⟩
    intro x dx nx ndx ne
    refine story_wf hp1 wf1 hea1 nx ndx fun n1 c1 H3 s3 hS1 => ⟨rfl, ?_⟩
    refine ⟨_, rfl, ?_⟩
    intro x2 dx2 nx2 ndx2 ne2
    refine story_wf (hq2.same s3) wf2 hea2 nx2 ndx2 fun n2 c2 H4 s4 hS2 => ⟨rfl, ?_⟩
    refine ⟨_, _, rfl, ?_⟩
    replace hS1 := hS1.same s4
    have sB := (sA.trans s3).trans s4
    clear s1 s2 s3 s4 nx ndx ne nx2 ndx2 ne2 hp1 hq2
    obtain ⟨dy, tl, tas, e1, e2, e3, e4, e5⟩ := id hS1
    obtain ⟨dz, ul, uas, g1, g2, g3, g4, g5⟩ := id hS2
    have hlt1 := e4.lt
    have hlt2 := g4.lt
    refine ⟨_, rfl, x, dy, _, rfl, e1, x, p, n1, c1, rfl, hS1, ?_⟩
    have ea : (n1 : Int) - (c1 : Int) = ((n1 - c1 : Nat) : Int) := by omega
    have eb : (n2 : Int) - (c2 : Int) = ((n2 - c2 : Nat) : Int) := by omega
    have ha : 0 < n1 - c1 := by omega
    have hb : 0 < n2 - c2 := by omega
    have ha2 : n1 - c1 ≤ 20000 := by omega
    have hb2 : n2 - c2 ≤ 20000 := by omega
    refine ⟨fun m σ Hx => ∃ j : Nat, σ = [some (sV t1), some (sV t2), some (.ref pa), some (.ref qa), some (.ref x), some (.ref x2), some (.int (((n1 - c1) * j : Nat) : Int)), none] ∧ Hx = H4 ∧ 1 ≤ j ∧ j ≤ n2 - c2 ∧ m = n2 - c2 - j, ⟨_, 1, by rw [ea, Nat.mul_one]; rfl, rfl, Nat.le_refl _, by omega, rfl⟩, ?_⟩
    rintro m σ Hx ⟨j, rfl, rfl, hj1, hj2, rfl⟩
    refine ⟨_, rfl, _, rfl, x2, dz, _, rfl, g1, x2, q, n2, c2, rfl, hS2, _, _, rfl, rfl, ⟨by omega, by omega⟩, _, rfl, x2, dz, _, rfl, g1, x2, q, n2, c2, rfl, hS2, _, _, rfl, rfl, .inr ⟨by omega, by omega⟩, _, rfl, rfl, (!decide (V.int ((((n1 - c1) * j : Nat) : Int) / ((n2 : Int) - (c2 : Int)) * ((n2 : Int) - (c2 : Int))) = V.int (((n1 - c1) * j : Nat) : Int))), rfl, ?_⟩
    rw [eb]
    by_cases hdv : (n2 - c2) ∣ (n1 - c1) * j
    · have hc : (((n1 - c1) * j : Nat) : Int) / ((n2 - c2 : Nat) : Int) * ((n2 - c2 : Nat) : Int) = (((n1 - c1) * j : Nat) : Int) := Int.ediv_mul_cancel (Int.natCast_dvd_natCast.mpr hdv)
      rw [hc, decide_eq_true rfl]
      have hM : 0 < (n1 - c1) * j := Nat.mul_pos ha hj1
      have hM2 : (n1 - c1) * j ≤ 20000 * 20000 := Nat.mul_le_mul ha2 (by omega)
      generalize hMM : (n1 - c1) * j = M at *
      have hmx : (if (c2 : Int) > (c1 : Int) then (c2 : Int) else (c1 : Int)) = ((max c1 c2 : Nat) : Int) := by
        split <;> omega
      refine iteF ⟨_, rfl, x, _, dy, _, _, rfl, e1, T.h.s.sto.c, T.h.s.sto.n _ (by simp), lo_start, _, rfl, x2, _, dz, _, _, rfl, g1, T.h.s.sto.c, T.h.s.sto.n _ (by simp), lo_start, _, _, rfl, ?_⟩
      rw [hmx]
      refine ⟨_, rfl, _, _, rfl, rfl, _, rfl, by omega, by omega, ?_⟩
      refine for_range (lo := 0) (n := (((max c1 c2 : Nat) : Int) + ((M : Nat) : Int)).toNat) (fun i σ Hy => (∃ o7, σ = [some (sV t1), some (sV t2), some (.ref pa), some (.ref qa), some (.ref x), some (.ref x2), some (.int (M : Nat)), o7]) ∧ Hy = Hx ∧ ∀ v, v < i → (stN p (v + 1)).floor = (stN q (v + 1)).floor) ⟨⟨none, rfl⟩, rfl, fun v hv => absurd hv (Nat.not_lt_zero _)⟩ ?_ ?_
      · rintro i σ Hy hi ⟨⟨o7, rfl⟩, rfl, hall⟩
        have ez : (0 : Int) + (i : Nat) = (i : Nat) := by omega
        rw [ez]
        refine ⟨_, rfl, x, dy, _, rfl, e1, lo_no_happens, _, rfl, x, p, n1, c1, i, rfl, hS1, fun ta hT => ?_⟩
        obtain ⟨dt, sw, wo, sb, w1, w2, w3, w4⟩ := id hT
        obtain ⟨ds, fa, ra, ras, q1, q2, q3, q4⟩ := id w4
        refine ⟨ta, _, dt, _, _, rfl, w1, T.h.s.m.tick.c, T.h.s.m.tick.n _ (by simp), lt_state, sb, _, ds, _, _, rfl, q1, T.h.s.m.state.c, T.h.s.m.state.n _ (by simp), ls_floor, _, rfl, x2, dz, _, rfl, g1, lo_no_happens, _, rfl, x2, q, n2, c2, i, rfl, hS2, fun ta2 hT2 => ?_⟩
        obtain ⟨dt2, sw2, wo2, sb2, u1, u2, u3, u4⟩ := id hT2
        obtain ⟨ds2, fa2, ra2, ras2, v1, v2, v3, v4⟩ := id u4
        refine ⟨ta2, _, dt2, _, _, rfl, u1, T.h.s.m.tick.c, T.h.s.m.tick.n _ (by simp), lt_state, sb2, _, ds2, _, _, rfl, v1, T.h.s.m.state.c, T.h.s.m.state.n _ (by simp), ls_floor, _, _, .tup (SqT.of q2) (dpa_nats _), .tup (SqT.of v2) (dpa_nats _), (sh_nats _).shaped (by decide), (sh_nats _).shaped (by decide), _, rfl, ?_⟩
        rw [eqv_nats, tk_state, tk_state]
        by_cases hq : (stN p (i + 1)).floor = (stN q (i + 1)).floor
        · rw [decide_eq_true hq]
          refine iteF ⟨⟨_, rfl⟩, rfl, fun v hv => ?_⟩
          rcases Nat.lt_or_ge v i with z | z
          · exact hall v z
          · have : v = i := by omega
            rw [this]
            exact hq
        · rw [decide_eq_false hq]
          exact iteT ⟨_, rfl, k (some i) Hy sB ⟨hq, hall⟩⟩
      · rintro σ Hy ⟨⟨o7, rfl⟩, rfl, hall⟩
        rw [show (((max c1 c2 : Nat) : Int) + ((M : Nat) : Int)).toNat = max c1 c2 + M by omega] at hall
        exact k none Hy sB (equal_ever e4 g4 ⟨j, hMM.symm⟩ hdv hM hall)
    · have hc : ¬ V.int ((((n1 - c1) * j : Nat) : Int) / ((n2 - c2 : Nat) : Int) * ((n2 - c2 : Nat) : Int)) = V.int ((((n1 - c1) * j : Nat) : Int)) := fun z => by
        have z2 : (((n1 - c1) * j : Nat) : Int) / ((n2 - c2 : Nat) : Int) * ((n2 - c2 : Nat) : Int) = (((n1 - c1) * j : Nat) : Int) := by injection z
        exact hdv (Int.natCast_dvd_natCast.mp ⟨_, by rw [Int.mul_comm]; exact z2.symm⟩)
      rw [decide_eq_false hc]
      have hjn : j ≠ n2 - c2 := fun z => hdv ⟨n1 - c1, by rw [z, Nat.mul_comm]⟩
      refine iteT ⟨fun σ H' => ∃ m', m' < n2 - c2 - j ∧ ∃ j : Nat, σ = [some (sV t1), some (sV t2), some (.ref pa), some (.ref qa), some (.ref x), some (.ref x2), some (.int (((n1 - c1) * j : Nat) : Int)), none] ∧ H' = Hx ∧ 1 ≤ j ∧ j ≤ n2 - c2 ∧ m' = n2 - c2 - j, fun _ _ z => z, ?_⟩
      refine ⟨_, rfl, _, rfl, x, dy, _, rfl, e1, x, p, n1, c1, rfl, hS1, _, _, rfl, rfl, ?_⟩
      refine ⟨n2 - c2 - (j + 1), by omega, j + 1, ?_, rfl, by omega, by omega, rfl⟩
      have e : (((n1 - c1) * (j + 1) : Nat) : Int) = (((n1 - c1) * j : Nat) : Int) + ((n1 : Int) - (c1 : Int)) := by rw [ea, Nat.mul_add, Nat.mul_one, Int.natCast_add]
      rw [e]
      rfl
end
end Sw

end

section
set_option maxRecDepth 100000
set_option maxHeartbeats 4000000
set_option pp.deepTerms false
set_option pp.deepTerms.threshold 12
/-! k36: the law -/
namespace Sw
open PySem PySem.Spec PyProof.Rows L2 SwA CwR
structure L36T (K : PySem.W.Frag) (mg : Str → Option Value) : Prop where
  li : LinT K mg
  pp : PpT K mg
  fp : FpT K mg
  r : RdT K mg
  so : SofT K mg
  sh : ShoT K mg
  fd : FdT K mg
  rin : RinT K mg
abbrev natsL36 (l : List Nat) : List V := l.map fun n : Nat => V.int n
theorem cut_last36 {xs : List V} {x : V} : cutV (xs ++ [x]) none (some (-1)) = xs := by
  show ((xs ++ [x]).drop 0).take (HT.sIx (xs ++ [x]).length (xs ++ [x]).length (some (-1)) - 0) = xs
  have e : HT.sIx (xs ++ [x]).length (xs ++ [x]).length (some (-1)) = xs.length := by
    show (if (-1 : Int) < 0 then (-1 + ((xs ++ [x]).length : Int)).toNat else min (-1 : Int).toNat (xs ++ [x]).length) = _
    rw [if_pos (by decide), List.length_append, List.length_singleton]
    omega
  rw [e, List.drop_zero, Nat.sub_zero, List.take_left']
  rfl
theorem at_last36 {xs : List V} {x : V} : atI (xs ++ [x]) (-1) = some x := by
  unfold atI ixN
  rw [if_neg (by decide), if_pos (by rw [List.length_append, List.length_singleton]; omega)]
  have e : ((-1 : Int) + ((xs ++ [x]).length : Nat)).toNat = xs.length := by
    rw [List.length_append, List.length_singleton]
    omega
  rw [e]
  show (xs ++ [x])[xs.length]? = _
  rw [List.getElem?_append_right (Nat.le_refl _), Nat.sub_self]
  rfl
def rb36D (moods : List Cs) (r : Rob) : PyData := .tuple [.int r.1, .str (wayS r.2.1), .str (sx (moods.getD r.2.2 []))]
theorem dpa_rb36 {K : PySem.W.Frag} {moods : List Cs} {H : Hp} : ∀ {ts : List Addr} {rs : List Rob}, Paired (RobT moods H) ts rs → DpAll K H (ts.map V.ref) (rs.map (rb36D moods))
  | _, _, .nil => .nil
  | _, _, .cons h t => .cons (.tup (SqT.of h) (.cons (.int _) (.cons (.str _) (.cons (.str _) .nil)))) (dpa_rb36 t)
theorem shd_rb36 {moods : List Cs} (h : ∀ z ∈ moods, ∀ c ∈ z, isL c = true) (rs : List Rob) : ShD 3 (.list (rs.map (rb36D moods))) := shd_list fun d hd => by
  obtain ⟨r, _, rfl⟩ := List.mem_map.mp hd
  refine shd_tuple fun d hd => ?_
  simp only [List.mem_cons, List.not_mem_nil, or_false] at hd
  rcases hd with rfl | rfl | rfl
  · exact shd_int _
  · cases r.2.1
    · exact shd_str (x := "left") (by decide +kernel)
    · exact shd_str (x := "right") (by decide +kernel)
  · rw [List.getD_eq_getElem?_getD]
    cases e : moods[r.2.2]? with
    | none => exact shd_nm (cs := []) fun c hc => nomatch hc
    | some z => exact shd_nm (h z (List.mem_of_getElem? e))
section
variable {P : Program} {w : World} {K : PySem.W.Frag} {mg : Str → Option Value} {base : Heap}
def spLaw (K : PySem.W.Frag) : Sp := fun vs H Q _ => ∃ (a : Addr) (ns : List Int), vs = [.ref a] ∧ SqL K H a (ns.map V.int) ∧ ns.length ≤ 63 ∧ ∀ H', Q (.bl true) H'
abbrev laN : List Str := ["_law_script", "_law_d", "_law_plan_here", "_law_text_here", "_law_lines_here", "_law_spread", "_law_bare", "_law_k", "_law_more", "_law_tile", "_law_others", "_law_line", "_law_robots", "_law_loose", "_law_other", "_law_second", "_law_small", "_law_texts", "_law_code"]
theorem sc_law : FnScope laN ["_law_script"] (defScope s_law) := ⟨rfl, rfl, rfl, by decide +kernel, rfl, by decide +kernel, by decide +kernel⟩
abbrev rAddS36 : R2 := fun x y H Q => ∃ i j, x = .str i ∧ y = .str j ∧ i.length + j.length ≤ sizeLine ∧ Q (.str (i ++ j)) H
abbrev rStrI36 : List V → Hp → VK → Prop := fun xs H Q => ∃ i, xs = [.int i] ∧ i.natAbs.log2 < 1920 ∧ Q (.str (toString i)) H
theorem ok_law (T : L36T K mg) {fd : FuncData} (F : FunD K "law" "law" (defArgs s_law) (defBody s_law) (defScope s_law) [] [] (He.fAd K ("law", none)) fd) : FnOk P w K mg base CX0 12 (He.fAd K ("law", none)) fd ["_law_script"] (spLaw K) := by
  obtain ⟨fdR, GR, bR, kR⟩ := ok_random (P := P) (w := w) (base := base) T.li.p.s.l
  obtain ⟨fdB, GB, bB, kB⟩ := ok_below (P := P) (w := w) (base := base) T.li.p.s.l
  obtain ⟨fdPL, GPL, bPL, kPL⟩ := ok_lplan (P := P) (w := w) (base := base) T.li.p
  obtain ⟨fdTX, GTX, bTX, kTX⟩ := ok_text (P := P) (w := w) (base := base) T.li
  obtain ⟨fdLI, GLI, bLI, kLI⟩ := ok_lines (P := P) (w := w) (base := base) T.li
  obtain ⟨fdSF, GSF, bSF, kSF⟩ := ok_shuffled (P := P) (w := w) (base := base) T.li.p.s
  obtain ⟨fdSH, GSH, bSH, kSH⟩ := ok_sho (P := P) (w := w) (base := base) T.sh
  obtain ⟨fdPP, GPP, bPP, kPP⟩ := ok_pp (P := P) (w := w) (base := base) T.pp
  obtain ⟨fdFP, GFP, bFP, kFP⟩ := ok_fp (P := P) (w := w) (base := base) T.fp
  obtain ⟨fdEN, GEN, bEN, kEN⟩ := ok_encodeR (P := P) (w := w) (base := base) T.r.e
  obtain ⟨fdDE, GDE, bDE, kDE⟩ := ok_decode (P := P) (w := w) (base := base) T.r
  obtain ⟨fdSO, GSO, bSO, kSO⟩ := ok_sof (P := P) (w := w) (base := base) T.so
  obtain ⟨fdFD, GFD, bFD, kFD⟩ := ok_fd (P := P) (w := w) (base := base) T.fd
  obtain ⟨fdRI, GRI, bRI, kRI⟩ := ok_rin (P := P) (w := w) (base := base) T.rin
  refine F.okT sc_law (by rfl) (fun vs H Q E h => ?_) (fun cdv A outer s H vs Q E hr h => ?_)
  · obtain ⟨a, ns, rfl, _⟩ := h
    rfl
  · obtain ⟨a, ns, rfl, ha, hn, k⟩ := h
    have hr1 : Room 1 _ := hr.mono (by decide)
    have hr2 : Room 2 _ := hr.mono (by decide)
    have hr3 : Room 3 _ := hr.mono (by decide)
    have hr4 : Room 4 _ := hr.mono (by decide)
    have hr9 : Room 9 _ := hr.mono (by decide)
    refine ⟨_, PSsT.nox (psst_cons (PST.of (ps_set (i := 1) sc_law.nd rfl (.inr rfl) (pe_call GR hr1 rfl T.li.p.s.l.random.g kR bR .nil pass0 (pa_cons (pv 0) (pa_cons pe_int pa_nil)))))
      (psst_cons (PST.of (ps_set (i := 2) sc_law.nd rfl (.inr rfl) (pe_call GPL hr3 rfl T.li.p.plan.g kPL bPL .nil pass0 (pa_cons (pv 1) (pa_cons pe_int pa_nil)))))
      (psst_cons (PST.of (ps_par (i := 3) (j := 4) (by rfl) sc_law.nd rfl rfl (by decide) rfl rfl (pa_cons (pe_call GTX hr2 rfl T.li.text.g kTX bTX .nil pass0 (pa_cons (pv 2) pa_nil)) (pa_cons (pe_call GLI hr1 rfl T.li.lines.g kLI bLI .nil pass0 (pa_cons (pv 2) pa_nil)) pa_nil)) (by rfl)))
      (psst_cons (pst_set (i := 5) sc_law.nd rfl (.inl rfl) (pet_ix ix_tup (pet_call GPP hr2 rfl T.pp.pp.g kPP bPP .nil pass0 (pat_cons (PET.of (pv 1)) (pat_cons (pet_words (pet_replC (pv 3))) pat_nil))) pe_int (fun _ _ => rfl)))
      (psst_cons (PST.of (ps_setLc (i := 6) (own := [("_law_k", 7)]) (g := (gName 7)) (tt := tTest (tOp rEq (tOp (rIxT K) (tOp (rIxT K) (tVar 2) (tC (.int 2))) (tVar 7)) (tC (.int 0)))) (te := tVar 7) rfl sc_law.nd rfl rfl (sw_true rfl rfl rfl (by decide +kernel)) (pi_range1 (by rfl) T.li.p.s.l.range (pa_cons (pe_callB call_len_seq (by rfl) T.li.p.s.l.len boot_len (pa_cons (pe_ix ix_tup (pv 2) pe_int (fun _ _ => rfl)) pa_nil)) pa_nil)) (blkOk_by (own := [("_law_k", 7)]) (N := laN) (sc := defScope s_law) (by decide +kernel)) (fun _ _ _ _ _ => (pg_name (i := 7) sc_law.nd rfl (.inl rfl))) (fun _ _ _ _ _ => (pts_one (pt_cmpR op_eq (pe_ix ix_tup (pe_ix ix_tup (pv 2) pe_int (fun _ _ => rfl)) (pv 7) (fun _ _ => rfl)) pe_int (nomark _)))) (fun _ _ _ _ _ => (pv 7))))
      (psst_cons (PST.of (ps_setLc (i := 8) (own := [("_law_tile", 9)]) (g := (gName 9)) (te := tOp rAddS36 (tOp rAddS36 (tOp rAddS36 (tOp rAddS36 (tC (.str "put ")) (tOp (rIxT K) (tOp (rIxT K) (tVar 2) (tC (.int 0))) (tC (.int 0)))) (tC (.str " "))) (tCB rStrI36 (tCons (tVar 9) tNil))) (tC (.str ";"))) rfl sc_law.nd rfl rfl (sw_true rfl rfl rfl (by decide +kernel)) (pi_list (pv 6)) (blkOk_by (own := [("_law_tile", 9)]) (N := laN) (sc := defScope s_law) (by decide +kernel)) (fun _ _ _ _ _ => (pg_name (i := 9) sc_law.nd rfl (.inl rfl))) (fun _ _ _ _ _ => (pts_one (pt_cmpR op_eq (pe_call GB hr1 rfl T.li.p.s.l.below.g kB bB .nil pass0 (pa_cons (pv 1) (pa_cons pe_int pa_nil))) pe_int (nomark _)))) (fun _ _ _ _ _ => (pe_op op_add_str (pe_op op_add_str (pe_op op_add_str (pe_op op_add_str pe_str (pe_ix ix_tup (pe_ix ix_tup (pv 2) pe_int (fun _ _ => rfl)) pe_int (fun _ _ => rfl))) pe_str) (pe_callTy call_str_int (by rfl) T.li.str (by decide +kernel) (pa_cons (pv 9) pa_nil))) pe_str))))
      (psst_cons (PST.of (ps_set (i := 10) sc_law.nd rfl (.inl rfl) (pe_call GSF hr2 rfl T.li.p.s.shuffled.g kSF bSF .nil pass0 (pa_cons (pv 1) (pa_cons (pe_op op_cat (pe_lc (own := [("_law_line", 11)]) (g := (gName 11)) (te := tVar 11) rfl sc_law.nd (pi_list (pe_slice sl_list (pv 4) (po_some pe_int) po_none)) (blkOk_by (own := [("_law_line", 11)]) (N := laN) (sc := defScope s_law) (by decide +kernel)) (fun _ _ _ _ _ => (pg_name (i := 11) sc_law.nd rfl (.inl rfl))) (fun _ _ _ _ _ => (pts_one (pt_cmpR op_ne (pe_slice sl_str (pv 11) po_none (po_some pe_int)) pe_str (nomark _)))) (fun _ _ _ _ _ => (pv 11))) (pv 8)) pa_nil)))))
      (psst_cons (PST.of (ps_setLc (i := 12) (own := [("_law_line", 11)]) (g := (gName 11)) (te := tVar 11) rfl sc_law.nd rfl rfl (sw_true rfl rfl rfl (by decide +kernel)) (pi_list (pe_slice sl_list (pv 4) (po_some pe_int) po_none)) (blkOk_by (own := [("_law_line", 11)]) (N := laN) (sc := defScope s_law) (by decide +kernel)) (fun _ _ _ _ _ => (pg_name (i := 11) sc_law.nd rfl (.inl rfl))) (fun _ _ _ _ _ => (pts_one (pt_cmpR op_eq (pe_slice sl_str (pv 11) po_none (po_some pe_int)) pe_str (nomark _)))) (fun _ _ _ _ _ => (pv 11))))
      (psst_cons (PST.of (ps_set (i := 13) sc_law.nd rfl (.inl rfl) (pe_join pe_str (pe_op op_cat (pe_op op_cat (pe_op op_cat (pe_slice sl_list (pv 4) po_none (po_some pe_int)) (pe_slice sl_list (pv 12) po_none (po_some pe_int))) (pv 10)) (pe_slice sl_list (pv 12) (po_some pe_int) po_none)))))
      (psst_cons (PST.of (ps_for PassesOwn.never rfl (pi_tup (pe_tup (pa_cons (pv 5) (pa_cons (pv 13) pa_nil)))) (pg_name (i := 14) sc_law.nd rfl (.inl rfl))
        (pss_cons (ps_if (PW.pt (pw_or (pt_cmpR op_ne (pe_call GFP hr9 rfl T.fp.fp.g kFP bFP .nil pass0 (pa_cons (pv 14) pa_nil)) (pv 3) (nomark _)) (pw_or (pt_cmpR (op_neD hr.units) (pe_call GEN hr9 rfl T.r.e.encode.g kEN bEN .nil pass0 (pa_cons (pv 14) pa_nil)) (pe_call GEN hr9 rfl T.r.e.encode.g kEN bEN .nil pass0 (pa_cons (pv 3) pa_nil)) (nomark _)) (pw_or1 (pt_cmpR op_ne (pe_call GDE hr4 rfl T.r.decode.g kDE bDE .nil pass0 (pa_cons (pe_call GEN hr9 rfl T.r.e.encode.g kEN bEN .nil pass0 (pa_cons (pv 14) pa_nil)) pa_nil)) (pv 3) (nomark _))))))
          (pss_one (ps_ret pe_bl)) pss_nil)
        (pss_one (ps_if (pt_cmpR (op_neD hr.units) (pe_call GSO hr9 rfl T.so.so.g kSO bSO .nil pass0 (pa_cons (pv 14) pa_nil)) (pe_callTy call_list_of (by rfl) T.li.p.s.l.list (by decide +kernel) (pa_cons (pe_ix ix_tup (pv 2) pe_int (fun _ _ => rfl)) pa_nil)) (nomark _))
          (pss_one (ps_ret pe_bl)) pss_nil)))))
      (psst_cons (PST.of (ps_if (PW.pt (pw_or (pt_cmpR op_ne (pe_call GFP hr9 rfl T.fp.fp.g kFP bFP .nil pass0 (pa_cons (pe_call GFP hr9 rfl T.fp.fp.g kFP bFP .nil pass0 (pa_cons (pv 3) pa_nil)) pa_nil)) (pv 3) (nomark _)) (pw_or1 (pt_cmpR op_ne (pe_call GFP hr9 rfl T.fp.fp.g kFP bFP .nil pass0 (pa_cons (pe_call GDE hr4 rfl T.r.decode.g kDE bDE .nil pass0 (pa_cons (pe_call GEN hr9 rfl T.r.e.encode.g kEN bEN .nil pass0 (pa_cons (pv 3) pa_nil)) pa_nil)) pa_nil)) (pv 3) (nomark _)))))
        (pss_one (ps_ret pe_bl)) pss_nil))
      (psst_cons (PST.of (ps_set (i := 15) sc_law.nd rfl (.inl rfl) (pe_call GTX hr2 rfl T.li.text.g kTX bTX .nil pass0 (pa_cons (pe_call GPL hr3 rfl T.li.p.plan.g kPL bPL .nil pass0 (pa_cons (pv 1) (pa_cons pe_int pa_nil))) pa_nil))))
      (psst_cons (PST.of (ps_if (PW.pt (pw_or (pt_cmpR op_ne (pe_cmpR (op_eqD hr.units) (pe_call GEN hr9 rfl T.r.e.encode.g kEN bEN .nil pass0 (pa_cons (pv 15) pa_nil)) (pe_call GEN hr9 rfl T.r.e.encode.g kEN bEN .nil pass0 (pa_cons (pv 3) pa_nil)) (nomark _)) (pe_cmpR op_eq (pv 15) (pv 3) (nomark _)) (nomark _)) (pw_or1 (pt_cmpR op_ne (pe_call GDE hr4 rfl T.r.decode.g kDE bDE .nil pass0 (pa_cons (pe_call GEN hr9 rfl T.r.e.encode.g kEN bEN .nil pass0 (pa_cons (pv 15) pa_nil)) pa_nil)) (pv 15) (nomark _)))))
        (pss_one (ps_ret pe_bl)) pss_nil))
      (psst_cons (PST.of (ps_set (i := 16) sc_law.nd rfl (.inl rfl) (pe_call GSH hr4 rfl T.sh.short.g kSH bSH .nil pass0 (pa_cons (pv 1) (pa_cons pe_int pa_nil)))))
      (psst_cons (pst_set (i := 17) sc_law.nd rfl (.inl rfl) (pet_lst (pat_cons (PET.of (pe_call GTX hr2 rfl T.li.text.g kTX bTX .nil pass0 (pa_cons (pv 16) pa_nil))) (pat_cons (pet_ix ix_tup (pet_call GPP hr2 rfl T.pp.pp.g kPP bPP .nil pass0 (pat_cons (PET.of (pv 1)) (pat_cons (pet_words (pet_replC (pe_call GTX hr2 rfl T.li.text.g kTX bTX .nil pass0 (pa_cons (pv 16) pa_nil)))) pat_nil))) pe_int (fun _ _ => rfl)) pat_nil))))
      (PSsT.of (pss_cons (ps_if (PW.pt (pw_or (pt_cmpR op_notN (pe_call GFD hr9 rfl T.fd.fd.g kFD bFD .nil pass0 (pa_cons (pe_ix ix_list (pv 17) pe_int (fun _ _ => rfl)) (pa_cons (pe_ix ix_list (pv 17) pe_int (fun _ _ => rfl)) pa_nil))) pe_non (nomark _)) (pw_or1 (pt_cmpR (op_neD hr.units) (pe_call GRI hr9 rfl T.rin.ri.g kRI bRI .nil pass0 (pa_cons (pe_ix ix_list (pv 17) pe_int (fun _ _ => rfl)) (pa_cons pe_int pa_nil))) (pe_call GRI hr9 rfl T.rin.ri.g kRI bRI .nil pass0 (pa_cons (pe_ix ix_list (pv 17) pe_int (fun _ _ => rfl)) (pa_cons pe_int pa_nil))) (nomark _)))))
        (pss_one (ps_ret pe_bl)) pss_nil)
      (pss_cons (ps_set (i := 18) sc_law.nd rfl (.inl rfl) (pe_call GEN hr9 rfl T.r.e.encode.g kEN bEN .nil pass0 (pa_cons (pv 3) pa_nil)))
      (pss_one (ps_ret (pe_and (pe_cmpR op_eq (pe_op op_mod (pe_callTy call_int1 (by rfl) T.r.e.int (by decide +kernel) (pa_cons (pe_callB (cr_sum rfl) (by rfl) T.r.e.sum (by decide +kernel) (pa_cons (pe_slice sl_list (pv 18) po_none (po_some (pe_un un_neg pe_int))) pa_nil)) pa_nil)) pe_int) (pe_ix ix_list (pv 18) (pe_un un_neg pe_int) (fun _ _ => rfl)) (nomark _)) (pe_one (pe_cmpR (op_eqD hr.units) (pe_slice sl_list (pv 18) po_none (po_some pe_int)) (pe_lst (pa_cons pe_int (pa_cons (pe_callB call_len_seq (by rfl) T.li.p.s.l.len boot_len (pa_cons (pe_ix ix_tup (pv 2) pe_int (fun _ _ => rfl)) pa_nil)) pa_nil))) (nomark _)))))))))))))))))))))))), ?_⟩
    refine ⟨_, rfl, a, _, ns, rfl, ha, hn, fun d H1 nd s1 hd => ?_⟩
    refine ⟨_, rfl, d, 16, rfl, hd, by decide, by decide, fun pa H2 pl dr wf _ _ so npa hP => ?_⟩
    replace hd := dr.at_
    have hlf := lines_few wf so
    have htl := (text_len wf so).2
    refine ⟨_, rfl, pa, pl, rfl, hP, wf, so, fun H3 s3 => ?_⟩
    refine ⟨_, rfl, pa, pl, rfl, hP.same s3, wf, so, fun l H4 nl s4 hl => ?_⟩
    refine ⟨_, _, rfl, ?_⟩
    replace hd := hd.same s3
    have dl := hd.ne nl
    replace hd := hd.same s4
    replace hP := (hP.same s3).same s4
    -- the spread text
    have hrl := repl2_len (textOf pl)
    have hpf := parts_few wf so
    refine ⟨_, rfl, _, rfl, _, rfl, by rw [sx_len]; have : (" ;" : Str).length = 2 := by decide +kernel
                                       rw [this]; omega, ⟨_, rfl⟩, _, rfl, rfl, by rw [sizeLine_eq]; omega, fun p np => ?_⟩
    have ejr : Txt.words (Txt.replace (sx (textOf pl)) ";" " ;") = (partsOf (linesW pl)).map sx := join_repl2 (by simp [linesW, headW]) fun ls hls => ⟨(lines_w7 wf ls hls).1, (lines_w7 wf ls hls).2.1⟩
    rw [ejr]
    have s5 := sameUpd (o := .lst (((partsOf (linesW pl)).map sx).map V.str)) (Same.refl H4) np
    have hp := @upd_same H4 p (.lst (((partsOf (linesW pl)).map sx).map V.str))
    replace hl := s5 _ _ hl
    generalize upd H4 p (.lst (((partsOf (linesW pl)).map sx).map V.str)) = H5 at *
    have dp : p ≠ d := (hd.ne np).symm
    replace hd := hd.same s5
    replace hP := hP.same s5
    refine ⟨d, p, partsOf (linesW pl), rfl, hd, dp, by rw [hp, List.map_map]; rfl, by omega, fun w hw => Nat.le_trans (hpf.2 w hw) (by decide), fun t pa2 as gs H6 dr6 nt ht hpa2 hplc hgs hg3 => ?_⟩
    have hsp := reads_spread wf so hgs hg3
    refine ⟨t, _, 1, _, rfl, rfl, SqT.of ht, atI_nat (j := 1) rfl, ?_⟩
    replace hl := dr6.same _ _ (Ne.symm dl) hl
    replace hP := hP.drawn hd dr6
    replace hd := dr6.at_
    clear hp ht hpa2 hplc
    -- clear tiles
    have h16 := wf.n16
    obtain ⟨sa, ma, fa, ra, rd, ras, e0, e1, e2, e3, _⟩ := id hP
    refine ⟨_, rfl, pa, _, _, _, rfl, rfl, SqT.of e0, atI_nat (j := 2) rfl, fa, _, rfl, .inr (SqT.of e3), _, rfl, by omega, by rw [List.length_map]; omega, fun D3 nD3 => ?_⟩
    refine lc_range (lo := 0) (n := ((pl.floor.map fun n : Nat => V.int n).length : Int).toNat) (vs := [7]) (fun i H8 => Same H6 H8 ∧ H8 D3 = some (.lst (iVs ((List.range i).filter fun k => decide (pl.floor.getD k 0 = 0))))) ⟨sameUpd (Same.refl _) nD3, upd_same⟩ ?_ ?_
    · rintro j H8 hj ⟨sm, hD⟩
      rw [Int.toNat_natCast, List.length_map] at hj
      have hf : (pl.floor.map fun n : Nat => V.int n)[j]? = some (V.int (pl.floor.getD j 0 : Nat)) := by
        rw [List.getElem?_map, List.getD_eq_getElem?_getD, List.getElem?_eq_getElem hj]
        rfl
      have ez : (0 : Int) + (j : Nat) = (j : Nat) := by omega
      rw [ez]
      refine ⟨rfl, _, rfl, pa, _, _, _, rfl, rfl, SqT.of (sm _ _ e0), atI_nat (j := 2) rfl, _, rfl, fa, _, _, _, rfl, rfl, SqT.of (sm _ _ e3), atI_nat hf, rfl, _, rfl, ?_⟩
      have er : (List.range (j + 1)).filter (fun k => decide (pl.floor.getD k 0 = 0)) = (List.range j).filter (fun k => decide (pl.floor.getD k 0 = 0)) ++ (if pl.floor.getD j 0 = 0 then [j] else []) := by
        rw [List.range_succ, List.filter_append]
        congr 1
        rw [List.filter_cons, List.filter_nil]
        by_cases hz : pl.floor.getD j 0 = 0
        · rw [if_pos (decide_eq_true hz), if_pos hz]
        · rw [if_neg (by rw [decide_eq_false hz]; decide), if_neg hz]
      by_cases hz : pl.floor.getD j 0 = 0
      · rw [if_pos hz] at er
        rw [decide_eq_true (show V.int (pl.floor.getD j 0 : Nat) = V.int 0 by rw [hz]; rfl)]
        refine iteT ⟨_, rfl, _, hD, ?_, sameUpd sm nD3, ?_⟩
        · rw [List.length_map, sizeLine_eq]
          have q1 := List.length_filter_le (fun k => decide (pl.floor.getD k 0 = 0)) (List.range j)
          rw [List.length_range] at q1
          omega
        · rw [upd_same, er, ← iVs_app]
          rfl
      · rw [if_neg hz, List.append_nil] at er
        rw [decide_eq_false (show ¬ V.int (pl.floor.getD j 0 : Nat) = V.int 0 from fun z => hz (Int.natCast_inj.mp (V.int.inj z)))]
        refine iteF ⟨sm, ?_⟩
        rw [er]
        exact hD
    rintro H8 ⟨s8, hD3⟩
    rw [Int.toNat_natCast, List.length_map] at hD3
    generalize hcl : ((List.range pl.floor.length).filter fun k => decide (pl.floor.getD k 0 = 0)) = cl at hD3
    have hcl1 : cl.Nodup := by rw [← hcl]; exact (List.nodup_range).filter _
    have hcl2 : ∀ t ∈ cl, t < pl.floor.length ∧ pl.floor.getD t 0 = 0 := fun t ht => by
      rw [← hcl, List.mem_filter] at ht
      exact ⟨List.mem_range.mp ht.1, of_decide_eq_true ht.2⟩
    have hcl3 : cl.length ≤ 16 := by
      rw [← hcl]
      have := List.length_filter_le (fun k => decide (pl.floor.getD k 0 = 0)) (List.range pl.floor.length)
      rw [List.length_range] at this
      omega
    clear hcl
    have dD3 := hd.ne nD3
    have nlD : l ≠ D3 := ne_of_none hl nD3
    replace hd := hd.same s8
    replace hP := hP.same s8
    replace hl := s8 _ _ hl
    -- some of the clear tiles
    refine ⟨_, rfl, D3, rfl, ⟨_, SqL.of hD3⟩, fun D4 nD4 => ?_⟩
    obtain ⟨s0, sr, es⟩ := List.exists_cons_of_ne_nil wf.s1
    have hs0 : s0.length ≤ 8 := names_len wf.sN s0 (by rw [es]; exact List.mem_cons_self)
    have nd4 : D4 ≠ d := (hd.ne nD4).symm
    refine lc_list (K := K) (a := D3) (xs := iVs cl) (fun i HA => Drawn d H8 HA ∧ ∃ c : List Nat, c.Sublist (cl.take i) ∧ HA D4 = some (.lst (c.map fun t => lnV (stmW pl.signs pl.moods (.put 0 t))))) ⟨Drawn.new (Drawn.refl hd) nD4, [], List.nil_sublist _, upd_same⟩ (fun i H5 _ ⟨s, _⟩ => SqL.of (s.same _ _ dD3.symm hD3)) ?_ ?_
    · rintro j x HA hx ⟨dm, c, hcs, hD⟩
      rw [List.getElem?_map] at hx
      cases hw : cl[j]? with
      | none => rw [hw] at hx; cases hx
      | some t =>
        rw [hw] at hx
        cases hx
        have ht := hcl2 t (List.mem_of_getElem? hw)
        have hdl := dec_len t
        have hPA := hP.drawn hd dm
        have hcl4 := hcs.length_le
        have hcl5 := List.length_take_le' j cl
        refine ⟨rfl, _, rfl, d, 2, rfl, dm.at_, by decide, by decide, fun r sd cd bs hr4 hb => ?_⟩
        have dm2 : Drawn d H8 (upd HA d (drawL sd cd bs)) := dm.draw hb
        have hD2 : (upd HA d (drawL sd cd bs)) D4 = _ := (upd_ne nd4).trans hD
        generalize upd HA d (drawL sd cd bs) = HB at dm2 hD2 ⊢
        have hPB := hP.drawn hd dm2
        obtain ⟨sa, ma, fa, ra, rd, ras, e0, e1, e2, e3, _⟩ := id hPB
        refine ⟨rfl, _, rfl, ?_⟩
        by_cases hz : (V.int (r : Nat)) = V.int 0
        · rw [decide_eq_true hz]
          refine iteT ?_
          have esa : (pl.signs.map sV)[0]? = some (sV s0) := by rw [es]; rfl
          refine ⟨_, rfl, pa, _, _, _, rfl, rfl, SqT.of e0, atI_nat (j := 0) rfl, sa, _, _, _, rfl, rfl, e1.sq, atI_nat (j := 0) esa, sx (wPut ++ [32]), sx s0, (by kernel_rfl), rfl, lenS (by simp [wPut]; omega), ?_⟩
          rw [sx_app]
          refine ⟨sx (wPut ++ [32] ++ s0), sx [32], rfl, (by kernel_rfl), lenS (by simp [wPut]; omega), ?_⟩
          rw [sx_app]
          refine ⟨_, rfl, _, rfl, log_small (by omega), ?_⟩
          rw [str_dec (show t < 100 by omega)]
          refine ⟨sx (wPut ++ [32] ++ s0 ++ [32]), sx (dec t), rfl, rfl, lenS (by simp [wPut]; omega), ?_⟩
          rw [sx_app]
          refine ⟨sx (wPut ++ [32] ++ s0 ++ [32] ++ dec t), sx [59], rfl, (by kernel_rfl), lenS (by simp [wPut]; omega), ?_⟩
          rw [sx_app]
          have el : lnV (stmW pl.signs pl.moods (.put 0 t)) = V.str (sx (wPut ++ [32] ++ s0 ++ [32] ++ dec t ++ [59])) := by
            unfold lnV lineOf
            rw [words_join]
            simp [stmW, TL.joinL, es]
          refine ⟨_, hD2, ?_, Drawn.put dm2 nD4 nd4, c ++ [t], ?_, ?_⟩
          · rw [List.length_map, sizeLine_eq]
            omega
          · rw [List.take_succ, hw]
            exact hcs.append (List.Sublist.refl _)
          · rw [upd_same, List.map_append, ← el]
            rfl
        · rw [decide_eq_false hz]
          refine iteF ⟨dm2, c, ?_, hD2⟩
          rw [List.take_succ]
          exact hcs.trans (List.sublist_append_left _ _)
    rintro HA ⟨dA, c3, hcs, hD4⟩
    rw [List.length_map, List.take_length] at hcs
    have hcn : c3.Nodup := hcl1.sublist hcs
    have hc2 : ∀ t ∈ c3, t < pl.floor.length ∧ pl.floor.getD t 0 = 0 := fun t ht => hcl2 t (hcs.subset ht)
    have hc3 : c3.length ≤ 16 := Nat.le_trans hcs.length_le hcl3
    have nl4 : l ≠ D4 := ne_of_none hl nD4
    replace hl := dA.same _ _ (Ne.symm dl) hl
    replace hP := hP.drawn hd dA
    replace hd := dA.at_
    clear hcl1 hcl2 hcl3 hcs hD3
    -- the other lines
    refine ⟨_, rfl, _, rfl, _, rfl, l, _, rfl, SqL.of hl, fun p1 np1 => ?_⟩
    have ec : cutV ((linesW pl).map lnV) (some 3) none = ((linesW pl).drop 3).map lnV := (cut_dropA 3).trans List.map_drop.symm
    rw [ec]
    have s6 := sameUpd (o := .lst (((linesW pl).drop 3).map lnV)) (Same.refl HA) np1
    have hp1 := @upd_same HA p1 (.lst (((linesW pl).drop 3).map lnV))
    replace hl := s6 _ _ hl
    replace hD4 := s6 _ _ hD4
    generalize upd HA p1 (.lst (((linesW pl).drop 3).map lnV)) = HB at *
    replace hd := hd.same s6
    replace hP := hP.same s6
    refine ⟨p1, rfl, ⟨_, SqL.of hp1⟩, fun D2 nD2 => ?_⟩
    refine lc_list (K := K) (a := p1) (xs := ((linesW pl).drop 3).map lnV) (fun i H7 => Same HB H7 ∧ H7 D2 = some (.lst (((((linesW pl).drop 3).take i).filter fun ws => !isRob ws).map lnV))) ⟨sameUpd (Same.refl _) nD2, upd_same⟩ (fun i H5 _ ⟨s, _⟩ => SqL.of (s _ _ hp1)) ?_ ?_
    · rintro j x H7 hx ⟨sm, hD⟩
      rw [List.getElem?_map] at hx
      cases hw : ((linesW pl).drop 3)[j]? with
      | none => rw [hw] at hx; cases hx
      | some ws =>
        rw [hw] at hx
        cases hx
        have hm := List.mem_of_mem_drop (List.mem_of_getElem? hw)
        have hll := line_len wf ws hm
        have et := fil_succ (fun ws => !isRob ws) hw
        refine ⟨rfl, _, rfl, _, rfl, sx (lineOf ws), rfl, by rw [sx_len, sizeLine_eq]; omega, rfl, _, rfl, ?_⟩
        rw [line_rob wf hm]
        cases hb : isRob ws with
        | false =>
          rw [if_pos (by rw [hb]; rfl)] at et
          refine iteT ⟨_, rfl, _, hD, ?_, sameUpd sm nD2, ?_⟩
          · rw [List.length_map, sizeLine_eq]
            have q1 := List.length_filter_le (fun ws => !isRob ws) (((linesW pl).drop 3).take j)
            have q2 := List.length_take_le' j ((linesW pl).drop 3)
            have q3 : ((linesW pl).drop 3).length ≤ (linesW pl).length := by rw [List.length_drop]; omega
            omega
          · rw [upd_same, et, List.map_append]
            rfl
        | true =>
          rw [if_neg (by rw [hb]; decide), List.append_nil] at et
          refine iteF ⟨sm, ?_⟩
          rw [et]
          exact hD
    rintro H7 ⟨s7, hD2⟩
    rw [List.length_map, List.take_length, fil_oth] at hD2
    replace hd := hd.same s7
    replace hP := hP.same s7
    replace hl := s7 _ _ hl
    replace hD4 := s7 _ _ hD4
    clear hp1
    have hq1 : (putsL pl.floor).length ≤ 16 := by
      have h2 := List.length_filterMap_le (fun t => if 0 < pl.floor.getD t 0 then some (t, pl.floor.getD t 0) else none) (List.range pl.floor.length)
      rw [List.length_range] at h2
      exact Nat.le_trans h2 h16
    have hq2 := rules_few wf so
    refine ⟨_, rfl, D2, D4, _, _, rfl, rfl, hD2, hD4, by simp only [List.length_map, List.length_append]; rw [sizeLine_eq]; omega, fun q1 nq1 => ?_⟩
    have eos : (((putsL pl.floor).map putS ++ pl.rules.map rulS).map (stmW pl.signs pl.moods)).map lnV ++ (c3.map fun t => lnV (stmW pl.signs pl.moods (.put 0 t))) = ((putsL pl.floor).map putS ++ (pl.rules.map rulS ++ c3.map fun t => Stm.put 0 t)).map (fun s => lnV (stmW pl.signs pl.moods s)) := by
      simp only [List.map_append, List.map_map, List.append_assoc]
      rfl
    rw [eos]
    have s8 := sameUpd (o := .lst (((putsL pl.floor).map putS ++ (pl.rules.map rulS ++ c3.map fun t => Stm.put 0 t)).map (fun s => lnV (stmW pl.signs pl.moods s)))) (Same.refl H7) nq1
    have hq1' := @upd_same H7 q1 (.lst (((putsL pl.floor).map putS ++ (pl.rules.map rulS ++ c3.map fun t => Stm.put 0 t)).map (fun s => lnV (stmW pl.signs pl.moods s))))
    replace hl := s8 _ _ hl
    generalize upd H7 q1 (.lst (((putsL pl.floor).map putS ++ (pl.rules.map rulS ++ c3.map fun t => Stm.put 0 t)).map (fun s => lnV (stmW pl.signs pl.moods s)))) = HC at *
    replace hd := hd.same s8
    replace hP := hP.same s8
    refine ⟨d, q1, _, rfl, hd, SqL.of hq1', by simp only [List.length_map, List.length_append]; omega, fun lo HF ys hperm drF nlo hlo => ?_⟩
    obtain ⟨os, hos, eys⟩ := perm_map_ex hperm rfl
    subst eys
    have hosl : os.length ≤ 80 := by
      rw [hos.length_eq]
      simp only [List.length_map, List.length_append]
      omega
    obtain ⟨r0, rs, hrs⟩ := List.exists_cons_of_ne_nil wf.r1
    have hmix := mix36 wf hrs hc2 hcn hos
    have nl2 : l ≠ lo := ne_of_none hl nlo
    replace hl := drF.same l _ (Ne.symm dl) hl
    replace hP := hP.drawn hd drF
    replace hd := drF.at_
    clear hq1' hD2 hD4
    have nlo : lo ≠ l := fun z => nl2 z.symm
    -- the robots' lines
    refine ⟨_, rfl, _, rfl, l, _, rfl, SqL.of hl, fun p2 np2 => ?_⟩
    rw [ec]
    have s9 := sameUpd (o := .lst (((linesW pl).drop 3).map lnV)) (Same.refl HF) np2
    have hp2 := @upd_same HF p2 (.lst (((linesW pl).drop 3).map lnV))
    replace hl := s9 _ _ hl
    replace hlo := s9 _ _ hlo
    generalize upd HF p2 (.lst (((linesW pl).drop 3).map lnV)) = HD at *
    replace hd := hd.same s9
    replace hP := hP.same s9
    refine ⟨p2, rfl, ⟨_, SqL.of hp2⟩, fun D1 nD1 => ?_⟩
    refine lc_list (K := K) (a := p2) (xs := ((linesW pl).drop 3).map lnV) (fun i H5 => Same HD H5 ∧ H5 D1 = some (.lst (((((linesW pl).drop 3).take i).filter isRob).map lnV))) ⟨sameUpd (Same.refl _) nD1, upd_same⟩ (fun i H5 _ ⟨s, _⟩ => SqL.of (s _ _ hp2)) ?_ ?_
    · rintro j x H5 hx ⟨sm, hD⟩
      rw [List.getElem?_map] at hx
      cases hw : ((linesW pl).drop 3)[j]? with
      | none => rw [hw] at hx; cases hx
      | some ws =>
        rw [hw] at hx
        cases hx
        have hm := List.mem_of_mem_drop (List.mem_of_getElem? hw)
        have hll := line_len wf ws hm
        have et := fil_succ isRob hw
        refine ⟨rfl, _, rfl, _, rfl, sx (lineOf ws), rfl, by rw [sx_len, sizeLine_eq]; omega, rfl, _, rfl, ?_⟩
        rw [line_rob wf hm]
        cases hb : isRob ws with
        | true =>
          rw [if_pos hb] at et
          refine iteT ⟨_, rfl, _, hD, ?_, sameUpd sm nD1, ?_⟩
          · rw [List.length_map, sizeLine_eq]
            have q1 := List.length_filter_le isRob (((linesW pl).drop 3).take j)
            have q2 := List.length_take_le' j ((linesW pl).drop 3)
            have q3 : ((linesW pl).drop 3).length ≤ (linesW pl).length := by rw [List.length_drop]; omega
            omega
          · rw [upd_same, et, List.map_append]
            rfl
        | false =>
          rw [if_neg (by rw [hb]; decide), List.append_nil] at et
          refine iteF ⟨sm, ?_⟩
          rw [et]
          exact hD
    rintro H9 ⟨s10, hD1⟩
    rw [List.length_map, List.take_length, fil_rob3] at hD1
    replace hd := hd.same s10
    replace hP := hP.same s10
    replace hl := s10 _ _ hl
    replace hlo := s10 _ _ hlo
    clear hp2
    -- the loose text
    have hr3 := wf.r3
    rw [hrs, List.length_cons] at hr3
    refine ⟨⟨_, rfl⟩, _, rfl, _, rfl, l, _, rfl, SqL.of hl, fun p7 np7 => ?_⟩
    have ec7 : cutV ((linesW pl).map lnV) none (some 3) = (headW pl.floor.length pl.signs pl.moods).map lnV := (cut_takeA 3).trans (by rw [← List.map_take]; rfl)
    rw [ec7]
    have s17 := sameUpd (o := .lst ((headW pl.floor.length pl.signs pl.moods).map lnV)) (Same.refl H9) np7
    have hp7 := @upd_same H9 p7 (.lst ((headW pl.floor.length pl.signs pl.moods).map lnV))
    replace hD1 := s17 _ _ hD1
    replace hlo := s17 _ _ hlo
    generalize upd H9 p7 (.lst ((headW pl.floor.length pl.signs pl.moods).map lnV)) = H17 at *
    refine ⟨_, rfl, _, rfl, D1, _, rfl, SqL.of hD1, fun p8 np8 => ?_⟩
    have ec8 : cutV ((pl.robots.map fun r => stmW pl.signs pl.moods (robS r)).map lnV) none (some 1) = [lnV (stmW pl.signs pl.moods (.robot r0.1 r0.2))] := by
      refine (cut_takeA 1).trans ?_
      rw [hrs]
      rfl
    rw [ec8]
    have s18 := sameUpd (o := .lst [lnV (stmW pl.signs pl.moods (.robot r0.1 r0.2))]) (Same.refl H17) np8
    have hp8 := @upd_same H17 p8 (.lst [lnV (stmW pl.signs pl.moods (.robot r0.1 r0.2))])
    replace hD1 := s18 _ _ hD1
    replace hp7 := s18 _ _ hp7
    replace hlo := s18 _ _ hlo
    generalize upd H17 p8 (.lst [lnV (stmW pl.signs pl.moods (.robot r0.1 r0.2))]) = H18 at *
    refine ⟨p7, p8, _, _, rfl, rfl, hp7, hp8, by simp only [List.length_map, headW, List.length_cons, List.length_nil]; rw [sizeLine_eq]; omega, fun p9 np9 => ?_⟩
    have s19 := sameUpd (o := .lst ((headW pl.floor.length pl.signs pl.moods).map lnV ++ [lnV (stmW pl.signs pl.moods (.robot r0.1 r0.2))])) (Same.refl H18) np9
    have hp9 := @upd_same H18 p9 (.lst ((headW pl.floor.length pl.signs pl.moods).map lnV ++ [lnV (stmW pl.signs pl.moods (.robot r0.1 r0.2))]))
    replace hD1 := s19 _ _ hD1
    replace hlo := s19 _ _ hlo
    generalize upd H18 p9 (.lst ((headW pl.floor.length pl.signs pl.moods).map lnV ++ [lnV (stmW pl.signs pl.moods (.robot r0.1 r0.2))])) = H19 at *
    refine ⟨_, rfl, p9, lo, _, _, rfl, rfl, hp9, hlo, by simp only [List.length_append, List.length_map, headW, List.length_cons, List.length_nil]; rw [sizeLine_eq]; omega, fun p10 np10 => ?_⟩
    have s20 := sameUpd (o := .lst ((headW pl.floor.length pl.signs pl.moods).map lnV ++ [lnV (stmW pl.signs pl.moods (.robot r0.1 r0.2))] ++ os.map fun s => lnV (stmW pl.signs pl.moods s))) (Same.refl H19) np10
    have hp10 := @upd_same H19 p10 (.lst ((headW pl.floor.length pl.signs pl.moods).map lnV ++ [lnV (stmW pl.signs pl.moods (.robot r0.1 r0.2))] ++ os.map fun s => lnV (stmW pl.signs pl.moods s)))
    replace hD1 := s20 _ _ hD1
    generalize upd H19 p10 (.lst ((headW pl.floor.length pl.signs pl.moods).map lnV ++ [lnV (stmW pl.signs pl.moods (.robot r0.1 r0.2))] ++ os.map fun s => lnV (stmW pl.signs pl.moods s))) = H20 at *
    refine ⟨_, rfl, _, rfl, D1, _, rfl, SqL.of hD1, fun p11 np11 => ?_⟩
    have ec11 : cutV ((pl.robots.map fun r => stmW pl.signs pl.moods (robS r)).map lnV) (some 1) none = rs.map fun r => lnV (stmW pl.signs pl.moods (robS r)) := by
      refine (cut_dropA 1).trans ?_
      rw [hrs, List.map_map]
      rfl
    rw [ec11]
    have s21 := sameUpd (o := .lst (rs.map fun r => lnV (stmW pl.signs pl.moods (robS r)))) (Same.refl H20) np11
    have hp11 := @upd_same H20 p11 (.lst (rs.map fun r => lnV (stmW pl.signs pl.moods (robS r))))
    replace hp10 := s21 _ _ hp10
    generalize upd H20 p11 (.lst (rs.map fun r => lnV (stmW pl.signs pl.moods (robS r)))) = H21 at *
    refine ⟨p10, p11, _, _, rfl, rfl, hp10, hp11, by simp only [List.length_append, List.length_map, headW, List.length_cons, List.length_nil]; rw [sizeLine_eq]; omega, fun p12 np12 => ?_⟩
    have e12 : (headW pl.floor.length pl.signs pl.moods).map lnV ++ [lnV (stmW pl.signs pl.moods (.robot r0.1 r0.2))] ++ (os.map fun s => lnV (stmW pl.signs pl.moods s)) ++ (rs.map fun r => lnV (stmW pl.signs pl.moods (robS r))) = (((mixL pl r0 (os ++ rs.map robS)).map lineOf).map sx).map V.str := by
      simp [mixL, List.map_map, Function.comp_def]
    rw [e12]
    have s22 := sameUpd (o := .lst ((((mixL pl r0 (os ++ rs.map robS)).map lineOf).map sx).map V.str)) (Same.refl H21) np12
    have hp12 := @upd_same H21 p12 (.lst ((((mixL pl r0 (os ++ rs.map robS)).map lineOf).map sx).map V.str))
    generalize upd H21 p12 (.lst ((((mixL pl r0 (os ++ rs.map robS)).map lineOf).map sx).map V.str)) = H22 at *
    have hssl : (os ++ rs.map robS).length ≤ 100 := by
      rw [List.length_append, List.length_map]
      omega
    obtain ⟨ml1, ml2⟩ := mixL_len wf hmix hssl
    refine ⟨sx [10], p12, ((mixL pl r0 (os ++ rs.map robS)).map lineOf).map sx, (by kernel_rfl), rfl, .inl (SqL.of hp12), lenJ (by rw [List.length_map]; simp only [List.length_singleton]; omega), ?_⟩
    rw [join_sx]
    obtain ⟨hlr, hlw, hlp⟩ := reads_loose wf hmix hssl
    generalize TL.joinL [10] ((mixL pl r0 (os ++ rs.map robS)).map lineOf) = lt at hlr ⊢
    generalize (os ++ rs.map robS).filterMap uOf = us at hlr hlw hlp
    have s23 := (((((s17.trans s18).trans s19).trans s20).trans s21).trans s22)
    replace hd := hd.same s23
    replace hP := hP.same s23
    clear hp12 hp11 hp10 hp9 hp8 hp7 s17 s18 s19 s20 s21 s22
    -- both texts
    have hboth : ∀ z ∈ [gapT gs, lt], ∃ q : Plan, Reads z q ∧ WfP q ∧ pl.rules.Perm q.rules ∧ ({ q with rules := pl.rules } : Plan) = pl ∧ q.signs = pl.signs := fun z hz => by
      rcases List.mem_cons.mp hz with rfl | hz
      · exact ⟨pl, hsp, wf, .refl _, rfl, rfl⟩
      · rw [List.mem_singleton.mp hz]
        exact ⟨_, hlr, hlw, hlp, rfl, rfl⟩
    refine ⟨_, rfl, _, rfl, (by show 2 ≤ sizeLine; decide), fun tt ntt => ?_⟩
    have s24 := sameUpd (o := .tup [sV (gapT gs), sV lt]) (Same.refl H22) ntt
    have htt := @upd_same H22 tt (.tup [sV (gapT gs), sV lt])
    generalize upd H22 tt (.tup [sV (gapT gs), sV lt]) = H24 at *
    replace hd := hd.same s24
    replace hP := hP.same s24
    obtain ⟨sa3, ma3, fa3, ra3, rd3, ras3, g0, g1, g2, g3, _⟩ := id hP
    refine ⟨tt, rfl, ⟨_, SqT.of htt⟩, ?_⟩
    have hrt := reads_text36 wf so
    have shN : ShD 2 (.list (strsD pl.signs)) := shd_list fun d hd => by
      obtain ⟨z, hz, rfl⟩ := List.mem_map.mp hd
      exact shd_nm fun c hc => (wf.sN.ok z hz).1.1 c hc
    refine for_tup (K := K) (a := tt) (xs := [sV (gapT gs), sV lt]) (fun i σ Hy => ∃ o : Option V, σ = [some (.ref a), some (.ref d), some (.ref pa), some (sV (textOf pl)), some (.ref l), some (sV (gapT gs)), some (.ref D3), none, some (.ref D4), none, some (.ref lo), none, some (.ref D1), some (sV lt), o, none, none, none, none] ∧ Same H24 Hy) ⟨none, rfl, Same.refl _⟩ (fun i σ Hy _ ⟨_, _, sm⟩ => SqT.of (sm _ _ htt)) ?_ ?_
    · rintro i x σ Hy hx ⟨o, rfl, sm⟩
      have hz : ∃ z ∈ [gapT gs, lt], x = sV z := by
        have hm := List.mem_of_getElem? hx
        simp only [List.mem_cons, List.not_mem_nil, or_false] at hm
        rcases hm with rfl | rfl
        · exact ⟨_, List.mem_cons_self, rfl⟩
        · exact ⟨_, List.mem_cons_of_mem _ List.mem_cons_self, rfl⟩
      obtain ⟨z, hz, rfl⟩ := hz
      clear hx
      obtain ⟨q, hq, wq, pq, eq1, eq2⟩ := hboth z hz
      refine ⟨_, rfl, z, q, pl.rules, rfl, hq, wq, pq, so, fun Hz sz => ?_⟩
      rw [eq1]
      refine ⟨_, rfl, rfl, _, rfl, ?_⟩
      refine ite2 (fun h => absurd h (by rw [decide_eq_true rfl]; decide)) (fun _ => ?_)
      refine ⟨_, rfl, z, q, pl.rules, rfl, hq, wq, pq, so, fun l1 Ha nl1 sa hl1 => ?_⟩
      rw [eq1] at hl1
      refine ⟨_, rfl, textOf pl, pl, pl.rules, rfl, hrt, wf, .refl _, so, fun l2 Hb nl2 sb hl2 => ?_⟩
      replace hl1 := sb _ _ hl1
      refine ⟨_, _, .lst (SqL.of hl1) (dpa_nats _), .lst (SqL.of hl2) (dpa_nats _), (sh_natsL _).shaped (by decide), (sh_natsL _).shaped (by decide), _, rfl, ?_⟩
      rw [eqv_natsL]
      refine ite2 (fun h => absurd h (by rw [decide_eq_true rfl]; decide)) (fun _ => ?_)
      refine ⟨_, rfl, z, q, pl.rules, rfl, hq, wq, pq, so, fun l3 Hc nl3 sc hl3 => ?_⟩
      rw [eq1] at hl3
      refine ⟨l3, pl, rfl, hl3, wf, so, fun Hd sd => ⟨_, rfl, rfl, _, rfl, ?_⟩⟩
      refine ite2 (fun h => absurd h (by rw [decide_eq_true rfl]; decide)) (fun _ => ?_)
      clear hl1 hl2 hl3
      replace sm := ((((sm.trans sz).trans sa).trans sb).trans sc).trans sd
      refine ⟨_, rfl, z, q, rfl, hq, by rw [eq2]; exact Nat.le_trans wf.s4 (by decide), fun l4 He nl4 se hl4 => ?_⟩
      rw [eq2] at hl4
      replace sm := sm.trans se
      refine ⟨_, rfl, pa, _, _, _, rfl, rfl, SqT.of (sm _ _ g0), atI_nat (j := 0) rfl, sa3, _, rfl, .inr (g1.mono fun _ z => sm _ _ z).sq, fun l5 nl5 => ?_⟩
      have s5 := sameUpd (o := .lst (pl.signs.map sV)) (Same.refl He) nl5
      have hl5 := @upd_same He l5 (.lst (pl.signs.map sV))
      replace hl4 := s5 _ _ hl4
      replace sm := sm.trans s5
      generalize upd He l5 (.lst (pl.signs.map sV)) = Hf at *
      refine ⟨_, _, .lst (SqL.of hl4) (dpa_strs _), .lst (SqL.of hl5) (dpa_strs _), shN.shaped (by decide), shN.shaped (by decide), _, rfl, ?_⟩
      rw [shN.eqv]
      refine iteF ?_
      exact ⟨_, rfl, sm⟩
    rintro σ Hy ⟨o, rfl, sm⟩
    replace hd := hd.same sm
    replace hP := hP.same sm
    clear htt g0 g1 g2 g3
    -- again
    refine ⟨_, rfl, textOf pl, pl, pl.rules, rfl, hrt, wf, .refl _, so, fun Ha sa => ⟨textOf pl, pl, pl.rules, rfl, hrt, wf, .refl _, so, fun Hb sb => ?_⟩⟩
    refine ⟨_, rfl, rfl, _, rfl, ?_⟩
    refine ite2 (fun h => absurd h (by rw [decide_eq_true rfl]; decide)) (fun _ => ?_)
    refine ⟨_, rfl, textOf pl, pl, pl.rules, rfl, hrt, wf, .refl _, so, fun l1 Hc nl1 sc hl1 => ⟨l1, pl, rfl, hl1, wf, so, fun Hd sd => ⟨textOf pl, pl, pl.rules, rfl, hrt, wf, .refl _, so, fun He se => ?_⟩⟩⟩
    refine ⟨_, rfl, rfl, _, rfl, ?_⟩
    refine ite2 (fun h => absurd h (by rw [decide_eq_true rfl]; decide)) (fun _ => ?_)
    have sm2 := (((sa.trans sb).trans sc).trans sd).trans se
    replace hd := hd.same sm2
    replace hP := hP.same sm2
    clear hl1
    -- a second plan
    refine ⟨_, rfl, d, 16, rfl, hd, by decide, by decide, fun pb Hf pl2 dr2 wf2 _ _ so2 npb hP2 => ⟨pb, pl2, rfl, hP2, wf2, so2, fun Hg sg => ?_⟩⟩
    replace hP := (hP.drawn hd dr2).same sg
    replace hd := dr2.at_.same sg
    have hrt2 := reads_text36 wf2 so2
    clear hP2
    refine ⟨_, rfl, textOf pl2, pl2, pl2.rules, rfl, hrt2, wf2, .refl _, so2, fun l2 Hh nl2 sh hl2 => ⟨_, rfl, textOf pl, pl, pl.rules, rfl, hrt, wf, .refl _, so, fun l3 Hi nl3 si hl3 => ⟨_, _, .lst (SqL.of (si _ _ hl2)) (dpa_nats _), .lst (SqL.of hl3) (dpa_nats _), (sh_natsL _).shaped (by decide), (sh_natsL _).shaped (by decide), ?_⟩⟩⟩
    clear hl2 hl3
    rw [eqv_natsL]
    refine ⟨_, rfl, _, rfl, rfl, rfl, _, rfl, ?_⟩
    have e36 : decide (codeB { pl2 with rules := pl2.rules } = codeB { pl with rules := pl.rules }) = decide (V.str (sx (textOf pl2)) = V.str (sx (textOf pl))) := decide_eq_decide.mpr ((code_text wf2 wf).trans ⟨fun e => by rw [e], fun e => sx_inj (V.str.inj e)⟩)
    rw [e36]
    refine ite2 (fun h => absurd h (by rw [decide_eq_true rfl]; decide)) (fun _ => ?_)
    refine ⟨_, rfl, textOf pl2, pl2, pl2.rules, rfl, hrt2, wf2, .refl _, so2, fun l4 Hj nl4 sj hl4 => ⟨l4, pl2, rfl, hl4, wf2, so2, fun Hk sk => ⟨_, rfl, rfl, _, rfl, ?_⟩⟩⟩
    refine ite2 (fun h => absurd h (by rw [decide_eq_true rfl]; decide)) (fun _ => ?_)
    have sm3 := ((sh.trans si).trans sj).trans sk
    replace hd := hd.same sm3
    replace hP := hP.same sm3
    clear hl4
    -- a small plan
    refine ⟨_, rfl, d, 4, rfl, hd, by decide, by decide, fun pc Hl pl3 dr3 wf3 sml3 fl3 so3 npc hP3 => ?_⟩
    replace hP := hP.drawn hd dr3
    replace hd := dr3.at_
    have hrt3 := reads_text36 wf3 so3
    have htl3 := (text_len wf3 so3).2
    have hrl3 := repl2_len (textOf pl3)
    have hpf3 := parts_few wf3 so3
    refine ⟨_, rfl, pc, pl3, rfl, hP3, wf3, so3, fun Hm sm4 => ?_⟩
    refine ⟨_, rfl, _, rfl, pc, pl3, rfl, hP3.same sm4, wf3, so3, fun Hn sn => ?_⟩
    replace hd := (hd.same sm4).same sn
    replace hP := (hP.same sm4).same sn
    refine ⟨_, rfl, by rw [sx_len]; have : (" ;" : Str).length = 2 := by decide +kernel
                       rw [this]; omega, ⟨_, rfl⟩, _, rfl, rfl, by rw [sizeLine_eq]; omega, fun p13 np13 => ?_⟩
    have ejr3 : Txt.words (Txt.replace (sx (textOf pl3)) ";" " ;") = (partsOf (linesW pl3)).map sx := join_repl2 (by simp [linesW, headW]) fun ls hls => ⟨(lines_w7 wf3 ls hls).1, (lines_w7 wf3 ls hls).2.1⟩
    rw [ejr3]
    have s31 := sameUpd (o := .lst (((partsOf (linesW pl3)).map sx).map V.str)) (Same.refl Hn) np13
    have hp13 := @upd_same Hn p13 (.lst (((partsOf (linesW pl3)).map sx).map V.str))
    generalize upd Hn p13 (.lst (((partsOf (linesW pl3)).map sx).map V.str)) = Ho at *
    have dp13 : p13 ≠ d := (hd.ne np13).symm
    replace hd := hd.same s31
    replace hP := hP.same s31
    refine ⟨d, p13, partsOf (linesW pl3), rfl, hd, dp13, by rw [hp13, List.map_map]; rfl, by omega, fun w hw => Nat.le_trans (hpf3.2 w hw) (by decide), fun t2 pa4 as2 gs2 Hq drq nt2 ht2 hpa4 hplc2 hgs2 hg32 => ?_⟩
    have hsp2 := reads_spread wf3 so3 hgs2 hg32
    refine ⟨t2, _, 1, _, rfl, rfl, SqT.of ht2, atI_nat (j := 1) rfl, ?_⟩
    replace hP := hP.drawn hd drq
    clear hp13 ht2 hpa4 hplc2
    refine ⟨(by show 2 ≤ sizeLine; decide), fun q2 nq2 => ?_⟩
    have s32 := sameUpd (o := .lst [sV (textOf pl3), sV (gapT gs2)]) (Same.refl Hq) nq2
    have hq2 := @upd_same Hq q2 (.lst [sV (textOf pl3), sV (gapT gs2)])
    generalize upd Hq q2 (.lst [sV (textOf pl3), sV (gapT gs2)]) = Hr at *
    replace hP := hP.same s32
    have hea := small_early wf3 sml3
    refine ⟨_, rfl, q2, _, _, _, rfl, rfl, SqL.of hq2, atI_nat (j := 0) rfl, _, rfl, q2, _, _, _, rfl, rfl, SqL.of hq2, atI_nat (j := 1) rfl, textOf pl3, gapT gs2, pl3, pl3, rfl, ⟨hrt3, wf3, hea⟩, ⟨hsp2, wf3, hea⟩, rfl, rfl, fun r Hs ss hrF => ?_⟩
    have er0 : r = none := by
      cases r with
      | none => rfl
      | some u => exact absurd rfl hrF.1
    subst er0
    replace hq2 := ss _ _ hq2
    replace hP := hP.same ss
    refine ⟨rfl, _, rfl, iteF ?_⟩
    refine ⟨_, rfl, q2, _, _, _, rfl, rfl, SqL.of hq2, atI_nat (j := 0) rfl, textOf pl3, pl3, 50, rfl, hrt3, wf3, hea, by decide, fun l6 ts6 Ht nl6 s6 hl6 pr6 => ?_⟩
    refine ⟨_, rfl, q2, _, _, _, rfl, rfl, SqL.of (s6 _ _ hq2), atI_nat (j := 1) rfl, gapT gs2, pl3, 50, rfl, hsp2, wf3, hea, by decide, fun l7 ts7 Hu nl7 s7 hl7 pr7 => ?_⟩
    have hmL : ∀ z ∈ pl3.moods, ∀ c ∈ z, isL c = true := fun z hz => (wf3.mN.ok z hz).1.1
    have pr6' : Paired (RobT pl3.moods Hu) ts6 (stN pl3 51).robots := Paired.mapP pr6 fun _ _ q => s7 _ _ q
    refine ⟨_, _, .lst (SqL.of (s7 _ _ hl6)) (dpa_rb36 pr6'), .lst (SqL.of hl7) (dpa_rb36 pr7), (shd_rb36 hmL _).shaped (by decide), (shd_rb36 hmL _).shaped (by decide), _, rfl, ?_⟩
    rw [(shd_rb36 hmL _).eqv]
    refine iteF ?_
    replace hP := (hP.same s6).same s7
    clear hl6 hl7 pr6 pr7 pr6' hq2
    -- the code
    refine ⟨_, rfl, textOf pl, pl, pl.rules, rfl, hrt, wf, .refl _, so, fun cl Hv ncl sv hcl => ?_⟩
    replace hP := hP.same sv
    have hcb : iVs (codeB pl) = iVs (bodyB pl) ++ [V.int (((bodyB pl).sum : Nat) % 256 : Int)] := by
      unfold codeB
      rw [← iVs_app]
      have : ((((bodyB pl).sum : Nat) : Int) % 256) = (((bodyB pl).sum % 256 : Nat) : Int) := by omega
      rw [this]
      rfl
    replace hcl : Hv cl = some (.lst (iVs (codeB pl))) := hcl
    rw [hcb] at hcl
    refine ⟨_, rfl, _, rfl, _, rfl, cl, _, rfl, SqL.of hcl, fun u1 nu1 => ?_⟩
    rw [cut_last36]
    have s41 := sameUpd (o := .lst (iVs (bodyB pl))) (Same.refl Hv) nu1
    have hu1 := @upd_same Hv u1 (.lst (iVs (bodyB pl)))
    replace hcl := s41 _ _ hcl
    generalize upd Hv u1 (.lst (iVs (bodyB pl))) = Hw at *
    replace hP := hP.same s41
    refine ⟨u1, (bodyB pl).map (fun n : Nat => (n : Int)), rfl, SqL.of (by rw [← iVs_int]; exact hu1), ?_⟩
    rw [isum]
    refine .inl ⟨_, rfl, ?_⟩
    refine ⟨_, _, rfl, rfl, (show (0 : Int) < 256 by decide), ?_⟩
    refine ⟨_, rfl, _, rfl, cl, _, -1, _, rfl, rfl, SqL.of hcl, at_last36, ?_⟩
    refine ⟨rfl, _, rfl, ?_⟩
    rw [if_pos (decide_eq_true rfl)]
    obtain ⟨sa4, ma4, fa4, ra4, rd4, ras4, g0, g1, g2, g3, _⟩ := id hP
    refine ⟨_, rfl, _, rfl, cl, _, rfl, SqL.of hcl, fun u2 nu2 => ?_⟩
    have ec2 : cutV (iVs (bodyB pl) ++ [V.int (((bodyB pl).sum : Nat) % 256 : Int)]) none (some 2) = (natsL36 [82, pl.floor.length]) := by
      unfold bodyB
      rfl
    rw [ec2]
    have s42 := sameUpd (o := .lst (natsL36 [82, pl.floor.length])) (Same.refl Hw) nu2
    have hu2 := @upd_same Hw u2 (.lst (natsL36 [82, pl.floor.length]))
    generalize upd Hw u2 (.lst (natsL36 [82, pl.floor.length])) = Hx at *
    refine ⟨_, rfl, pa, _, _, _, rfl, rfl, SqT.of (s42 _ _ g0), atI_nat (j := 2) rfl, fa4, _, rfl, .inr (SqT.of (s42 _ _ g3)), (by show 2 ≤ sizeLine; decide), fun u3 nu3 => ?_⟩
    rw [List.length_map]
    have s43 := sameUpd (o := .lst [V.int 82, V.int (pl.floor.length : Nat)]) (Same.refl Hx) nu3
    have hu3 := @upd_same Hx u3 (.lst [V.int 82, V.int (pl.floor.length : Nat)])
    replace hu2 := s43 _ _ hu2
    generalize upd Hx u3 (.lst [V.int 82, V.int (pl.floor.length : Nat)]) = Hy at *
    have hu4 : Hy u3 = some (.lst (natsL36 [82, pl.floor.length])) := hu3
    refine ⟨_, _, .lst (SqL.of hu2) (dpa_nats _), .lst (SqL.of hu4) (dpa_nats _), (sh_natsL _).shaped (by decide), (sh_natsL _).shaped (by decide), ?_⟩
    rw [eqv_natsL, decide_eq_true rfl]
    exact k _
end
end Sw

end

section
set_option maxRecDepth 100000
set_option maxHeartbeats 0
/-! the head: facts by names -/
namespace Sw
open PySem PySem.Spec PyProof.Rows L2 SwA
theorem fclsB_ok {K : PySem.W.Frag} (h : fclsB K = true) : PySem.W.findCls K (.ref (He.ga K "SweepError")) (.type "type") "__init__" = some (.val (.builtin "ValueError.__init__")) := by
  unfold fclsB at h
  split at h
  · rename_i n e
    rw [e, beq_iff_eq.mp h]
  · cases h
theorem mvB_ok {K : PySem.W.Frag} (h : mvB K = true) : ∃ o, K.lookup (He.ga K "MOVES") = some o ∧ o.cls = .type "tuple" ∧ o.dict = none := by
  unfold mvB at h
  split at h
  · rename_i e
    exact ⟨_, e, rfl, rfl⟩
  · cases h
theorem kTup_ok {K : PySem.W.Frag} {x : Str} {ws : List Cs} (h : He.tupB K x (ws.map fun w => He.Dv.str (sx w)) = true) : ∀ H : Hp, SqT K H (He.ga K x) (ws.map fun w => V.str (sx w)) := fun H => by
  have := He.tupB_ok h H
  rw [List.map_map] at this
  exact this
theorem propB_ok {K : PySem.W.Frag} {C f : Str} (h : propB K C f = true) : PropOf K (He.ga K C) f (He.ma K (He.ga K C) f) (He5.wf K (He.ga K C) "property" f) := by
  obtain ⟨h1, h⟩ := He.ba h
  obtain ⟨h2, h⟩ := He.ba h
  obtain ⟨h3, h4⟩ := He.ba h
  refine ⟨He.eqO_ok h1, He.eqO_ok h2, of_decide_eq_true h3, ?_⟩
  unfold recB at h4
  unfold He5.wf
  split at h4
  · rename_i g r e
    exact ⟨r, by rw [e]⟩
  · cases h4
theorem facts {K : PySem.W.Frag} {h : Heap} {mg : Str → Option Value} {w : World} (X : K.In h) (G : h.Ns mainGlobals mg) (c : SaysY w K) : L36T K mg ∧ DeT K mg "law" s_law := by
  have q := c.more
  unfold exB at q
  obtain ⟨x0, q⟩ := He.ba q
  obtain ⟨x1, q⟩ := He.ba q
  obtain ⟨x2, q⟩ := He.ba q
  obtain ⟨x3, q⟩ := He.ba q
  obtain ⟨x4, q⟩ := He.ba q
  obtain ⟨x5, q⟩ := He.ba q
  obtain ⟨x6, q⟩ := He.ba q
  obtain ⟨x7, q⟩ := He.ba q
  obtain ⟨x8, q⟩ := He.ba q
  obtain ⟨x9, q⟩ := He.ba q
  obtain ⟨x10, q⟩ := He.ba q
  obtain ⟨x11, q⟩ := He.ba q
  obtain ⟨x12, q⟩ := He.ba q
  obtain ⟨x13, q⟩ := He.ba q
  obtain ⟨x14, q⟩ := He.ba q
  obtain ⟨x15, q⟩ := He.ba q
  obtain ⟨x16, q⟩ := He.ba q
  obtain ⟨x17, q⟩ := He.ba q
  obtain ⟨x18, q⟩ := He.ba q
  obtain ⟨x19, q⟩ := He.ba q
  have x20 := q
  have hLaw : LawT K mg := ⟨(He.free_ok X G (c.t.d.fact 0 rfl)), (He.free_ok X G (c.t.d.fact 1 rfl)), (He.free_ok X G (c.t.d.fact 2 rfl)), (He.free_ok X G (c.t.d.fact 3 rfl)), (He.free_ok X G (c.t.d.fact 4 rfl)), ⟨(c.t.d.def_ 49 rfl), (He.glo_ok X G (c.t.d.fact 5 rfl))⟩, ⟨(c.t.d.def_ 50 rfl), (He.glo_ok X G (c.t.d.fact 6 rfl))⟩⟩
  have hLin : LinT K mg := ⟨⟨⟨hLaw, ⟨(c.t.d.def_ 51 rfl), (He.glo_ok X G (c.t.d.fact 7 rfl))⟩⟩, ⟨(c.t.d.def_ 52 rfl), (He.glo_ok X G (c.t.d.fact 8 rfl))⟩⟩, (He.free_ok X G (c.t.d.fact 9 rfl)), (He.free_ok X G (c.t.d.fact 10 rfl)), ⟨(c.t.d.def_ 53 rfl), (He.glo_ok X G (c.t.d.fact 11 rfl))⟩, ⟨(c.t.d.def_ 54 rfl), (He.glo_ok X G (c.t.d.fact 12 rfl))⟩⟩
  have hPp : PpT K mg := ⟨hLaw, ⟨(c.t.d.def_ 55 rfl), (He.glo_ok X G (c.t.d.fact 13 rfl))⟩⟩
  have hErr : ErrT K mg := ⟨⟨(He.glo_ok X G (c.t.d.fact 14 rfl)), ⟨x0, He.eqO_ok x1⟩, fclsB_ok x2⟩, (excCB_ok X G x3), (c.t.d.def_ 0 rfl)⟩
  have hLex : LexT K mg := ⟨hErr, (He.free_ok X G (c.t.d.fact 0 rfl)), (He.free_ok X G (c.t.d.fact 15 rfl)), (mkCB_ok X G x4), (c.t.d.def_ 3 rfl), (c.t.d.def_ 4 rfl), (He.glo_ok X G (c.t.d.fact 16 rfl)), (c.t.d.def_ 5 rfl), (He.glo_ok X G (c.t.d.fact 17 rfl)), (c.t.d.def_ 6 rfl), (He.glo_ok X G (c.t.d.fact 18 rfl)), (He.str_ok X G (c.t.d.fact 19 rfl)), (He.str_ok X G (c.t.d.fact 20 rfl)), (He.str_ok X G (c.t.d.fact 21 rfl)), (He.str_ok X G (c.t.d.fact 22 rfl)), (He.str_ok X G (c.t.d.fact 23 rfl)), (He.str_ok X G (c.t.d.fact 24 rfl)), (He.str_ok X G (c.t.d.fact 25 rfl)), (He.str_ok X G (c.t.d.fact 26 rfl)), (He.str_ok X G (c.t.d.fact 27 rfl)), (He.int_ok X G (c.t.d.fact 28 rfl)), (He.int_ok X G (c.t.d.fact 29 rfl)), (He.glo_ok X G (c.t.d.fact 30 rfl)), (kTup_ok x5)⟩
  have hPar : ParT K mg := ⟨hLex, (mkCB_ok X G x6), (of_decide_eq_true x7), (He.free_ok X G (c.t.d.fact 31 rfl)), (He.free_ok X G (c.t.d.fact 3 rfl)), (He.free_ok X G (c.t.d.fact 4 rfl)), (c.t.d.def_ 10 rfl), ⟨(c.t.d.def_ 11 rfl), He.meth_ok (c.t.d.fact 32 rfl)⟩, ⟨(c.t.d.def_ 12 rfl), He.meth_ok (c.t.d.fact 33 rfl)⟩, ⟨(c.t.d.def_ 13 rfl), He.meth_ok (c.t.d.fact 34 rfl)⟩, ⟨(c.t.d.def_ 14 rfl), He.meth_ok (c.t.d.fact 35 rfl)⟩, ⟨(c.t.d.def_ 15 rfl), He.meth_ok (c.t.d.fact 36 rfl)⟩, ⟨(c.t.d.def_ 16 rfl), He.meth_ok (c.t.d.fact 37 rfl)⟩, ⟨(c.t.d.def_ 17 rfl), He.meth_ok (c.t.d.fact 38 rfl)⟩, ⟨(c.t.d.def_ 18 rfl), He.meth_ok (c.t.d.fact 39 rfl)⟩, ⟨(c.t.d.def_ 19 rfl), He.meth_ok (c.t.d.fact 40 rfl)⟩, ⟨(c.t.d.def_ 20 rfl), He.meth_ok (c.t.d.fact 41 rfl)⟩, ⟨(c.t.d.def_ 21 rfl), He.meth_ok (c.t.d.fact 42 rfl)⟩, ⟨(c.t.d.def_ 22 rfl), He.meth_ok (c.t.d.fact 43 rfl)⟩, ⟨(c.t.d.def_ 23 rfl), He.meth_ok (c.t.d.fact 44 rfl)⟩, (He.int_ok X G (c.t.d.fact 45 rfl)), (He.int_ok X G (c.t.d.fact 46 rfl)), (He.int_ok X G (c.t.d.fact 47 rfl)), (He.int_ok X G (c.t.d.fact 48 rfl)), (He.glo_ok X G (c.t.d.fact 49 rfl)), (kTup_ok x8), (He.glo_ok X G (c.t.d.fact 50 rfl)), (kTup_ok x9)⟩
  have hLoad : LoadT K mg := ⟨hPar, (mkCB_ok X G x10), (c.t.d.def_ 7 rfl), (c.t.d.def_ 24 rfl), (He.glo_ok X G (c.t.d.fact 51 rfl))⟩
  have hFmt : FmtT K mg := ⟨hLoad, (He.free_ok X G (c.t.d.fact 10 rfl)), ⟨(c.t.d.def_ 25 rfl), (He.glo_ok X G (c.t.d.fact 52 rfl))⟩⟩
  have hFp : FpT K mg := ⟨hFmt, ⟨(c.t.d.def_ 26 rfl), (He.glo_ok X G (c.t.d.fact 53 rfl))⟩⟩
  have hEnc : EncT K mg := ⟨hFmt, (He.free_ok X G (c.t.d.fact 31 rfl)), (He.free_ok X G (c.t.d.fact 54 rfl)), ⟨(c.t.d.def_ 42 rfl), (He.glo_ok X G (c.t.d.fact 55 rfl))⟩, ⟨(c.t.d.def_ 43 rfl), (He.glo_ok X G (c.t.d.fact 56 rfl))⟩, (He.int_ok X G (c.t.d.fact 57 rfl)), (He.int_ok X G (c.t.d.fact 58 rfl)), (mvB_ok x11)⟩
  have hInt : IntT K mg := ⟨(He.free_ok X G (c.t.d.fact 59 rfl)), (He.free_ok X G (c.t.d.fact 60 rfl)), (He.free_ok X G (c.t.d.fact 31 rfl)), ⟨(c.t.d.def_ 28 rfl), (He.glo_ok X G (c.t.d.fact 61 rfl))⟩⟩
  have hRd : RdT K mg := ⟨hEnc, hInt, (He.free_ok X G (c.t.d.fact 2 rfl)), (mkCB_ok X G x12), (c.t.d.def_ 44 rfl), ⟨(c.t.d.def_ 45 rfl), He.meth_ok (c.t.d.fact 62 rfl)⟩, ⟨(c.t.d.def_ 46 rfl), He.meth_ok (c.t.d.fact 63 rfl)⟩, ⟨(c.t.d.def_ 47 rfl), He.meth_ok (c.t.d.fact 64 rfl)⟩, ⟨(c.t.d.def_ 48 rfl), (He.glo_ok X G (c.t.d.fact 65 rfl))⟩⟩
  have hSof : SofT K mg := ⟨hLoad, (He.free_ok X G (c.t.d.fact 2 rfl)), ⟨(c.t.d.def_ 27 rfl), (He.glo_ok X G (c.t.d.fact 66 rfl))⟩⟩
  have hSho : ShoT K mg := ⟨⟨⟨hLaw, ⟨(c.t.d.def_ 51 rfl), (He.glo_ok X G (c.t.d.fact 7 rfl))⟩⟩, ⟨(c.t.d.def_ 52 rfl), (He.glo_ok X G (c.t.d.fact 8 rfl))⟩⟩, (He.free_ok X G (c.t.d.fact 67 rfl)), ⟨(c.t.d.def_ 56 rfl), (He.glo_ok X G (c.t.d.fact 68 rfl))⟩⟩
  have hMach : MachT K mg := ⟨hLoad, (He.free_ok X G (c.t.d.fact 59 rfl)), (He.free_ok X G (c.t.d.fact 60 rfl)), (He.str_ok X G (c.t.d.fact 69 rfl)), ⟨(c.t.d.def_ 28 rfl), (He.glo_ok X G (c.t.d.fact 61 rfl))⟩, ⟨(c.t.d.def_ 30 rfl), (He.glo_ok X G (c.t.d.fact 70 rfl))⟩, (mkCB_ok X G x13), (c.t.d.def_ 31 rfl), ⟨(c.t.d.def_ 32 rfl), (He.glo_ok X G (c.t.d.fact 71 rfl))⟩, ⟨(c.t.d.def_ 33 rfl), (He.glo_ok X G (c.t.d.fact 72 rfl))⟩, ⟨(c.t.d.def_ 34 rfl), (He.glo_ok X G (c.t.d.fact 73 rfl))⟩, (mkCB_ok X G x14), (c.t.d.def_ 35 rfl), ⟨(c.t.d.def_ 36 rfl), (He.glo_ok X G (c.t.d.fact 74 rfl))⟩⟩
  have hSto : StoT K mg := ⟨hMach, ⟨(of_decide_eq_true x15), (of_decide_eq_true x16), (of_decide_eq_true x17)⟩, ⟨(c.a.def_ 0 rfl), propB_ok x18⟩, (He.int_ok X G (c.t.d.fact 75 rfl)), (mkCB_ok X G x19), (c.t.d.def_ 37 rfl)⟩
  have hHap : HapT K mg := ⟨hSto, ⟨(c.a.def_ 1 rfl), propB_ok x20⟩, ⟨(c.t.d.def_ 38 rfl), He.meth_ok (c.t.d.fact 76 rfl)⟩⟩
  have hFd : FdT K mg := ⟨hHap, (He.free_ok X G (c.t.d.fact 4 rfl)), (He.free_ok X G (c.t.d.fact 77 rfl)), ⟨(c.t.d.def_ 41 rfl), (He.glo_ok X G (c.t.d.fact 78 rfl))⟩⟩
  have hCk : CkT K mg := ⟨hHap, (He.int_ok X G (c.t.d.fact 79 rfl)), ⟨(c.t.d.def_ 29 rfl), (He.glo_ok X G (c.t.d.fact 80 rfl))⟩⟩
  have hRin : RinT K mg := ⟨hCk, ⟨(c.t.d.def_ 40 rfl), (He.glo_ok X G (c.t.d.fact 81 rfl))⟩⟩
  exact ⟨⟨hLin, hPp, hFp, hRd, hSof, hSho, hFd, hRin⟩,
    ⟨(c.t.d.def_ 57 rfl), (He.glo_ok X G (c.t.d.fact 82 rfl))⟩⟩
theorem facts2 {P : Program} {w : World} {K : PySem.W.Frag} {h : Heap} {mg : Str → Option Value} {f : Addr} (X : K.In h) (G : h.Ns mainGlobals mg) (hfa : mg ("law" : Str) = some (.ref f)) (c : SaysY w K) :
    ∃ fd : FuncData, (∀ (s : Shared) (v : Value), BindsTo s fd ⟨[v], []⟩ [("_law_script", v)]) ∧ ∀ base : Heap, K.In base → base.Ns mainGlobals mg → FnOk P w K mg base CX0 12 f fd ["_law_script"] (spLaw K) := by
  obtain ⟨T, L⟩ := facts X G c
  obtain ⟨fd, F⟩ := L.d
  have e := hfa.symm.trans L.g
  cases e
  have b := FunD.bindsA (ps := ["_law_script"]) F fun _ _ _ _ _ _ us hl => match us, hl with | [_], _ => rfl
  refine ⟨fd, fun s v => b s [v] rfl, fun base _ _ => ?_⟩
  exact ok_law T F
end Sw
open PySem PySem.W PySem.Calls PyProof.Rows
theorem PySem.Challenge.cw_sweeprota_k36_whole_texts_of_one_plan_holds : PySem.Challenge.rw_sweeprota_k36_whole_texts_of_one_plan.Holds := by
  w_on; o_law
  refine HandSHeadRun.head_any (r := OpenLaw.row PySem.Challenge.rw_sweeprota_k36_whole_texts_of_one_plan) (q := view (OpenLaw.row PySem.Challenge.rw_sweeprota_k36_whole_texts_of_one_plan).prog [73]) (H := Sw.hk) (ob := Sw.ob) (M := 60000) (loose := Sw.names) (d := HandSHeadRun.topDef (OpenLaw.row PySem.Challenge.rw_sweeprota_k36_whole_texts_of_one_plan).prog 73) (kwd := []) Sw.ob_eq
    (by kernel_rfl) (fun s => by kernel_rfl) Sw.run (by kernel_rfl) (by kernel_rfl) (by kernel_rfl) (by rfl) (by first | assumption | decide +kernel) (by decide +kernel) ⟨rfl, rfl, rfl, rfl, rfl, by decide +kernel⟩ ?hw ?hc
  case hw => w_witness2
  case hc =>
    refine L2.walk_ofE (l := PySem.Challenge.rw_sweeprota_k36_whole_texts_of_one_plan) (n := 63) (k := 12) (x := "_law_script") (CX := L2.CX0) rfl (by decide) (by kernel_rfl) ⟨rfl, by decide, by decide⟩ ?F (fun _ _ _ _ z => z)
    intro w mg fa h Y G hmg0
    obtain ⟨K, KX, c⟩ := Y
    have hmg : mg ("law" : PySem.Str) = some (.ref fa) := by
      have e : (HandSHeadRun.topDef (OpenLaw.row PySem.Challenge.rw_sweeprota_k36_whole_texts_of_one_plan).prog 73).name = ("law" : PySem.Str) := by kernel_rfl
      rw [← e]
      exact hmg0
    obtain ⟨fd, hb, hF⟩ := Sw.facts2 (P := (PySem.Challenge.rw_sweeprota_k36_whole_texts_of_one_plan).prog) (w := w) KX G hmg c
    exact ⟨K, fd, Sw.spLaw K, KX, hb, fun H a ns hl _ hS => ⟨a, ns, rfl, hS, hl, fun _ => rfl⟩, hF⟩

end
