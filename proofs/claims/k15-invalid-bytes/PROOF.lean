import PyProof.Rows.All
import Wide.All
import OpenK.AllK
import Wide.FinOn
import PySem.Challenge.RW_sweeprota_k15_invalid_bytes
import HandS.Words
import PyProof.EqAt
import PyProof.EqKinds
import PyProof.TupleCall
import PyProof.RulesMatch
import PyProof.RulesMatchSeq
import HandS.ForMost
import HandS.ForExc
import HandS.ExcInit
import HandS.ExcField
import HandS.ExcIs
import HandS.IsInst
import HandS.More
import HandS.Steps
import HandS.Walk
import HandS.Zip
import HandS.Defaults
import HandS.ClsMeth
import HandS.Property
import HandS.TupMul
import HandS.TupAny
import HandS.FStr
import HandS.Conv
import HandS.Flow
import HandS.Lambda
import HandS.CallLocal
import HandS.Head0
import HandS.Head1
import HandS.Head2
import HandS.HeadEnd
import HandS.HeadHook1
import HandS.HeadHook2
import HandS.HeadHook3
import HandS.HeadHook4
import HandS.HeadWalk
import HandS.Text
import HandS.HeadNt
import Lean
import HandS.Comp
import HandS.Finally
import HandS.SuiteRaise
import HandS.ExcCtx
import HandS.ExcOwn
import KE.GoesMore
import HandS.SetFor
import PyProof.NeKinds
import HandS.CallRecv
import HandS.SortRule
import KE.KDictSum
import KE.DataFind
import HandS.Nested
import KE.KDflt
import KE.KExcIs
import HandS.Replace
import HandS.Strs
import HandS.Star
import HandS.TupLen
import HandS.Style
import HandS.EndTab
import HandS.Deep
import HandS.NoneIn
set_option Elab.async false
set_option linter.all false
section
/-! the row's defs by place -/
namespace Sw
open PySem L2
def top (i : Nat) : Stmt := PySem.Challenge.pw_sweeprota_k15_invalid_bytes.main.body.getD i (.Pass ⟨0, 0, 0, 0⟩)
abbrev s__wall : Stmt := top 0
abbrev s_SyntaxFault_init : Stmt := inClass (top 3) 0
abbrev s_CheckFault_init : Stmt := inClass (top 4) 0
abbrev s_InvalidCode_init : Stmt := inClass (top 11) 0
abbrev s_InvalidOperation_init : Stmt := inClass (top 14) 0
abbrev s_Token_init : Stmt := inClass (top 30) 0
abbrev s_run_end : Stmt := top 31
abbrev s_read_token : Stmt := top 32
abbrev s_tokenize : Stmt := top 33
abbrev s_Plan_init : Stmt := inClass (top 39) 0
abbrev s_Plan_with_floor : Stmt := inClass (top 39) 1
abbrev s_Plan_with_robots : Stmt := inClass (top 39) 2
abbrev s_Parser_init : Stmt := inClass (top 40) 0
abbrev s_Parser_peek : Stmt := inClass (top 40) 1
abbrev s_Parser_fail : Stmt := inClass (top 40) 2
abbrev s_Parser_found : Stmt := inClass (top 40) 3
abbrev s_Parser_take : Stmt := inClass (top 40) 4
abbrev s_Parser_take_word : Stmt := inClass (top 40) 5
abbrev s_Parser_take_keyword : Stmt := inClass (top 40) 6
abbrev s_Parser_parse_names : Stmt := inClass (top 40) 7
abbrev s_Parser_number_of : Stmt := inClass (top 40) 8
abbrev s_Parser_tile_of : Stmt := inClass (top 40) 9
abbrev s_Parser_parse_robot : Stmt := inClass (top 40) 10
abbrev s_Parser_parse_put : Stmt := inClass (top 40) 11
abbrev s_Parser_parse_rule : Stmt := inClass (top 40) 12
abbrev s_Parser_parse_plan : Stmt := inClass (top 40) 13
abbrev s_load : Stmt := top 41
abbrev s_format_parsed : Stmt := top 43
abbrev s_is_int_in : Stmt := top 45
abbrev s_names_code : Stmt := top 49
abbrev s_encode : Stmt := top 50
abbrev s_Reader_init : Stmt := inClass (top 51) 0
abbrev s_Reader_read_byte : Stmt := inClass (top 51) 1
abbrev s_Reader_read_names : Stmt := inClass (top 51) 2
abbrev s_Reader_read_rules : Stmt := inClass (top 51) 3
abbrev s_decode : Stmt := top 52
abbrev s__law_random : Stmt := top 54
abbrev s__law_lines : Stmt := top 55
abbrev s__law_text : Stmt := top 56
abbrev s__law_below : Stmt := top 57
abbrev s__law_shuffled : Stmt := top 58
abbrev s__law_plan : Stmt := top 59
abbrev s__law_error_of : Stmt := top 60
abbrev s__law_bad_bytes : Stmt := top 61
abbrev s_law : Stmt := top 62
abbrev nMaxLetters : Str := "MAX_LETTERS"
abbrev nMaxLetC : Str := "MAX_LETTERS"
abbrev nWays : Str := "WAYS"
abbrev nRobots : Str := "_law_robots"
end Sw

end

section
set_option maxRecDepth 100000
set_option maxHeartbeats 4000000
namespace SwA
open PySem PySem.Spec PyProof.Rows L2

/-! ### D.__init__(self, ..) where D is an own class over ValueError that has no __init__ of its own -/
theorem pe_ownveinit {X : Cx} {e : Expr} {es : List Expr} {ta : TA} {p1 p2 pos : Pos} {x : Str} {D : Addr} {pl : Sem Bool} (hg : Gl X x) (hm : X.mg x = some (.ref D)) (r : ClX.CRead X.K D (.type "type"))
    (vV : PySem.W.findCls X.K (.ref D) (.type "type") "__init__" = some (.val (.builtin "ValueError.__init__"))) (ha : PA X (e :: es) ta)
    (hc : eval (.Call (.Attribute (.Name x p1) "__init__" p2) (e :: es) [] pos) X.env = (do
      let ov ← eval (.Name x p1) X.env
      standAt p2.atName
      let (f, first) ← holding [ov] (getMethod ov "__init__" pl)
      callWith pos f first (backTo pos (starEach (e :: es) X.env)) (backToKw pos (keywordEach [] X.env))) := by rfl)
    (he : starEach (e :: es) X.env = (false, eval e X.env) :: starEach es X.env := by rfl) (hpl : (backTo pos (starEach es X.env)).any (·.1) = false := by rfl)
    (hdb : (x == ("__debug__" : Str)) = false := by decide) :
    PE X (.Call (.Attribute (.Name x p1) "__init__" p2) (e :: es) [] pos) (tVeI X.K ta) := by
  refine ⟨fun pins s σ H Q I h => ?_⟩
  refine PySem.W.methodCall_KW (ld_glob I hg hm ?_ hdb) hc
  refine PySem.W.method_cls I.kIn r.ga (PySem.W.cls_value I.kIn r.rd vV (by decide +kernel) ?_)
  show wpAny _ _ (callWith pos (Value.builtin "ValueError.__init__") [] (backTo pos (starEach (e :: es) X.env)) []) _ _ _
  refine PyProof.Rows.callWith_method1 (thn (ha.run pos pins _ σ H _ (I.tok _) h) fun us s1 ⟨vs, H1, I1, r1, a, C, ws, ev, hl, T, ea, q⟩ => ?_) he hpl
  subst ev
  cases r1 with
  | @cons _ u0 _ ur ra rw' =>
    obtain rfl : u0 = Value.ref a := ra
    have hlen : ur.length ≤ sizeLine := by
      rw [← Paired.length rw', sizeLine_eq]
      omega
    exact oinit_ok T I1 ea hlen fun s' J => ⟨.non, H1, J, rfl, q⟩

/-! ### match upon a value: cases that are written texts, and the case of anything -/
/-- the cases cs asked of the value v: what is wanted -/
structure PMs (X : Cx) (cs : List MatchCase) (t : V → TS) : Prop where
  run : ∀ (pins : List (Addr × Obj)) (s : Shared) (σ : L2.St) (H : Hp) (D : Ends) (v : V) (u : Value) (first : Bool), Inv X pins σ H s → RelV v u → t v D σ H → wpAny (model X.prog X.w) X.A (matchCases cs X.env u first) (SP X pins D) X.xe s
theorem pms_nil {X : Cx} : PMs X [] (fun _ D σ H => D.nx σ H) := ⟨fun pins s σ H D v u first I r h => wpAny_matchCases_nil ⟨σ, H, I, h⟩⟩
theorem pms_any {X : Cx} {body : List Stmt} {rest : List MatchCase} {tb : TS} {pos : Pos} (hb : PSs X body tb) : PMs X (⟨.MatchAs none none pos, none, body⟩ :: rest) (fun _ => tb) :=
  ⟨fun pins s σ H D v u first I r h => wpAny_matchCases_cons (wpAny_matchPattern_Capture (wpAny_assignInOrder_none (hb.run pins s σ H D I h)))⟩
def tCaseS (z : Str) (tb : TS) (tr : V → TS) : V → TS := fun v D σ H => ∃ y, v = .str y ∧ ((y = z → tb D σ H) ∧ (y ≠ z → tr v D σ H))
theorem pms_str {X : Cx} {z : Str} {k : Nat} {body : List Stmt} {rest : List MatchCase} {tb : TS} {tr : V → TS} {p1 p2 : Pos} (hb : PSs X body tb) (hr : PMs X rest tr) :
    PMs X (⟨.MatchValue (.Constant (.str z) k p1) p2, none, body⟩ :: rest) (tCaseS z tb tr) := by
  refine ⟨fun pins s σ H D v u first I r h => ?_⟩
  obtain ⟨y, ev, h1, h2⟩ := h
  subst ev
  refine wpAny_matchCases_cons (wpAny_matchPattern_Value ?_)
  refine thn ((pe_str (X := X) (x := z) (j := k) (pos := p1)).run pins s σ H (fun x H' => x = .str z ∧ H' = H) I ⟨rfl, rfl⟩) fun zv s1 ⟨x, H1, I1, rz, ex, eh⟩ => ?_
  subst ex
  subst eh
  refine thn (op_eq pins s1 σ H1 (.str y) (.str z) u zv (fun x H' => x = .bl (decide (V.str y = V.str z)) ∧ H' = H1) I1 r rz ⟨rfl, rfl, rfl⟩) fun c s2 ⟨x, H2, I2, rc, ex, eh⟩ => ?_
  subst ex
  subst eh
  obtain rfl : c = Value.bool (decide (V.str y = V.str z)) := rc
  refine wpAny_truthy_bool ?_
  by_cases e : y = z
  · have d : decide (V.str y = V.str z) = true := decide_eq_true (by rw [e])
    rw [d]
    exact wpAny_assignInOrder_none (hb.run pins s2 σ H2 D I2 (h1 e))
  · have d : decide (V.str y = V.str z) = false := decide_eq_false (fun q => e (V.str.inj q))
    rw [d]
    exact hr.run pins s2 σ H2 D (.str y) u false I2 r (h2 e)
def tMatch (te : TE) (t : V → TS) : TS := fun D σ H => te σ H fun v H1 => t v D σ H1
theorem ps_match {X : Cx} {e : Expr} {te : TE} {cs : List MatchCase} {t : V → TS} {pos : Pos} (he : PE X e te) (hc : PMs X cs t) : PS X (.Match e cs pos) (tMatch te t) := by
  refine ⟨fun pins s σ H D I h => ?_⟩
  refine wpAny_Match (thn (he.run pins s σ H _ I h) fun u s1 ⟨v, H1, I1, r, q⟩ => ?_)
  exact hc.run pins s1 σ H1 D v u true I1 r q
/-! ### an own exception's class, as a Bool upon the written part -/
def oexB (K : PySem.W.Frag) (C : Addr) : Bool := (match K.lookup C with
  | some ⟨.type "type", _, .cls cd, sl⟩ => (match cd.mro, sl.toList with
    | .ref C' :: bm, [_, _, _, _, some (.builtin n), _] => C' == C && (n == "ValueError.__new__" && (!cd.hasDel && (cd.hasDict && PySem.HandSPX.refsVE bm)))
    | _, _ => false)
  | _ => false) && (He.eqO (PySem.W.findIn K (.ref C) "__setattr__") (some (some (.builtin "object.__setattr__"))) && (decide (PySem.W.subIn K (.ref C) (.type "BaseException") = some true) && (decide (PySem.W.typeIn K (.ref C) = some (.type "type")) && PySem.W.keepIn K (.ref C))))
theorem oexB_ok {K : PySem.W.Frag} {C : Addr} (h : oexB K C = true) : OexC K C := by
  obtain ⟨q, h2⟩ := He.ba h
  obtain ⟨h3, h4⟩ := He.ba h2
  obtain ⟨h5, h6⟩ := He.ba h4
  obtain ⟨h7, h8⟩ := He.ba h6
  refine ⟨?_, He.eqO_ok h3, of_decide_eq_true h5, of_decide_eq_true h7, h8⟩
  split at q
  · rename_i dd cd sl ho
    split at q
    · rename_i C' bm k0 k1 k2 k3 n k5 hm hs
      simp only [Bool.and_eq_true, beq_iff_eq, Bool.not_eq_true'] at q
      obtain ⟨rfl, rfl, hdel, hdi, ht⟩ := q
      obtain ⟨nm, bs, mro, ns, qn, hd, sn, sub, ab, col, del⟩ := cd
      dsimp only at hm hdel hdi
      subst hm hdel hdi
      have hsl : sl = #[k0, k1, k2, k3, some (.builtin "ValueError.__new__"), k5] := by
        obtain ⟨l⟩ := sl
        simp only at hs
        rw [hs]
      subst hsl
      exact ⟨nm, qn, ns, bs, bm, sn, sub, ab, col, dd, k0, k1, k2, k3, k5, ho, ht⟩
    · cases q
  · cases q

/-! ### a class whose __init__ stores its arguments, one a field -/
def spInit (C : Addr) (names : List Str) : Sp := fun vs H Q _ => ∃ (p dx : Addr) (args : List V), vs = .ref p :: args ∧ args.length = names.length ∧ H p = some (.ins C dx []) ∧
  ∀ H' : Hp, H' p = some (.ins C dx (names.zip args)) → (∀ b, b ≠ p → H' b = H b) → Q .non H'
/-- C(..) of such a class, behind its arguments: a new object, all that was tracked stands -/
theorem mk_at {C : Addr} {names : List Str} {E : XK} {H1 : Hp} {Q : VK} {vs : List V} (hl : vs.length = names.length)
    (q : ∀ (x : Addr) (H2 : Hp), H1 x = none → Same H1 H2 → (∃ dx, H2 x = some (.ins C dx (names.zip vs))) → Q (.ref x) H2) :
    ∀ x dx, H1 x = none → H1 dx = none → dx ≠ x → spInit C names (.ref x :: (vs ++ [])) (upd (upd H1 dx (.own x)) x (.ins C dx [])) (fun v H2 => v = .non ∧ Q (.ref x) H2) E := by
  intro x dx nx ndx ne
  refine ⟨x, dx, vs ++ [], rfl, by rw [List.append_nil]; exact hl, upd_same, fun H' e1 e2 => ⟨rfl, ?_⟩⟩
  rw [List.append_nil] at e1
  refine q x H' nx (fun b o e => ?_) ⟨dx, e1⟩
  rw [e2 b (ne_of_none e nx), upd_ne (ne_of_none e nx), upd_ne (ne_of_none e ndx)]
  exact e

/-- the same, for any wish -/
theorem init_at {C x dx : Addr} {names : List Str} {E : XK} {H1 : Hp} {R : VK} {vs : List V} (hl : vs.length = names.length) (nx : H1 x = none) (ndx : H1 dx = none)
    (q : ∀ H2 : Hp, Same H1 H2 → (∃ dx, H2 x = some (.ins C dx (names.zip vs))) → R .non H2) : spInit C names (.ref x :: (vs ++ [])) (upd (upd H1 dx (.own x)) x (.ins C dx [])) R E := by
  refine ⟨x, dx, vs ++ [], rfl, by rw [List.append_nil]; exact hl, upd_same, fun H' e1 e2 => ?_⟩
  rw [List.append_nil] at e1
  refine q H' (fun b o e => ?_) ⟨dx, e1⟩
  rw [e2 b (ne_of_none e nx), upd_ne (ne_of_none e nx), upd_ne (ne_of_none e ndx)]
  exact e

/-! ### an own exception's __init__ that stores its arguments, one a field -/
def spFault (C : Addr) (names : List Str) : Sp := fun vs H Q _ => ∃ (a : Addr) (args : List V), vs = .ref a :: args ∧ args.length = names.length ∧ H a = some (exo a C none) ∧
  ∀ (d : Addr) (H' : Hp), H d = none → d ≠ a → H' a = some (exo a C (some d)) → H' d = some (exd d (names.zip args).reverse) → (∀ b, b ≠ a → b ≠ d → H' b = H b) → Q .non H'
/-- raise C(..), behind its arguments -/
theorem fault_at {C : Addr} {names : List Str} {H1 : Hp} {Q : XK} {vs : List V} (hl : vs.length = names.length) (hz : vs.length ≤ 1000)
    (q : ∀ (d : Addr) (H2 : Hp), H1 d = none → Same H1 H2 → H2 d = some (.xd (names.zip vs).reverse) → Q (.ref C) (some d) H2) :
    vs.length ≤ 1000 ∧ ∀ a, H1 a = none → spFault C names (.ref a :: (vs ++ [])) (upd H1 a (exo a C none))
      (fun v H2 => v = .non ∧ ∃ (d : Addr) (fs : List (Str × V)), H2 a = some (exo a C (some d)) ∧ H2 d = some (exd d fs) ∧ H1 d = none ∧ Q (.ref C) (some d) (upd (del H2 a) d (.xd fs))) (fun _ _ _ => False) := by
  refine ⟨hz, fun a na => ⟨a, vs ++ [], rfl, by rw [List.append_nil]; exact hl, upd_same, fun d H' nd da e1 e2 e3 => ⟨rfl, d, _, e1, e2, ?_, ?_⟩⟩⟩
  · rw [upd_ne da] at nd
    exact nd
  · rw [upd_ne da] at nd
    rw [List.append_nil]
    refine q d _ nd (fun b o e => ?_) upd_same
    have ba : b ≠ a := ne_of_none e na
    have bd : b ≠ d := ne_of_none e nd
    rw [upd_ne bd, del_ne ba, e3 b ba bd, upd_ne ba]
    exact e
end SwA

end

section
set_option maxRecDepth 100000
set_option maxHeartbeats 4000000
/-! the mirror of the lexer and the parser: plain functions over lists of codes -/
namespace Sw
open PySem
/-- a text by its codes -/
abbrev Cs := List Nat
def sx (l : Cs) : Str := ⟨l.toArray⟩
theorem sx_inj {a b : Cs} (h : sx a = sx b) : a = b := by
  have e : (sx a).cps = (sx b).cps := by rw [h]
  have e2 : a.toArray = b.toArray := e
  simpa using congrArg Array.toList e2
def wCorridor : Cs := [99, 111, 114, 114, 105, 100, 111, 114]
def wSigns : Cs := [115, 105, 103, 110, 115]
def wMoods : Cs := [109, 111, 111, 100, 115]
def wRobot : Cs := [114, 111, 98, 111, 116]
def wPut : Cs := [112, 117, 116]
def wWhen : Cs := [119, 104, 101, 110]
def wLeave : Cs := [108, 101, 97, 118, 101]
def wLeft : Cs := [108, 101, 102, 116]
def wRight : Cs := [114, 105, 103, 104, 116]
def wOn : Cs := [111, 110]
def wBack : Cs := [98, 97, 99, 107]
def wStay : Cs := [115, 116, 97, 121]
def wSemi : Cs := [59]
def kws : List Cs := [wCorridor, wSigns, wMoods, wRobot, wPut, wWhen, wLeave, wLeft, wRight, wOn, wBack, wStay]
def ways : List Cs := [wLeft, wRight]
def moves : List Cs := [wOn, wBack, wStay]
inductive Kd where
  | name | number | keyword | sign | fin
  deriving DecidableEq
def Kd.str : Kd → Str
  | .name => "name"
  | .number => "number"
  | .keyword => "keyword"
  | .sign => "sign"
  | .fin => "end"
structure Tk where
  kind : Kd
  text : Cs
  line : Nat
  col : Nat
  deriving DecidableEq
def isL (c : Nat) : Bool := Nat.ble 97 c && Nat.ble c 122
def isD (c : Nat) : Bool := Nat.ble 48 c && Nat.ble c 57
def isS (c : Nat) : Bool := c == 32 || c == 10
/-- the token at the head of what is left of a row; none: a fault there -/
def readTok (line col : Nat) (rest : Cs) : Option Tk := match rest with
  | [] => none
  | c :: _ =>
    if c = 59 then some ⟨.sign, [59], line, col⟩
    else if isD c = true then
      (if 2 < (rest.takeWhile isD).length ∨ (1 < (rest.takeWhile isD).length ∧ c = 48) then none else some ⟨.number, rest.takeWhile isD, line, col⟩)
    else if rest.takeWhile isL ∈ kws then some ⟨.keyword, rest.takeWhile isL, line, col⟩
    else if 1 ≤ (rest.takeWhile isL).length ∧ (rest.takeWhile isL).length ≤ 8 then some ⟨.name, rest.takeWhile isL, line, col⟩
    else none
/-- a row from a column on: what is left of it, f at least its length -/
def lexRow (line : Nat) : Nat → Nat → Cs → Except (Nat × Nat) (List Tk)
  | _, _, [] => .ok []
  | 0, _, _ :: _ => .ok []
  | f + 1, col, c :: r =>
    if isS c = true then lexRow line f (col + 1) r
    else match readTok line col (c :: r) with
      | none => .error (line, col)
      | some t => match lexRow line f (col + t.text.length) ((c :: r).drop t.text.length) with
        | .error e => .error e
        | .ok ts => .ok (t :: ts)
def lexRows : Nat → List Cs → Except (Nat × Nat) (List Tk)
  | _, [] => .ok []
  | line, row :: rest => match lexRow line row.length 0 row with
    | .error e => .error e
    | .ok ts => match lexRows (line + 1) rest with
      | .error e => .error e
      | .ok us => .ok (ts ++ us)
def rowsOf (text : Cs) : List Cs := TL.spl [10] 0 [] text
def tokenize (text : Cs) : Except (Nat × Nat) (List Tk) := match lexRows 0 (rowsOf text) with
  | .error e => .error e
  | .ok ts => .ok (ts ++ [⟨.fin, [], (rowsOf text).length, 0⟩])
/-! ### the parser -/
structure Rule where
  left : Nat
  move : Cs
  later : Nat
  deriving DecidableEq
structure PSt where
  at_ : Nat
  faults : List (Nat × Nat × Cs)
  signs : List Cs
  moods : List Cs
  robots : List (Nat × Bool)
  rules : List ((Nat × Nat) × Rule)
  pairs : List (Cs × Cs)
  spots : List (Nat × Nat)
  deriving DecidableEq
def putA {κ α : Type} [DecidableEq κ] (l : List (κ × α)) (k : κ) (v : α) : List (κ × α) :=
  if (l.any fun kv => decide (kv.1 = k)) = true then l.map (fun kv => if kv.1 = k then (kv.1, v) else kv) else l ++ [(k, v)]
def getA {κ α : Type} [DecidableEq κ] (l : List (κ × α)) (k : κ) : Option α := (l.find? fun kv => decide (kv.1 = k)).map (·.2)
abbrev PR (α : Type) := Except (Nat × Nat) (α × PSt)
def endTk : Tk := ⟨.fin, [], 0, 0⟩
section
variable (T : List Tk)
def peek (st : PSt) : Tk := T.getD st.at_ endTk
def PSt.next (st : PSt) : PSt := { st with at_ := st.at_ + 1 }
def PSt.found (st : PSt) (reason : Cs) (t : Tk) : PSt := { st with faults := st.faults ++ [(t.line, t.col, reason)] }
def failAt (st : PSt) : Nat × Nat := ((peek T st).line, (peek T st).col)
def take (k : Kd) (st : PSt) : PR Tk := if (peek T st).kind = k then .ok (peek T st, st.next) else .error (failAt T st)
def takeWord (w : Cs) (st : PSt) : PR Tk := if (peek T st).text = w then .ok (peek T st, st.next) else .error (failAt T st)
def takeKw (ws : List Cs) (st : PSt) : PR Tk := if (peek T st).kind = .keyword ∧ (peek T st).text ∈ ws then .ok (peek T st, st.next) else .error (failAt T st)
/-- the names of a kind: false signs, true moods -/
def PSt.names (b : Bool) (st : PSt) : List Cs := if b then st.moods else st.signs
def PSt.push (b : Bool) (w : Cs) (st : PSt) : PSt := if b then { st with moods := st.moods ++ [w] } else { st with signs := st.signs ++ [w] }
def rDuplicate : Cs := [100, 117, 112, 108, 105, 99, 97, 116, 101]
def rUnknown : Cs := [117, 110, 107, 110, 111, 119, 110]
def rTile : Cs := [116, 105, 108, 101]
def rRobots : Cs := [114, 111, 98, 111, 116, 115]
def rAgain : Cs := [97, 103, 97, 105, 110]
def rTwice : Cs := [116, 119, 105, 99, 101]
def wordOf (b : Bool) : Cs := if b then wMoods else wSigns
def mostOf (b : Bool) : Nat := if b then 6 else 4
def addName (b : Bool) (st : PSt) (t : Tk) : PSt :=
  if t.text ∈ st.names b then st.found rDuplicate t
  else if (st.names b).length = mostOf b then st.found (wordOf b) t
  else st.push b t.text
/-- further names, f turns at most -/
def moreNames : Nat → PSt → List Tk → List Tk × PSt
  | 0, st, acc => (acc, st)
  | f + 1, st, acc => if (peek T st).kind = .name then moreNames f st.next (acc ++ [peek T st]) else (acc, st)
def parseNames (b : Bool) (st : PSt) : PR Unit := match takeWord T (wordOf b) st with
  | .error e => .error e
  | .ok (_, s1) => match take T .name s1 with
    | .error e => .error e
    | .ok (t, s2) => match takeWord T wSemi (moreNames T T.length s2 [t]).2 with
      | .error e => .error e
      | .ok (_, s3) => .ok ((), (moreNames T T.length s2 [t]).1.foldl (addName b) s3)
def numberOf (names : List Cs) (t : Tk) (st : PSt) : Nat × PSt := if t.text ∈ names then (names.idxOf t.text, st) else (0, st.found rUnknown t)
def numVal (w : Cs) : Nat := w.foldl (fun a c => a * 10 + (c - 48)) 0
def tileOf (tiles : Nat) (st : PSt) : PR Nat := match take T .number st with
  | .error e => .error e
  | .ok (t, s1) => .ok (numVal t.text, if tiles ≤ numVal t.text then s1.found rTile t else s1)
def parseRobot (tiles : Nat) (st : PSt) : PR Unit := match takeWord T wRobot st with
  | .error e => .error e
  | .ok (kw, s1) => match tileOf T tiles (if s1.robots.length = 3 then s1.found rRobots kw else s1) with
    | .error e => .error e
    | .ok (tile, s2) => match takeKw T ways s2 with
      | .error e => .error e
      | .ok (way, s3) => match takeWord T wSemi s3 with
        | .error e => .error e
        | .ok (_, s4) => .ok ((), { s4 with robots := s4.robots ++ [(tile, decide (way.text = wRight))] })
def parsePut (tiles : Nat) (st : PSt) : PR Unit := match takeWord T wPut st with
  | .error e => .error e
  | .ok (_, s1) => match take T .name s1 with
    | .error e => .error e
    | .ok (nm, s2) => match tileOf T tiles (numberOf s2.signs nm s2).2 with
      | .error e => .error e
      | .ok (tile, s3) => match takeWord T wSemi s3 with
        | .error e => .error e
        | .ok (_, s4) =>
          let s5 := if (s4.spots.any fun kv => decide (kv.1 = tile)) = true then s4.found rAgain (peek T (numberOf s2.signs nm s2).2) else s4
          .ok ((), { s5 with spots := putA s5.spots tile (numberOf s2.signs nm s2).1 })
def parseRule (st : PSt) : PR Unit := match takeWord T wWhen st with
  | .error e => .error e
  | .ok (kw, s1) => match take T .name s1 with
    | .error e => .error e
    | .ok (first, s2) => match take T .name (numberOf s2.moods first s2).2 with
      | .error e => .error e
      | .ok (second, s3) => match takeWord T wLeave (numberOf s3.signs second s3).2 with
        | .error e => .error e
        | .ok (_, s4) => match take T .name s4 with
          | .error e => .error e
          | .ok (lf, s5) => match takeKw T moves (numberOf s5.signs lf s5).2 with
            | .error e => .error e
            | .ok (mv, s6) => match take T .name s6 with
              | .error e => .error e
              | .ok (la, s7) => match takeWord T wSemi (numberOf s7.moods la s7).2 with
                | .error e => .error e
                | .ok (_, s8) =>
                  let s9 := if (first.text, second.text) ∈ s8.pairs then s8.found rTwice kw else s8
                  let s10 : PSt := { s9 with pairs := if (first.text, second.text) ∈ s9.pairs then s9.pairs else s9.pairs ++ [(first.text, second.text)] }
                  .ok ((), { s10 with rules := putA s10.rules ((numberOf s2.moods first s2).1, (numberOf s3.signs second s3).1) ⟨(numberOf s5.signs lf s5).1, mv.text, (numberOf s7.moods la s7).1⟩ })
def parseStmt (tiles : Nat) (st : PSt) : PR Unit :=
  if (peek T st).text = wRobot then parseRobot T tiles st
  else if (peek T st).text = wPut then parsePut T tiles st
  else if (peek T st).text = wWhen then parseRule T st
  else .error (failAt T st)
/-- the statements, f turns at most -/
def parseStmts (tiles : Nat) : Nat → PSt → PR Unit
  | 0, st => .ok ((), st)
  | f + 1, st => if (peek T st).kind = .fin then .ok ((), st) else match parseStmt T tiles st with
    | .error e => .error e
    | .ok (_, s1) => parseStmts tiles f s1
def st0 : PSt := ⟨0, [], [], [], [], [], [], []⟩
/-- the whole: tiles, the state at the end -/
def parsePlan : PR Nat := match takeWord T wCorridor st0 with
  | .error e => .error e
  | .ok (_, s1) => match take T .number s1 with
    | .error e => .error e
    | .ok (t, s2) => match takeWord T wSemi s2 with
      | .error e => .error e
      | .ok (_, s3) => match parseNames T false (if 1 ≤ numVal t.text ∧ numVal t.text ≤ 16 then s3 else s3.found wCorridor t) with
        | .error e => .error e
        | .ok (_, s4) => match parseNames T true s4 with
          | .error e => .error e
          | .ok (_, s5) => match parseRobot T (numVal t.text) s5 with
            | .error e => .error e
            | .ok (_, s6) => match parseStmts T (numVal t.text) T.length s6 with
              | .error e => .error e
              | .ok (_, s7) => .ok (numVal t.text, s7)
end
structure Plan where
  signs : List Cs
  moods : List Cs
  floor : List Nat
  robots : List (Nat × Bool)
  rules : List ((Nat × Nat) × Rule)
  deriving DecidableEq
def planOf (tiles : Nat) (st : PSt) : Plan := ⟨st.signs, st.moods, (List.range tiles).map fun i => (getA st.spots i).getD 0, st.robots, st.rules⟩
/-- what load does: a SyntaxFault at a place; else the tiles and the parser's last state -/
def loads (text : Cs) : Except (Nat × Nat) (Nat × PSt) := match tokenize text with
  | .error e => .error e
  | .ok T => parsePlan T
def txt (s : String) : Cs := s.toList.map Char.toNat
def k18 : Cs := txt "corridor 2; signs no; moods go; robot 0 right; when go no leave no on go;"
example : (match loads k18 with | .ok (n, st) => decide (planOf n st = ⟨[txt "no"], [txt "go"], [0, 0], [(0, true)], [((0, 0), ⟨0, wOn, 0⟩)]⟩) && st.faults.isEmpty | .error _ => false) = true := by decide +kernel
example : (match loads (txt "corridor") with | .ok _ => false | .error e => decide (e = (1, 0))) = true := by decide +kernel
end Sw

end

section
set_option maxRecDepth 100000
set_option maxHeartbeats 4000000
/-! what the head asks of the program's objects, ahead of the walks -/
namespace Sw
open PySem PySem.Spec PyProof.Rows L2 SwA
def excCB (K : PySem.W.Frag) (x : Str) (fields : List Str) : Bool :=
  (He.Fa.glo x).ok K && (oexB K (He.ga K x) && (He.eqO (PySem.W.findIn K (.ref (He.ga K x)) "__init__") (some (some (.ref (He.ma K (He.ga K x) "__init__")))) &&
    (decide (PySem.W.typeIn K (.ref (He.ma K (He.ga K x) "__init__")) = some (.type "function")) && fields.all fun f => He.eqO (PySem.W.findIn K (.ref (He.ga K x)) f) (some none))))
def mkCB (K : PySem.W.Frag) (x : Str) (fields : List Str) : Bool := (He.Fa.glo x).ok K && ((He.Fa.mkr x).ok K && ((He.Fa.cls x).ok K && fields.all fun f => (He.Fa.noat x f).ok K))
abbrev tokF : List Str := ["kind", "text", "line", "column"]
abbrev parN : List Str := ["tokens", "at", "faults", "signs", "moods", "robots", "rules", "pairs", "spots"]
abbrev planF : List Str := ["signs", "moods", "floor", "robots", "rules"]
def lenKV (e : DictEntry) : Option (Str × Int) := match e.key, e.val with
  | .str x _, .int i _ => some (x, i)
  | _, _ => none
def lensL : List (Option (Str × Int)) := [some ("step", 2), some ("put", 3), some ("turn", 2), some ("undo", 1), some ("redo", 1)]
def lenB (K : PySem.W.Frag) (a : Addr) : Bool := match K.lookup a with
  | some ⟨_, _, .dict es _, _⟩ => decide (es.toList.map lenKV = lensL)
  | _ => false
def clsN : List Str := ["InvalidTick", "InvalidNumber", "UnknownSign", "TooLong", "OtherCorridor", "Contradiction", "InvalidName", "UnknownName", "SyntaxFault", "CheckFault", "InvalidCode", "InvalidOperation"]
def xcB (K : PySem.W.Frag) (D : Addr) : Bool := He.eqO (PySem.W.findIn K (.ref D) "__getattribute__") (some (some (.builtin "BaseException.__getattribute__"))) && (He.eqO (PySem.W.findIn K (.ref D) "__getattr__") (some none) && (decide (PySem.W.subIn K (.ref D) (.type "BaseException") = some true) && (PySem.W.hasDictIn K D &&
  (He.eqO (PySem.W.findIn K (.ref D) "__class__") (some (some (.builtin "object.__class__"))) && (He.eqO (PySem.W.specialIn K (.builtin "object.__class__") "__get__") (some (some (.builtin "getset_descriptor.__get__"))) && (decide (PySem.W.takesIn K (.builtin "object.__class__") = some true) && decide (PySem.W.mroIn K D (.type "object") = some true)))))))
def ekB (K : PySem.W.Frag) (D : Str) (j : Nat) : Bool := xcB K (He.ga K D) && (decide (PySem.W.exmOne K (.ref (He.ga K D)) (.ref (He.ga K "SweepError")) = some true) && (decide (PySem.W.kitOne K (.ref (He.ga K D)) (.type "ValueError") = some true) && clsN.zipIdx.all fun q => decide (PySem.W.kitOne K (.ref (He.ga K D)) (.ref (He.ga K q.1)) = some (decide (q.2 = j)))))
end Sw

end

section
set_option maxRecDepth 100000
set_option maxHeartbeats 4000000
/-! what the head asks: instances of an own class, asked by isinstance -/
namespace Sw
open PySem PySem.Spec PyProof.Rows L2 SwA
def isiB (K : PySem.W.Frag) (C : Addr) : Bool := He.eqO (PySem.W.findIn K (.ref C) "__class__") (some (some (.builtin "object.__class__"))) && (He.eqO (PySem.W.specialIn K (.builtin "object.__class__") "__get__") (some (some (.builtin "getset_descriptor.__get__"))) &&
  (decide (PySem.W.takesIn K (.builtin "object.__class__") = some true) && (decide (PySem.W.mroIn K C (.type "object") = some true) && decide (PySem.W.kitOne K (.ref C) (.ref C) = some true))))
structure IsiC (K : PySem.W.Frag) (C : Addr) : Prop where
  ha : PySem.W.findIn K (.ref C) "__class__" = some (some (.builtin "object.__class__"))
  hn : PySem.W.specialIn K (.builtin "object.__class__") "__get__" = some (some (.builtin "getset_descriptor.__get__"))
  ht : PySem.W.takesIn K (.builtin "object.__class__") = some true
  hm : PySem.W.mroIn K C (.type "object") = some true
  kit : PySem.W.kitOne K (.ref C) (.ref C) = some true
theorem isiB_ok {K : PySem.W.Frag} {C : Addr} (h : isiB K C = true) : IsiC K C := by
  obtain ⟨h1, h⟩ := He.ba h
  obtain ⟨h2, h⟩ := He.ba h
  obtain ⟨h3, h⟩ := He.ba h
  obtain ⟨h4, h5⟩ := He.ba h
  exact ⟨He.eqO_ok h1, He.eqO_ok h2, of_decide_eq_true h3, of_decide_eq_true h4, of_decide_eq_true h5⟩
end Sw

end

section
set_option maxRecDepth 100000
set_option maxHeartbeats 0
/-! the head: the run and what is asked of it -/
namespace Sw
open PySem PySem.Spec PyProof.Rows L2 SwA
def dd0 : He.DefD := ⟨("SyntaxFault", some "__init__"), "__init__", "SyntaxFault.__init__", defArgs s_SyntaxFault_init, defBody s_SyntaxFault_init, defScope s_SyntaxFault_init, [], []⟩
def dd1 : He.DefD := ⟨("CheckFault", some "__init__"), "__init__", "CheckFault.__init__", defArgs s_CheckFault_init, defBody s_CheckFault_init, defScope s_CheckFault_init, [], []⟩
def dd2 : He.DefD := ⟨("InvalidCode", some "__init__"), "__init__", "InvalidCode.__init__", defArgs s_InvalidCode_init, defBody s_InvalidCode_init, defScope s_InvalidCode_init, [], []⟩
def dd3 : He.DefD := ⟨("InvalidOperation", some "__init__"), "__init__", "InvalidOperation.__init__", defArgs s_InvalidOperation_init, defBody s_InvalidOperation_init, defScope s_InvalidOperation_init, [], []⟩
def dd4 : He.DefD := ⟨("Token", some "__init__"), "__init__", "Token.__init__", defArgs s_Token_init, defBody s_Token_init, defScope s_Token_init, [], []⟩
def dd5 : He.DefD := ⟨("run_end", none), "run_end", "run_end", defArgs s_run_end, defBody s_run_end, defScope s_run_end, [], []⟩
def dd6 : He.DefD := ⟨("read_token", none), "read_token", "read_token", defArgs s_read_token, defBody s_read_token, defScope s_read_token, [], []⟩
def dd7 : He.DefD := ⟨("tokenize", none), "tokenize", "tokenize", defArgs s_tokenize, defBody s_tokenize, defScope s_tokenize, [], []⟩
def dd8 : He.DefD := ⟨("Plan", some "__init__"), "__init__", "Plan.__init__", defArgs s_Plan_init, defBody s_Plan_init, defScope s_Plan_init, [], []⟩
def dd9 : He.DefD := ⟨("Plan", some "with_floor"), "with_floor", "Plan.with_floor", defArgs s_Plan_with_floor, defBody s_Plan_with_floor, defScope s_Plan_with_floor, [], []⟩
def dd10 : He.DefD := ⟨("Plan", some "with_robots"), "with_robots", "Plan.with_robots", defArgs s_Plan_with_robots, defBody s_Plan_with_robots, defScope s_Plan_with_robots, [], []⟩
def dd11 : He.DefD := ⟨("Parser", some "__init__"), "__init__", "Parser.__init__", defArgs s_Parser_init, defBody s_Parser_init, defScope s_Parser_init, [], []⟩
def dd12 : He.DefD := ⟨("Parser", some "peek"), "peek", "Parser.peek", defArgs s_Parser_peek, defBody s_Parser_peek, defScope s_Parser_peek, [], []⟩
def dd13 : He.DefD := ⟨("Parser", some "fail"), "fail", "Parser.fail", defArgs s_Parser_fail, defBody s_Parser_fail, defScope s_Parser_fail, [], []⟩
def dd14 : He.DefD := ⟨("Parser", some "found"), "found", "Parser.found", defArgs s_Parser_found, defBody s_Parser_found, defScope s_Parser_found, [], []⟩
def dd15 : He.DefD := ⟨("Parser", some "take"), "take", "Parser.take", defArgs s_Parser_take, defBody s_Parser_take, defScope s_Parser_take, [], []⟩
def dd16 : He.DefD := ⟨("Parser", some "take_word"), "take_word", "Parser.take_word", defArgs s_Parser_take_word, defBody s_Parser_take_word, defScope s_Parser_take_word, [], []⟩
def dd17 : He.DefD := ⟨("Parser", some "take_keyword"), "take_keyword", "Parser.take_keyword", defArgs s_Parser_take_keyword, defBody s_Parser_take_keyword, defScope s_Parser_take_keyword, [], []⟩
def dd18 : He.DefD := ⟨("Parser", some "parse_names"), "parse_names", "Parser.parse_names", defArgs s_Parser_parse_names, defBody s_Parser_parse_names, defScope s_Parser_parse_names, [], []⟩
def dd19 : He.DefD := ⟨("Parser", some "number_of"), "number_of", "Parser.number_of", defArgs s_Parser_number_of, defBody s_Parser_number_of, defScope s_Parser_number_of, [], []⟩
def dd20 : He.DefD := ⟨("Parser", some "tile_of"), "tile_of", "Parser.tile_of", defArgs s_Parser_tile_of, defBody s_Parser_tile_of, defScope s_Parser_tile_of, [], []⟩
def dd21 : He.DefD := ⟨("Parser", some "parse_robot"), "parse_robot", "Parser.parse_robot", defArgs s_Parser_parse_robot, defBody s_Parser_parse_robot, defScope s_Parser_parse_robot, [], []⟩
def dd22 : He.DefD := ⟨("Parser", some "parse_put"), "parse_put", "Parser.parse_put", defArgs s_Parser_parse_put, defBody s_Parser_parse_put, defScope s_Parser_parse_put, [], []⟩
def dd23 : He.DefD := ⟨("Parser", some "parse_rule"), "parse_rule", "Parser.parse_rule", defArgs s_Parser_parse_rule, defBody s_Parser_parse_rule, defScope s_Parser_parse_rule, [], []⟩
def dd24 : He.DefD := ⟨("Parser", some "parse_plan"), "parse_plan", "Parser.parse_plan", defArgs s_Parser_parse_plan, defBody s_Parser_parse_plan, defScope s_Parser_parse_plan, [], []⟩
def dd25 : He.DefD := ⟨("load", none), "load", "load", defArgs s_load, defBody s_load, defScope s_load, [], []⟩
def dd26 : He.DefD := ⟨("format_parsed", none), "format_parsed", "format_parsed", defArgs s_format_parsed, defBody s_format_parsed, defScope s_format_parsed, [], []⟩
def dd27 : He.DefD := ⟨("is_int_in", none), "is_int_in", "is_int_in", defArgs s_is_int_in, defBody s_is_int_in, defScope s_is_int_in, [], []⟩
def dd28 : He.DefD := ⟨("names_code", none), "names_code", "names_code", defArgs s_names_code, defBody s_names_code, defScope s_names_code, [], []⟩
def dd29 : He.DefD := ⟨("encode", none), "encode", "encode", defArgs s_encode, defBody s_encode, defScope s_encode, [], []⟩
def dd30 : He.DefD := ⟨("Reader", some "__init__"), "__init__", "Reader.__init__", defArgs s_Reader_init, defBody s_Reader_init, defScope s_Reader_init, [], []⟩
def dd31 : He.DefD := ⟨("Reader", some "read_byte"), "read_byte", "Reader.read_byte", defArgs s_Reader_read_byte, defBody s_Reader_read_byte, defScope s_Reader_read_byte, [], []⟩
def dd32 : He.DefD := ⟨("Reader", some "read_names"), "read_names", "Reader.read_names", defArgs s_Reader_read_names, defBody s_Reader_read_names, defScope s_Reader_read_names, [], []⟩
def dd33 : He.DefD := ⟨("Reader", some "read_rules"), "read_rules", "Reader.read_rules", defArgs s_Reader_read_rules, defBody s_Reader_read_rules, defScope s_Reader_read_rules, [], []⟩
def dd34 : He.DefD := ⟨("decode", none), "decode", "decode", defArgs s_decode, defBody s_decode, defScope s_decode, [], []⟩
def dd35 : He.DefD := ⟨("_law_random", none), "_law_random", "_law_random", defArgs s__law_random, defBody s__law_random, defScope s__law_random, [], []⟩
def dd36 : He.DefD := ⟨("_law_lines", none), "_law_lines", "_law_lines", defArgs s__law_lines, defBody s__law_lines, defScope s__law_lines, [], []⟩
def dd37 : He.DefD := ⟨("_law_text", none), "_law_text", "_law_text", defArgs s__law_text, defBody s__law_text, defScope s__law_text, [], []⟩
def dd38 : He.DefD := ⟨("_law_below", none), "_law_below", "_law_below", defArgs s__law_below, defBody s__law_below, defScope s__law_below, [], []⟩
def dd39 : He.DefD := ⟨("_law_shuffled", none), "_law_shuffled", "_law_shuffled", defArgs s__law_shuffled, defBody s__law_shuffled, defScope s__law_shuffled, [], []⟩
def dd40 : He.DefD := ⟨("_law_plan", none), "_law_plan", "_law_plan", defArgs s__law_plan, defBody s__law_plan, defScope s__law_plan, [], []⟩
def dd41 : He.DefD := ⟨("_law_error_of", none), "_law_error_of", "_law_error_of", defArgs s__law_error_of, defBody s__law_error_of, defScope s__law_error_of, [], []⟩
def dd42 : He.DefD := ⟨("_law_bad_bytes", none), "_law_bad_bytes", "_law_bad_bytes", defArgs s__law_bad_bytes, defBody s__law_bad_bytes, defScope s__law_bad_bytes, [], []⟩
def dd43 : He.DefD := ⟨("law", none), "law", "law", defArgs s_law, defBody s_law, defScope s_law, [], []⟩
def waL : List He5.DefA := []
def fn0 : List He.DefD := [dd0, dd1, dd2, dd3, dd4, dd5, dd6, dd7, dd8, dd9, dd10, dd11, dd12, dd13, dd14, dd15, dd16, dd17, dd18, dd19, dd20, dd21, dd22, dd23, dd24, dd25, dd26, dd27, dd28, dd29]
def fn1 : List He.DefD := [dd30, dd31, dd32, dd33, dd34, dd35, dd36, dd37, dd38, dd39, dd40, dd41, dd42, dd43]
def fnL : List He.DefD := fn0 ++ fn1
def fa0 : List He.Fa := [.free "len", .free "abs", .free "list", .free "tuple", .free "range", .glo "_law_random", .glo "_law_below", .glo "_law_shuffled", .glo "_law_plan", .free "str", .free "sorted", .glo "_law_lines", .glo "_law_text", .glo "SweepError", .free "enumerate", .glo "run_end", .glo "read_token", .glo "tokenize", .str "SIGNS" ";", .str "DIGITS" "0123456789", .str "LETTERS" "abcdefghijklmnopqrstuvwxyz", .str "SPACES" " \n", .str "SIGN" "sign", .str "NUMBER" "number", .str "KEYWORD" "keyword", .str "NAME" "name", .str "END" "end", .int "MAX_DIGITS" 2, .int "MAX_LETTERS" 8, .glo "KEYWORDS"]
def fa1 : List He.Fa := [.free "int", .meth "Parser" "peek", .meth "Parser" "fail", .meth "Parser" "found", .meth "Parser" "take", .meth "Parser" "take_word", .meth "Parser" "take_keyword", .meth "Parser" "parse_names", .meth "Parser" "number_of", .meth "Parser" "tile_of", .meth "Parser" "parse_robot", .meth "Parser" "parse_put", .meth "Parser" "parse_rule", .meth "Parser" "parse_plan", .int "MAX_TILES" 16, .int "MAX_SIGNS" 4, .int "MAX_MOODS" 6, .int "MAX_ROBOTS" 3, .glo "WAYS", .glo "MOVES", .glo "load", .glo "format_parsed", .free "sum", .glo "names_code", .glo "encode", .int "TAG" 82, .int "BYTE" 256, .free "isinstance", .free "bool", .glo "is_int_in"]
def fa2 : List He.Fa := [.meth "Reader" "read_byte", .meth "Reader" "read_names", .meth "Reader" "read_rules", .glo "decode", .glo "_law_bad_bytes", .free "ValueError", .glo "_law_error_of", .glo "law"]
def faL : List He.Fa := fa0 ++ fa1 ++ fa2
def fclsB (K : PySem.W.Frag) : Bool := match PySem.W.findCls K (.ref (He.ga K "SweepError")) (.type "type") "__init__" with
  | some (.val (.builtin n)) => n == "ValueError.__init__"
  | _ => false
def mvB (K : PySem.W.Frag) : Bool := match K.lookup (He.ga K "MOVES") with
  | some ⟨.type "tuple", none, _, _⟩ => true
  | _ => false
def exB (K : PySem.W.Frag) : Bool := PySem.W.readsIn K (He.ga K "SweepError") (.type "type") && (He.eqO (PySem.W.specialIn K (.ref (He.ga K "SweepError")) "__getattribute__") (some (some (.builtin "type.__getattribute__"))) && (fclsB K && (excCB K "SyntaxFault" ["line", "column"] && (mkCB K "Token" tokF && (He.tupB K "KEYWORDS" (kws.map fun w => He.Dv.str (sx w)) && (mkCB K "Parser" parN && (decide (He.ga K "Parser" ≠ He.ga K "Token") && (He.tupB K "WAYS" (ways.map fun w => He.Dv.str (sx w)) && (He.tupB K "MOVES" (moves.map fun w => He.Dv.str (sx w)) && (mkCB K "Plan" planF && (mvB K && (mkCB K "Reader" ["code", "place"] && (excCB K "InvalidCode" ["place"] && ((clsN.all fun n => (He.Fa.glo n).ok K) && (ekB K "InvalidCode" 10 && (L2.xfB K (He.ga K "InvalidCode")))))))))))))))))
abbrev R : PySem.W.OpenRow := PySem.W.OpenLaw.row PySem.Challenge.rw_sweeprota_k15_invalid_bytes
def tsL : List He.Tab := []
def codeW (g : Addr → Option Obj) (a : Addr) : List Addr := match g a with
  | some ⟨_, _, .func fd, _⟩ => He.refV fd.code
  | _ => []
def asZ (g : Addr → Option Obj) (as : List Addr) : List Addr := as ++ (cStatics :: waL.flatMap fun d => codeW g (d.at_ (He.frG g as)))
def rfQ (o : Obj) : List Addr := (match o.dict with
  | some d => [d]
  | none => []) ++ match o.data with
  | .seq its _ => its.toList.flatMap He.refV
  | .dict es _ => es.toList.flatMap fun e => He.refV e.val
  | .func fd => He.refV fd.code ++ He.refV fd.defaults
  | .cls cd => [cd.ns]
  | .fields vs => vs.toList.flatMap He.refV
  | _ => []
def grQ (g : Addr → Option Obj) (as : List Addr) : List Addr := as.flatMap fun a => match g a with
  | some o => rfQ o
  | none => []
def asQ (g : Addr → Option Obj) : List Addr := mainGlobals :: (grQ g [mainGlobals] ++ (grQ g (grQ g [mainGlobals]) ++ (grQ g (grQ g (grQ g [mainGlobals])) ++ grQ g (grQ g (grQ g (grQ g [mainGlobals]))))))
def asY (g : Addr → Option Obj) : List Addr := asZ g (asQ g)
abbrev AlY : Type := He.AlT × He.AlD × Bool
def tfL : List He.Defn := [("law", none)]
def frY (g : Addr → Option Obj) : PySem.W.Frag := He.frT g (asY g)
def obsY (g : Addr → Option Obj) : AlY := (He.obsT faL fnL tsL (frY g), He5.obsA [] waL (frY g), exB (frY g) && He.tabsB g tfL (frY g))
/-- what is told; the law's table is empty and not in K -/
structure SaysY (w : World) (h : Heap) (K : PySem.W.Frag) : Prop where
  t : He.SaysT faL fnL tsL w K
  a : He5.SaysA [] waL K
  more : exB K = true
  hd : PySem.W.codeHdIn K (He.cT K ("law", none)).1 (He.cT K ("law", none)).2 = true
  out : K.lookup (He.cT K ("law", none)).2 = none
  empty : h.get? (He.cT K ("law", none)).2 = some { cls := .none, data := .fields #[] }
def valY (w : World) : AlY := (He.valT fnL tsL w, He5.valA waL, true)
theorem saysY_of {w : World} {h : Heap} (e : obsY h.get? = valY w) : SaysY w h (frY h.get?) := by
  have e1 : He.SaysT faL fnL tsL w (frY h.get?) := congrArg (fun z : AlY => z.1) e
  have e2 : He5.SaysA [] waL (frY h.get?) := congrArg (fun z : AlY => z.2.1) e
  have e3 : (exB (frY h.get?) && He.tabsB h.get? tfL (frY h.get?)) = true := congrArg (fun z : AlY => z.2.2) e
  obtain ⟨h1, h2⟩ := He.ba e3
  obtain ⟨h3, h4⟩ := He.ba (List.all_eq_true.mp h2 ("law", none) (List.mem_singleton.mpr rfl))
  obtain ⟨o, q, z⟩ : ∃ o, h.get? (He.cT (frY h.get?) ("law", none)).2 = some o ∧ He.emptyTab o = true := by
    cases q : h.get? (He.cT (frY h.get?) ("law", none)).2 with
    | none =>
      rw [q] at h4
      cases h4
    | some o =>
      rw [q] at h4
      exact ⟨o, rfl, h4⟩
  exact ⟨e1, e2, h1, h3, He.frT_none q z, by rw [q, He.emptyTab_eq z]⟩
def hk : PySem.W.Hook where
  α := AlY
  obs := fun s => obsY s.heap.get?
  val := valY
  says := fun w h => ∃ K : PySem.W.Frag, K.In h ∧ SaysY w h K
  of := fun _ _ e => ⟨_, He.frT_in, saysY_of e⟩
  keeps := fun _ _ _ ⟨K, hK, c⟩ k => ⟨K, PySem.W.Frag.In.keeps hK k, ⟨c.t, c.a, c.more, c.hd, c.out, k _ _ c.empty⟩⟩
def ob (s : PySem.W.SharedT) : AlY := obsY (HandSHeadRun.getT s)
theorem ob_eq (s : PySem.W.SharedT) : ob s = hk.obs s.abs := by
  have e : HandSHeadRun.getT s = s.abs.heap.get? := funext (HandSHeadRun.getT_eq s)
  unfold ob
  rw [e] <;> rfl
def nm0 : List PySem.Str := ["_wall", "SweepError", "SyntaxFault", "CheckFault", "InvalidTick", "InvalidNumber", "UnknownSign", "TooLong", "OtherCorridor", "Contradiction", "InvalidCode", "InvalidName", "UnknownName", "InvalidOperation", "WAYS", "MOVES", "KEYWORDS", "LETTERS", "DIGITS", "SPACES", "SIGNS", "MAX_LETTERS", "MAX_DIGITS", "NAME", "NUMBER", "KEYWORD", "SIGN", "END", "Token", "run_end"]
def nm1 : List PySem.Str := ["read_token", "tokenize", "MAX_TILES", "MAX_SIGNS", "MAX_MOODS", "MAX_ROBOTS", "Plan", "Parser", "load", "format_parsed", "is_int_in", "TAG", "BYTE", "names_code", "encode", "Reader", "decode", "_law_random", "_law_lines", "_law_text", "_law_below", "_law_shuffled", "_law_plan", "_law_error_of", "_law_bad_bytes"]
def names : List PySem.Str := nm0 ++ nm1
theorem run (w : World) : HandSHeadRun.RunEq R (PySem.W.view R.prog [62]) hk ob 60000 names w := by
  intro os
  kernel_rfl
end Sw

end

section
set_option maxRecDepth 100000
set_option maxHeartbeats 4000000
/-! a list comprehension that may let an exception out (its context None) -/
namespace PySem
open Sem (wp)
theorem noteFrame_eq {env env' : Env} {e : Value} (h : env.frame = env'.frame) : noteFrame e env = noteFrame e env' := by
  unfold noteFrame frameOf
  rw [h]
section
variable {M : Model} {A : Around} {E : Value → Shared → Prop} {s : Shared} {env : Env}
def compPostX (M : Model) (A : Around) (E : Value → Shared → Prop) (Q : Value → Shared → Prop) (acc : Value) (ce : Env) (r : Result) (s' : Shared) : Prop :=
  match r with
  | .ok _ => ∃ m, s'.heap.Ns ce.locals m ∧ ∀ h', Heap.SameBut ce.locals s'.heap h' → Q acc { s' with heap := h' }
  | .error x => ∃ m, s'.heap.Ns ce.locals m ∧ ∀ h', Heap.SameBut ce.locals s'.heap h' → ∀ cenv : Env, cenv.frame = ce.frame → wpAny M A (passOn "comprehension.variables-let-go" x cenv : Sem Value) (fun _ _ => False) E { s' with heap := h' }
theorem wpAny_comprehension_freeX {e : Expr} {scope : Scope} {pos : Pos} {newAcc first : Sem Value} {g : Comprehension} {gs : List Comprehension} {cl : List (Str × Addr)}
    {Q : Value → Shared → Prop}
    (hcl : clausesOf e = g :: gs) (hs : ∀ x, foldedSetIterable g.iter env x = pure x) (hclos : closureFor scope env = pure cl)
    (hkind : scope.kind = .function) (hnames : ∀ x ∈ scope.names, x.2 = .local → scope.names.lookup x.1 = some .local)
    (h : wpAny M A first (fun x s₁ => wpAny M A (pyIter x) (fun it s₂ => wpAny M A newAcc (fun acc s₃ =>
      wpAny M A (newFunctionEnv scope env.globals cl [] env.qual none .none (some env)) (fun cenv s₄ =>
        codeAny M A (.compStart e 0 it acc { cenv with scope := relabel scope env }) (compPostX M A E Q acc cenv) s₄) E s₃) E s₂) E s₁) E s) :
    wpAny M A (comprehension e scope env pos newAcc false first none) Q E s := by
  unfold comprehension
  rw [hclos, hcl]
  refine wpAny_bind (wpAny_mono h (fun x s₁ h₁ => wpAny_bind (wpAny_standAt (wpAny_bind (wpAny_of_eq (hs x) (wpAny_bind (wpAny_holding (wpAny_mono h₁ (fun it s₂ h₂ =>
    wpAny_standIf (wpAny_bind (wpAny_mono h₂ (fun acc s₃ h₃ => wpAny_bind (wpAny_pure (wpAny_bind (wpAny_mono h₃ (fun cenv s₄ h₄ => ?_) fun _ _ h' => h')))) fun _ _ h' => h')))
      fun _ _ h' => h'))))))) fun _ _ h' => h')
  dsimp only
  have hv : ∀ x ∈ (scope.names.filter fun x => (x.2 == .local || x.2 == .cell) && x.1 != (".0" : Str)).reverse, x.2 = .local →
      Env.kindOf { cenv with scope := relabel scope env } x.1 = some .local := fun x hx hl => lookup_relabel_local (hnames x (List.mem_filter.mp (List.mem_reverse.mp hx)).1 hl)
  refine wpAny_holding (wpAny_bind (wpAny_attempt (wpAny_holding (wpAny_run (codeAny_mono h₄ fun r s' hr => ?_)))))
  cases r with
  | ok f =>
    obtain ⟨m, hn, hr⟩ := hr
    exact wpAny_bind (wpAny_holding (wpAny_comp_letGo (cenv := { cenv with scope := relabel scope env }) hkind _ s' m hv hn fun h' m' _ hs' => wpAny_pure (hr h' hs')))
  | error x =>
    obtain ⟨m, hn, hr⟩ := hr
    exact wpAny_bind (wpAny_holding (wpAny_comp_letGo (cenv := { cenv with scope := relabel scope env }) hkind _ s' m hv hn fun h' m' _ hs' => wpAny_mono (hr h' hs' _ rfl) (fun _ _ f => f.elim) fun _ _ y => y))
end
end PySem
namespace L2
open PySem PySem.Spec PyProof.Rows
/-- an exception that a call let out, in the air of a block -/
def XF (X : Cx) (W : WX) (u : Value) (s' : Shared) : Prop :=
  ∃ (a : Addr) (B : Heap) (sI : Shared) (pins : List (Addr × Obj)) (σ : St) (H : Hp) (cls : Value) (d : Option Addr),
    u = .ref a ∧ Inv X pins σ H sI ∧ (∀ b o, sI.heap.get? b = some o → b ∉ frs X.stack → B.get? b = some o) ∧ sI.heap.UpToSlots s'.heap ∧
      HandSPX.FlyingZ B X.stack a (L2N.Zn cls d) s'.heap ∧ H a = none ∧ s'.os = sI.os ∧ AllBare s'.gens ∧ W cls d σ H
def TakesF (X : Cx) (W : WX) : Prop := ∀ u s', XF X W u s' → X.xe u s'
theorem passAtF {X : Cx} {W : WX} (tk : TakesF X W) (σ : St) : PassesAt (L2N.CX X.prog X.w) X σ (WE W σ) := by
  intro pins H s u s' I c
  refine tk u s' ?_
  obtain ⟨a, B, H', cls, d, rfl, fl, hok, ub, na, os, ag, hE⟩ := c
  obtain ⟨G, g1, g2⟩ := restrict s'.heap fun b => (B.get? b).isSome || decide (b ∈ frs X.stack)
  have st : B.StaysIn s'.heap := fl.1
  have gB : ∀ b o, B.get? b = some o → G.get? b = some o := fun b o e => by
    rw [g1 b (by simp [e])]
    exact st b o e
  have gF : ∀ b, b ∈ frs X.stack → G.get? b = s'.heap.get? b := fun b hb => g1 b (by simp [hb])
  have og : ∀ b o, G.get? b = some o → s'.heap.get? b = some o ∧ ((B.get? b).isSome = true ∨ b ∈ frs X.stack) := fun b o e => by
    cases q : ((B.get? b).isSome || decide (b ∈ frs X.stack)) with
    | false => rw [g2 b q] at e; cases e
    | true =>
      rw [g1 b q] at e
      exact ⟨e, by simpa [Bool.or_eq_true] using q⟩
  refine ⟨a, B, { s with heap := G, gens := s'.gens, drawn := s'.drawn, toks := s'.toks }, pins, σ, H', cls, d, rfl, ?_, fun b o e hb => ?_, Heap.UpToSlots.of_keeps fun b o e => (og b o e).1, fl, na, os, ag, hE⟩
  · refine I.call (ch := []) ⟨fun b o e n hb _ => gB b o (ub.keep b o e n hb), fun b o e n hb _ => ?_, fun b o e n _ => ub.free b o e n, fun b o e _ => ?_, ub.tups, ub.frzs, ub.tbls⟩ (hok.kept gB) ag (fun _ z => nomatch z)
    · obtain ⟨sl, q⟩ := ub.slot b o e hb
      exact ⟨sl, by rw [gF b hb]; exact q⟩
    · by_cases hb : b ∈ frs X.stack
      · obtain ⟨sl, q⟩ := ub.slot b o e hb
        exact ⟨_, by rw [gF b hb]; exact q⟩
      · obtain ⟨o', q⟩ := ub.there b o e hb
        exact ⟨o', gB b o' q⟩
  · obtain ⟨e', h⟩ := og b o e
    rcases h with h | h
    · obtain ⟨o', q⟩ := Option.isSome_iff_exists.mp h
      have z := st b o' q
      rw [e'] at z; cases z
      exact q
    · exact absurd h hb
/-- the context of a block that may let an exception out -/
abbrev Cx.blkX (X : Cx) (s : Shared) (H : Hp) (scope : Scope) (cenv : Env) (fp : List Addr) (xe : Value → Shared → Prop) : Cx := { X.blk s H scope cenv fp with xe := xe }
section
variable {X : Cx}
/-- [elt for target in iter if ..] whose element may let exceptions out -/
def tLcX (wi : TI) (g : TG) (tt : TT) (te : WX → TE) (vs : List Nat) (Wout : WX) : TE := fun σ H Q => tLc wi g tt (te fun cls d _ H' => Wout cls d σ H') vs σ H Q
theorem pe_lcX {elt tg iter : Expr} {ifs : List Expr} {scope : Scope} {own : List (Str × Nat)} {pos : Pos} {wi : TI} {g : TG} {tt : TT} {te : WX → TE} {Wout : WX} (hst : X.stack = X.env :: X.outer) (hf : X.env.frame = some X.env.locals) (hex : X.ex = []) (tk : L2N.Takes X Wout)
    (hc : X.calm = true) (hN : X.N.Nodup) (hi : PI X tg iter wi) (ok : BlkOk X.N X.env.scope scope own)
    (hg : ∀ (s : Shared) (H : Hp) (C : Addr) (cl : List (Str × Addr)) (fp : List Addr), PG (X.blk s H scope (compEnvC scope cl C X.env) fp) tg g) (ht : ∀ (s : Shared) (H : Hp) (C : Addr) (cl : List (Str × Addr)) (fp : List Addr), PTs (X.blk s H scope (compEnvC scope cl C X.env) fp) ifs tt)
    (he : ∀ (W : WX) (s : Shared) (H : Hp) (C : Addr) (cl : List (Str × Addr)) (fp : List Addr) (xe : Value → Shared → Prop), TakesF (Cx.blkX X s H scope (compEnvC scope cl C X.env) fp xe) W → PE (Cx.blkX X s H scope (compEnvC scope cl C X.env) fp xe) elt (te W)) (hs : ∀ x, foldedSetIterable iter X.env x = pure x := by intro _; rfl) :
    PE X (.ListComp elt [⟨tg, iter, ifs, 0⟩] scope pos) (tLcX wi g tt te (own.map (·.2)) Wout) := by
  refine ⟨fun pins s σ H Q I h => ?_⟩
  rw [eval_ListComp]
  have hfree : ∀ y ∈ scope.names, y.2 = .free → ∃ c, X.env.cells.lookup y.1 = some c := fun y hy e => by
    rcases ok.free y hy e with k | k
    · exact I.ok.has _ (.inl k)
    · exact I.ok.has _ (.inr k)
  have hfr : X.A.frames = some (X.env :: X.outer) := by rw [I.ok.frames, hst]
  refine wpAny_comprehension_freeX rfl hs (closure_ok hfree) ok.kind (fun y hy e => by rw [ok.uniq y hy, e])
    (thn (hi.run pins s σ H _ I h) fun xv s1 hx => thn hx fun itv s2 h2 => ?_)
  obtain ⟨it, fp, tn, J, H2, e, I2, T, st2, f2, q⟩ := h2
  subst e
  refine wpAny_newObj_type (newEnv_comp ?_) (by show 0 ≤ sizeLine; decide)
  generalize hD : s2.heap.objs.size = D
  have hDn : H2 D = none := I2.hok.fresh (Nat.le_of_eq hD)
  obtain ⟨W, ⟨m0, w0⟩, turn⟩ := q D hDn
  -- the new list
  generalize hs3 : ({ s2 with heap := s2.heap.push { cls := .type "list", data := .seq ([] : List Value).toArray } } : Shared) = s3
  have I3 : Inv X pins σ (upd H2 D (.lst [])) s3 := by
    rw [← hs3]
    refine I2.laid (t' := s2.toks) (fun b o e => Heap.get?_push_of_some _ e) (Nat.le_of_eq hD) ⟨Nat.zero_le _, [], 0, .nil, ?_⟩
    rw [← hD]
    exact Heap.get?_push_size _ rfl
  have h3 : s3.heap = s2.heap.push { cls := .type "list", data := .seq ([] : List Value).toArray } := by rw [← hs3]
  have sz : ∀ b ∈ fp, b < s2.heap.objs.size := fun b hb => by
    obtain ⟨o, e, _⟩ := T.obj _ _ st2 b hb
    exact Heap.lt_size e
  have f3 : ∀ b ∈ fp, FpOk X pins (upd H2 D (.lst [])) b ∧ b < s3.heap.objs.size := fun b hb => by
    have hlt := sz b hb
    refine ⟨⟨?_, (f2 b hb).2⟩, by rw [h3, Heap.size_push]; exact Nat.lt_succ_of_lt hlt⟩
    rw [upd_ne (by rw [← hD]; exact Nat.ne_of_lt hlt)]
    exact (f2 b hb).1
  have st3 : tn 0 s3.heap := T.keep _ _ _ st2 fun b _ o e => by rw [h3]; exact Heap.get?_push_of_some _ e
  have I4 := block_start I3 ok hN f3
  have pg := hg s3 (upd H2 D (.lst [])) s3.heap.objs.size (cellsFrom (s3.heap.objs.size + 1) scope.names (cloFrom X.env.cells scope.names [])) fp
  have pt := ht s3 (upd H2 D (.lst [])) s3.heap.objs.size (cellsFrom (s3.heap.objs.size + 1) scope.names (cloFrom X.env.cells scope.names [])) fp
  have pe := fun W => he W s3 (upd H2 D (.lst [])) s3.heap.objs.size (cellsFrom (s3.heap.objs.size + 1) scope.names (cloFrom X.env.cells scope.names [])) fp
  have hceF : (compEnvC scope (cellsFrom (s3.heap.objs.size + 1) scope.names (cloFrom X.env.cells scope.names [])) s3.heap.objs.size X.env).frame = X.env.frame := rfl
  show codeAny _ _ (.compStart (.ListComp elt [⟨tg, iter, ifs, 0⟩] scope pos) 0 (.ref it) (.ref D) (compEnvC scope (cellsFrom (s3.heap.objs.size + 1) scope.names (cloFrom X.env.cells scope.names [])) s3.heap.objs.size X.env)) (compPostX (model X.prog X.w) X.A X.xe (EP X pins σ Q) (.ref D) (newEnv scope s3.heap.objs.size X.env.globals (cellsFrom (s3.heap.objs.size + 1) scope.names (cloFrom X.env.cells scope.names [])) X.env.qual none .none (some X.env) X.env.builtins)) { s3 with heap := pushCells (s3.heap.push { cls := .type "dict", data := .dict #[] }) scope.names }
  have nfp : ∀ b ∈ fp, (upd H2 D (.lst [])) b = none := fun b hb => (f3 b hb).1.1
  generalize hne : newEnv scope s3.heap.objs.size X.env.globals (cellsFrom (s3.heap.objs.size + 1) scope.names (cloFrom X.env.cells scope.names [])) X.env.qual none .none (some X.env) X.env.builtins = cn
  have cnL : cn.locals = s3.heap.objs.size := by rw [← hne]; rfl
  have cnF : cn.frame = X.env.frame := by rw [← hne]; rfl
  generalize hce : compEnvC scope (cellsFrom (s3.heap.objs.size + 1) scope.names (cloFrom X.env.cells scope.names [])) s3.heap.objs.size X.env = ce at I4 pg pt pe hceF ⊢
  have cL : ce.locals = s3.heap.objs.size := by subst hce; rfl
  generalize hH3 : upd H2 D (.lst []) = H3 at I3 I4 pg pt pe w0 nfp f3
  generalize hs4 : ({ s3 with heap := pushCells (s3.heap.push { cls := .type "dict", data := .dict #[] }) scope.names } : Shared) = s4 at I4 ⊢
  have st4 : tn 0 s4.heap := T.keep _ _ _ st3 fun b _ o e => by rw [← hs4]; exact pushCells_keeps _ _ _ _ (Heap.get?_push_of_some _ e)
  have stat : ∀ {σ' : St} {H' : Hp} {s' : Shared}, Inv (X.blk s3 H3 scope ce fp) [] σ' H' s' → (∀ b ∈ fp, H' b = none) → ∀ b ∈ fp, FpOk (X.blk s3 H3 scope ce fp) [] H' b := fun {σ' H' s'} I' hn b hb =>
    ⟨hn b hb, (I'.ok.exf b hb).1, I'.ok.exfs b hb, .inl hb, fun x c e => (I'.ok.exf b hb).2 x c e, fun p hp => absurd (show p ∈ ([] : List (Addr × Obj)) ++ [] from hp) (by simp)⟩
  -- the exception leaves the block
  have tkF : TakesF (Cx.blkX X s3 H3 scope ce fp (notedBy (model X.prog X.w) X.A ce (fun e s' => compPostX (model X.prog X.w) X.A X.xe (EP X pins σ Q) (.ref D) cn (.error e) s'))) fun cls d _ H' => Wout cls d σ H' := by
    intro u s6 x6
    obtain ⟨a, B, sI, pins2, σ2, H6, cls, d, rfl, I6, nb, up, fl, na, os, ag, w6⟩ := x6
    replace fl : HandSPX.FlyingZ B (X.env :: X.outer) a (L2N.Zn cls d) s6.heap := by rw [← hst]; exact fl
    show wpAny (model X.prog X.w) X.A (noteFrame (.ref a) ce) _ _ s6
    rw [noteFrame_eq hceF]
    refine PXN.looks_onZ L2N.Zn.steady hfr hf fl fun h7 hd7 up7 => ?_
    have up67 : sI.heap.UpToSlots h7 := up.trans up7
    have I7b : Inv (Cx.blkX X s3 H3 scope ce fp (notedBy (model X.prog X.w) X.A ce (fun e s' => compPostX (model X.prog X.w) X.A X.xe (EP X pins σ Q) (.ref D) cn (.error e) s'))) pins2 σ2 H6 { s6 with heap := h7 } := I6.landed nb hd7.1 up67 os ag
    obtain ⟨m, hn, _⟩ := I7b.loc
    replace hn : h7.Ns ce.locals m := hn
    rw [cL] at hn
    have nC : H6 s3.heap.objs.size = none := by
      have z : H6 ce.locals = none := I6.free
      rw [cL] at z
      exact z
    -- back in the def's context
    have J6 : Inv X pins σ H6 sI := I3.call' (ch := fp) I6.os I6.base I6.hok I6.bare fun b hb => ⟨(f3 b hb).1.2.2.2.1, (f3 b hb).1.2.1, (f3 b hb).1.2.2.2.2.1, (f3 b hb).1.2.2.2.2.2⟩
    have J7 : Inv X pins σ H6 { s6 with heap := h7 } := J6.landed nb hd7.1 up67 os ag
    show compPostX _ _ _ _ _ cn (.error (.ref a)) { s6 with heap := h7 }
    refine ⟨m, by rw [cnL]; exact hn, fun h8 sb cenv hcenv => ?_⟩
    rw [cnL] at sb
    have notFr : ∀ {B h : Heap} {a : Addr} {o : Obj} {vs : Array Value}, h.FunFrames B (X.env :: X.outer) → h.get? a = some o → o.data = .fields vs → a ∉ frs (X.env :: X.outer) := fun {B h a o vs} ff e dd hm => by
      obtain ⟨_, o', e', hnf⟩ := ff.mem hm
      rw [e] at e'; cases e'
      exact hnf _ dd
    obtain ⟨k1, k2, k3, oe, vs, T2, oT, ts, he7, hz, hd, hv1, hnT, hTe, hT, hdT, ht3⟩ := id hd7
    have notC : ∀ {b : Addr} {o : Obj} {vs : Array Value}, h7.get? b = some o → o.data = .fields vs → b ≠ s3.heap.objs.size := fun {b o vs} e dd z => by
      obtain ⟨oC, es, ep, hoC, hdC, _⟩ := id hn
      rw [z, hoC] at e
      cases e
      rw [dd] at hdC
      cases hdC
    have aC := notC he7 hd
    have TC := notC hT hdT
    have nT : H6 T2 = none := (J6.inGround nb).gone hnT
    have fa := notFr k3 he7 hd
    have fT := notFr k3 hT hdT
    obtain ⟨f0, f1, _, g3, g4, g5⟩ := I3.fpOk (Nat.le_refl _) nC
    have J8 : Inv X pins σ H6 { s6 with heap := h8 } := J7.turned (t' := s6.toks) (fun b o hb e => (sb.2 b hb).trans e) f0 f1 g3 g4 g5
    have ga : h8.get? a = some oe := (sb.2 a aC).trans he7
    have gT : h8.get? T2 = some oT := (sb.2 T2 TC).trans hT
    have far : ∀ b o, sI.heap.get? b = some o → b ≠ a ∧ b ≠ T2 := fun b o e => by
      by_cases hb : b ∈ frs X.stack
      · rw [hst] at hb
        exact ⟨fun z => fa (by rw [← z]; exact hb), fun z => fT (by rw [← z]; exact hb)⟩
      · have q := nb b o e hb
        exact ⟨fun z => by
          rw [z, k2] at q
          exact (nomatch q), fun z => by
          rw [z, hnT] at q
          cases q⟩
    have far0 : ∀ b o, X.s_0.heap.get? b = some o → b ≠ a ∧ b ≠ T2 := fun b o e => by
      obtain ⟨o', q⟩ := J6.base.there b o e (by rw [hex]; simp)
      exact far b o' q
    have farP : ∀ p ∈ X.pn ++ pins, p.1 ≠ a ∧ p.1 ≠ T2 := fun p hp => far p.1 p.2 (J6.pin p hp).1
    obtain ⟨G, g1, g2⟩ := restrict h8 fun b => !(decide (b = a) || decide (b = T2))
    have gIn : ∀ b o, G.get? b = some o → h8.get? b = some o ∧ b ≠ a ∧ b ≠ T2 := fun b o e => by
      cases q : (!(decide (b = a) || decide (b = T2))) with
      | false =>
        rw [g2 b q] at e
        cases e
      | true =>
        rw [g1 b q] at e
        simp only [Bool.not_eq_true', Bool.or_eq_false_iff, decide_eq_false_iff_not] at q
        exact ⟨e, q.1, q.2⟩
    have gOf : ∀ b o, b ≠ a → b ≠ T2 → h8.get? b = some o → G.get? b = some o := fun b o h1 h2 e => by
      rw [g1 b (by simp [h1, h2])]
      exact e
    have J9 : Inv X pins σ H6 { s6 with heap := G } := J8.less (fun b o e => (gIn b o e).1) gOf ⟨oe, vs, ga, hd⟩ ⟨oT, ts, gT, hdT⟩ na nT far0 farP
    have B9in : ∀ b o, (PySem.W.hideAll G (frs X.stack)).get? b = some o → h8.get? b = some o := fun b o e => (gIn b o (PySem.W.of_hideAll _ e)).1
    have Bno : ∀ b, (b = a ∨ b = T2) → (PySem.W.hideAll G (frs X.stack)).get? b = none := fun b hb => by
      cases q : (PySem.W.hideAll G (frs X.stack)).get? b with
      | none => rfl
      | some o =>
        obtain ⟨_, n1, n2⟩ := gIn b o (PySem.W.of_hideAll _ q)
        rcases hb with z | z
        · exact absurd z n1
        · exact absurd z n2
    have fl9 : HandSPX.HeldZ (PySem.W.hideAll G (frs X.stack)) (X.env :: X.outer) a (L2N.Zn cls d) X.env.locals h8 := by
      refine ⟨B9in, Bno a (.inl rfl), ?_, oe, vs, T2, oT, ts, ga, hz, hd, hv1, Bno T2 (.inr rfl), hTe, gT, hdT, ht3⟩
      have ff := funFrames_none (B := PySem.W.hideAll G (frs X.stack)) J8.stack fun b hb => PySem.W.hideAll_none _ hb
      rw [← hst]
      exact ff
    unfold PySem.passOn
    refine wpAny_bind (wpAny_field (show ({ s6 with heap := h8 } : Shared).heap.get? a = some oe from ga) hd hv1 ?_)
    rw [if_neg (show ¬ ((Value.ref T2 == Value.none) = true) from by simp), hcenv, cnF, hf]
    have fin : wpAny (model X.prog X.w) X.A (setFlight (.ref a) (some X.env.locals)) (fun _ s4 => wpAny (model X.prog X.w) X.A (throw (.ref a) : Sem Value) (fun _ _ => False) X.xe s4) X.xe { s6 with heap := h8 } := by
      refine HandSPX.setFlight_onZ fl9 fun h9 hh9 up9 => wpAny_throw (tk _ _ ?_)
      refine ⟨a, PySem.W.hideAll G (frs X.stack), { s6 with heap := G }, pins, σ, H6, cls, d, rfl, J9, fun b o e hb => PySem.W.hideAll_get _ e hb, ?_, .inr (.inr (by rw [← hst] at hh9; exact hh9)), na, rfl, J8.bare, w6⟩
      exact Heap.UpToSlots.trans (Heap.UpToSlots.of_keeps fun b o e => (gIn b o e).1) up9
    first
      | exact wpAny_bind (wpAny_pure (wpAny_bind fin))
      | exact wpAny_bind fin
  have loop : codeAny (model X.prog X.w) X.A (.compLoop (.ListComp elt [⟨tg, iter, ifs, 0⟩] scope pos) 0 (.ref it) (.ref D) ce) (compPostX (model X.prog X.w) X.A X.xe (EP X pins σ Q) (.ref D) cn) s4 := by
    refine compLoop_any (fun n s' => ∃ i H', Inv (X.blk s3 H3 scope ce fp) [] (wipe σ (own.map (·.2))) H' s' ∧ tn i s'.heap ∧ (∀ b ∈ fp, H' b = none) ∧ W i n H') ?_ m0 ⟨0, H3, I4, st4, nfp, w0⟩
    rintro n s5 ⟨i, H5, I5, st5, n5, w5⟩
    rcases turn i n H5 w5 with ⟨stop, qq⟩ | ⟨go, Nx, hNx, step⟩
    · have td := T.done (X.blk s3 H3 scope ce fp) rfl rfl rfl hc i [] s5 _ H5 (fun _ _ => False) I5 (stat I5 n5) st5 stop
      refine thnF td fun r s6 ⟨hr, I6⟩ => ?_
      subst hr
      -- back in the def's context
      have I7 : Inv X pins σ H5 s6 := I3.call' (ch := fp) I6.os I6.base I6.hok I6.bare fun b hb => ⟨(f3 b hb).1.2.2.2.1, (f3 b hb).1.2.1, (f3 b hb).1.2.2.2.2.1, (f3 b hb).1.2.2.2.2.2⟩
      have nC : H5 s3.heap.objs.size = none := by
        have z : H5 ce.locals = none := I6.free
        rw [cL] at z
        exact z
      obtain ⟨m, hn, _⟩ := I6.loc
      have hn : s6.heap.Ns ce.locals m := hn
      rw [cL] at hn
      refine ⟨m, by rw [cnL]; exact hn, fun h'' sb => ?_⟩
      rw [cnL] at sb
      obtain ⟨f0, f1, f2, f3, f4, f5⟩ := I3.fpOk (Nat.le_refl _) nC
      exact ⟨.ref D, H5, I7.turned (t' := s6.toks) (fun b o hb e => (sb.2 b hb).trans e) f0 f1 f3 f4 f5, rfl, qq⟩
    · have ti := T.item (X.blk s3 H3 scope ce fp) rfl rfl rfl hc i [] s5 _ H5 (fun _ _ => False) I5 (stat I5 n5) st5 go
      refine thnF ti fun r s6 ⟨u, hr, h6⟩ => ?_
      subst hr
      refine thnF h6 fun _ s7 ⟨x, H7, I7, r7, y7, st7, n7⟩ => ?_
      have I7' := I7.pinned (stat I7 n7) (T.obj _ _ st7)
      refine thnF (pg.run _ s7 _ H7 x u _ I7' r7 (step x H7 y7)) fun _ s8 ⟨σ8, H8, I8, hw8, q8⟩ => ?_
      refine thnF (pt.run _ s8 σ8 H8 _ I8 q8) fun b s9 ⟨H9, I9, q9⟩ => ?_
      -- the turn's end
      have fin : ∀ {s' : Shared} {H' : Hp}, Inv (X.blk s3 H3 scope ce fp) ([] ++ pinsAt fp s7.heap) σ8 H' s' → Nx H' → ∃ m, m < n ∧ ∃ i H', Inv (X.blk s3 H3 scope ce fp) [] (wipe σ (own.map (·.2))) H' s' ∧ tn i s'.heap ∧ (∀ b ∈ fp, H' b = none) ∧ W i m H' := fun {s' H'} I' nx => by
        obtain ⟨m', hm, w'⟩ := hNx H' nx
        have pin' : ∀ b ∈ fp, ∀ o, s7.heap.get? b = some o → s'.heap.get? b = some o ∧ H' b = none := fun b hb o e =>
          let z := I'.pin (b, o) (List.mem_append_right _ (List.mem_append_right _ (mem_pinsAt hb e)))
          ⟨z.1, z.2.1⟩
        have hl : (wipe σ (own.map (·.2))).length = σ8.length := by rw [← hw8, wipe_length]
        refine ⟨m', hm, i + 1, H', (I'.unpinned (pins := [])).weak hl (fun j v e => ?_), T.keep _ _ _ st7 fun b hb o e => (pin' b hb o e).1, fun b hb => ?_, w'⟩
        · rw [← hw8] at e
          exact (wipe_some e).1
        · obtain ⟨o, e, _⟩ := T.obj _ _ st7 b hb
          exact (pin' b hb o e).2
      cases b with
      | false =>
        simp only [Bool.false_eq_true, if_false] at q9 ⊢
        exact fin I9 q9
      | true =>
        simp only [if_true] at q9 ⊢
        have pr := (pe _ _ tkF).run _ s9 σ8 H9 _ (I9.wish _) q9
        refine wpAny_mono pr (fun z s10 hz => ?_) fun _ _ z => z
        obtain ⟨yv, H10, I10', r10, acc, hD10, hz10, nx⟩ := hz
        have I10 : Inv (X.blk s3 H3 scope ce fp) ([] ++ pinsAt fp s7.heap) σ8 H10 s10 := I10'.wish fun _ _ => False
        exact app_ok (X := X.blk s3 H3 scope ce fp) I10 hD10 hz10 r10 fun s11 I11 => fin I11 nx
  exact codeAny_compStart_list loop (T.self X.A 0 _ _ _ st4 loop)
end
end L2

end

section
set_option maxRecDepth 100000
set_option maxHeartbeats 4000000
/-! a list comprehension that may let an exception out, of any context (printed from SwLx) -/
namespace L2
open PySem PySem.Spec PyProof.Rows
/-- an exception that a call let out, in the air of a block -/
def XG (X : Cx) (W : WX) (u : Value) (s' : Shared) : Prop :=
  ∃ (a : Addr) (B : Heap) (sI : Shared) (pins : List (Addr × Obj)) (σ : St) (H : Hp) (cls : Value) (d : Option Addr),
    u = .ref a ∧ Inv X pins σ H sI ∧ (∀ b o, sI.heap.get? b = some o → b ∉ frs X.stack → B.get? b = some o) ∧ sI.heap.UpToSlots s'.heap ∧
      HandSPX.FlyingZ B X.stack a (Zc cls d) s'.heap ∧ H a = none ∧ s'.os = sI.os ∧ AllBare s'.gens ∧ W cls d σ H
def TakesG (X : Cx) (W : WX) : Prop := ∀ u s', XG X W u s' → X.xe u s'
theorem passAtG {X : Cx} {W : WX} (tk : TakesG X W) (σ : St) : PassesAt (L2.CX X.prog X.w) X σ (WE W σ) := by
  intro pins H s u s' I c
  refine tk u s' ?_
  obtain ⟨a, B, H', cls, d, rfl, fl, hok, ub, na, os, ag, hE⟩ := c
  obtain ⟨G, g1, g2⟩ := restrict s'.heap fun b => (B.get? b).isSome || decide (b ∈ frs X.stack)
  have st : B.StaysIn s'.heap := fl.1
  have gB : ∀ b o, B.get? b = some o → G.get? b = some o := fun b o e => by
    rw [g1 b (by simp [e])]
    exact st b o e
  have gF : ∀ b, b ∈ frs X.stack → G.get? b = s'.heap.get? b := fun b hb => g1 b (by simp [hb])
  have og : ∀ b o, G.get? b = some o → s'.heap.get? b = some o ∧ ((B.get? b).isSome = true ∨ b ∈ frs X.stack) := fun b o e => by
    cases q : ((B.get? b).isSome || decide (b ∈ frs X.stack)) with
    | false => rw [g2 b q] at e; cases e
    | true =>
      rw [g1 b q] at e
      exact ⟨e, by simpa [Bool.or_eq_true] using q⟩
  refine ⟨a, B, { s with heap := G, gens := s'.gens, drawn := s'.drawn, toks := s'.toks }, pins, σ, H', cls, d, rfl, ?_, fun b o e hb => ?_, Heap.UpToSlots.of_keeps fun b o e => (og b o e).1, fl, na, os, ag, hE⟩
  · refine I.call (ch := []) ⟨fun b o e n hb _ => gB b o (ub.keep b o e n hb), fun b o e n hb _ => ?_, fun b o e n _ => ub.free b o e n, fun b o e _ => ?_, ub.tups, ub.frzs, ub.tbls⟩ (hok.kept gB) ag (fun _ z => nomatch z)
    · obtain ⟨sl, q⟩ := ub.slot b o e hb
      exact ⟨sl, by rw [gF b hb]; exact q⟩
    · by_cases hb : b ∈ frs X.stack
      · obtain ⟨sl, q⟩ := ub.slot b o e hb
        exact ⟨_, by rw [gF b hb]; exact q⟩
      · obtain ⟨o', q⟩ := ub.there b o e hb
        exact ⟨o', gB b o' q⟩
  · obtain ⟨e', h⟩ := og b o e
    rcases h with h | h
    · obtain ⟨o', q⟩ := Option.isSome_iff_exists.mp h
      have z := st b o' q
      rw [e'] at z; cases z
      exact q
    · exact absurd h hb
/-- the context of a block that may let an exception out -/
abbrev Cx.blkY (X : Cx) (s : Shared) (H : Hp) (scope : Scope) (cenv : Env) (fp : List Addr) (xe : Value → Shared → Prop) : Cx := { X.blk s H scope cenv fp with xe := xe }
section
variable {X : Cx}
/-- [elt for target in iter if ..] whose element may let exceptions out -/
def tLcY (wi : TI) (g : TG) (tt : TT) (te : WX → TE) (vs : List Nat) (Wout : WX) : TE := fun σ H Q => tLc wi g tt (te fun cls d _ H' => Wout cls d σ H') vs σ H Q
theorem pe_lcY {elt tg iter : Expr} {ifs : List Expr} {scope : Scope} {own : List (Str × Nat)} {pos : Pos} {wi : TI} {g : TG} {tt : TT} {te : WX → TE} {Wout : WX} (hst : X.stack = X.env :: X.outer) (hf : X.env.frame = some X.env.locals) (hex : X.ex = []) (tk : L2.Takes X Wout)
    (hc : X.calm = true) (hN : X.N.Nodup) (hi : PI X tg iter wi) (ok : BlkOk X.N X.env.scope scope own)
    (hg : ∀ (s : Shared) (H : Hp) (C : Addr) (cl : List (Str × Addr)) (fp : List Addr), PG (X.blk s H scope (compEnvC scope cl C X.env) fp) tg g) (ht : ∀ (s : Shared) (H : Hp) (C : Addr) (cl : List (Str × Addr)) (fp : List Addr), PTs (X.blk s H scope (compEnvC scope cl C X.env) fp) ifs tt)
    (he : ∀ (W : WX) (s : Shared) (H : Hp) (C : Addr) (cl : List (Str × Addr)) (fp : List Addr) (xe : Value → Shared → Prop), TakesG (Cx.blkY X s H scope (compEnvC scope cl C X.env) fp xe) W → PE (Cx.blkY X s H scope (compEnvC scope cl C X.env) fp xe) elt (te W)) (hs : ∀ x, foldedSetIterable iter X.env x = pure x := by intro _; rfl) :
    PE X (.ListComp elt [⟨tg, iter, ifs, 0⟩] scope pos) (tLcY wi g tt te (own.map (·.2)) Wout) := by
  refine ⟨fun pins s σ H Q I h => ?_⟩
  rw [eval_ListComp]
  have hfree : ∀ y ∈ scope.names, y.2 = .free → ∃ c, X.env.cells.lookup y.1 = some c := fun y hy e => by
    rcases ok.free y hy e with k | k
    · exact I.ok.has _ (.inl k)
    · exact I.ok.has _ (.inr k)
  have hfr : X.A.frames = some (X.env :: X.outer) := by rw [I.ok.frames, hst]
  refine wpAny_comprehension_freeX rfl hs (closure_ok hfree) ok.kind (fun y hy e => by rw [ok.uniq y hy, e])
    (thn (hi.run pins s σ H _ I h) fun xv s1 hx => thn hx fun itv s2 h2 => ?_)
  obtain ⟨it, fp, tn, J, H2, e, I2, T, st2, f2, q⟩ := h2
  subst e
  refine wpAny_newObj_type (newEnv_comp ?_) (by show 0 ≤ sizeLine; decide)
  generalize hD : s2.heap.objs.size = D
  have hDn : H2 D = none := I2.hok.fresh (Nat.le_of_eq hD)
  obtain ⟨W, ⟨m0, w0⟩, turn⟩ := q D hDn
  -- the new list
  generalize hs3 : ({ s2 with heap := s2.heap.push { cls := .type "list", data := .seq ([] : List Value).toArray } } : Shared) = s3
  have I3 : Inv X pins σ (upd H2 D (.lst [])) s3 := by
    rw [← hs3]
    refine I2.laid (t' := s2.toks) (fun b o e => Heap.get?_push_of_some _ e) (Nat.le_of_eq hD) ⟨Nat.zero_le _, [], 0, .nil, ?_⟩
    rw [← hD]
    exact Heap.get?_push_size _ rfl
  have h3 : s3.heap = s2.heap.push { cls := .type "list", data := .seq ([] : List Value).toArray } := by rw [← hs3]
  have sz : ∀ b ∈ fp, b < s2.heap.objs.size := fun b hb => by
    obtain ⟨o, e, _⟩ := T.obj _ _ st2 b hb
    exact Heap.lt_size e
  have f3 : ∀ b ∈ fp, FpOk X pins (upd H2 D (.lst [])) b ∧ b < s3.heap.objs.size := fun b hb => by
    have hlt := sz b hb
    refine ⟨⟨?_, (f2 b hb).2⟩, by rw [h3, Heap.size_push]; exact Nat.lt_succ_of_lt hlt⟩
    rw [upd_ne (by rw [← hD]; exact Nat.ne_of_lt hlt)]
    exact (f2 b hb).1
  have st3 : tn 0 s3.heap := T.keep _ _ _ st2 fun b _ o e => by rw [h3]; exact Heap.get?_push_of_some _ e
  have I4 := block_start I3 ok hN f3
  have pg := hg s3 (upd H2 D (.lst [])) s3.heap.objs.size (cellsFrom (s3.heap.objs.size + 1) scope.names (cloFrom X.env.cells scope.names [])) fp
  have pt := ht s3 (upd H2 D (.lst [])) s3.heap.objs.size (cellsFrom (s3.heap.objs.size + 1) scope.names (cloFrom X.env.cells scope.names [])) fp
  have pe := fun W => he W s3 (upd H2 D (.lst [])) s3.heap.objs.size (cellsFrom (s3.heap.objs.size + 1) scope.names (cloFrom X.env.cells scope.names [])) fp
  have hceF : (compEnvC scope (cellsFrom (s3.heap.objs.size + 1) scope.names (cloFrom X.env.cells scope.names [])) s3.heap.objs.size X.env).frame = X.env.frame := rfl
  show codeAny _ _ (.compStart (.ListComp elt [⟨tg, iter, ifs, 0⟩] scope pos) 0 (.ref it) (.ref D) (compEnvC scope (cellsFrom (s3.heap.objs.size + 1) scope.names (cloFrom X.env.cells scope.names [])) s3.heap.objs.size X.env)) (compPostX (model X.prog X.w) X.A X.xe (EP X pins σ Q) (.ref D) (newEnv scope s3.heap.objs.size X.env.globals (cellsFrom (s3.heap.objs.size + 1) scope.names (cloFrom X.env.cells scope.names [])) X.env.qual none .none (some X.env) X.env.builtins)) { s3 with heap := pushCells (s3.heap.push { cls := .type "dict", data := .dict #[] }) scope.names }
  have nfp : ∀ b ∈ fp, (upd H2 D (.lst [])) b = none := fun b hb => (f3 b hb).1.1
  generalize hne : newEnv scope s3.heap.objs.size X.env.globals (cellsFrom (s3.heap.objs.size + 1) scope.names (cloFrom X.env.cells scope.names [])) X.env.qual none .none (some X.env) X.env.builtins = cn
  have cnL : cn.locals = s3.heap.objs.size := by rw [← hne]; rfl
  have cnF : cn.frame = X.env.frame := by rw [← hne]; rfl
  generalize hce : compEnvC scope (cellsFrom (s3.heap.objs.size + 1) scope.names (cloFrom X.env.cells scope.names [])) s3.heap.objs.size X.env = ce at I4 pg pt pe hceF ⊢
  have cL : ce.locals = s3.heap.objs.size := by subst hce; rfl
  generalize hH3 : upd H2 D (.lst []) = H3 at I3 I4 pg pt pe w0 nfp f3
  generalize hs4 : ({ s3 with heap := pushCells (s3.heap.push { cls := .type "dict", data := .dict #[] }) scope.names } : Shared) = s4 at I4 ⊢
  have st4 : tn 0 s4.heap := T.keep _ _ _ st3 fun b _ o e => by rw [← hs4]; exact pushCells_keeps _ _ _ _ (Heap.get?_push_of_some _ e)
  have stat : ∀ {σ' : St} {H' : Hp} {s' : Shared}, Inv (X.blk s3 H3 scope ce fp) [] σ' H' s' → (∀ b ∈ fp, H' b = none) → ∀ b ∈ fp, FpOk (X.blk s3 H3 scope ce fp) [] H' b := fun {σ' H' s'} I' hn b hb =>
    ⟨hn b hb, (I'.ok.exf b hb).1, I'.ok.exfs b hb, .inl hb, fun x c e => (I'.ok.exf b hb).2 x c e, fun p hp => absurd (show p ∈ ([] : List (Addr × Obj)) ++ [] from hp) (by simp)⟩
  -- the exception leaves the block
  have tkF : TakesG (Cx.blkY X s3 H3 scope ce fp (notedBy (model X.prog X.w) X.A ce (fun e s' => compPostX (model X.prog X.w) X.A X.xe (EP X pins σ Q) (.ref D) cn (.error e) s'))) fun cls d _ H' => Wout cls d σ H' := by
    intro u s6 x6
    obtain ⟨a, B, sI, pins2, σ2, H6, cls, d, rfl, I6, nb, up, fl, na, os, ag, w6⟩ := x6
    replace fl : HandSPX.FlyingZ B (X.env :: X.outer) a (Zc cls d) s6.heap := by rw [← hst]; exact fl
    show wpAny (model X.prog X.w) X.A (noteFrame (.ref a) ce) _ _ s6
    rw [noteFrame_eq hceF]
    refine HandSPX.looks_onZ Zc.steady hfr hf fl fun h7 hd7 up7 => ?_
    have up67 : sI.heap.UpToSlots h7 := up.trans up7
    have I7b : Inv (Cx.blkY X s3 H3 scope ce fp (notedBy (model X.prog X.w) X.A ce (fun e s' => compPostX (model X.prog X.w) X.A X.xe (EP X pins σ Q) (.ref D) cn (.error e) s'))) pins2 σ2 H6 { s6 with heap := h7 } := I6.landed nb hd7.1 up67 os ag
    obtain ⟨m, hn, _⟩ := I7b.loc
    replace hn : h7.Ns ce.locals m := hn
    rw [cL] at hn
    have nC : H6 s3.heap.objs.size = none := by
      have z : H6 ce.locals = none := I6.free
      rw [cL] at z
      exact z
    -- back in the def's context
    have J6 : Inv X pins σ H6 sI := I3.call' (ch := fp) I6.os I6.base I6.hok I6.bare fun b hb => ⟨(f3 b hb).1.2.2.2.1, (f3 b hb).1.2.1, (f3 b hb).1.2.2.2.2.1, (f3 b hb).1.2.2.2.2.2⟩
    have J7 : Inv X pins σ H6 { s6 with heap := h7 } := J6.landed nb hd7.1 up67 os ag
    show compPostX _ _ _ _ _ cn (.error (.ref a)) { s6 with heap := h7 }
    refine ⟨m, by rw [cnL]; exact hn, fun h8 sb cenv hcenv => ?_⟩
    rw [cnL] at sb
    have notFr : ∀ {B h : Heap} {a : Addr} {o : Obj} {vs : Array Value}, h.FunFrames B (X.env :: X.outer) → h.get? a = some o → o.data = .fields vs → a ∉ frs (X.env :: X.outer) := fun {B h a o vs} ff e dd hm => by
      obtain ⟨_, o', e', hnf⟩ := ff.mem hm
      rw [e] at e'; cases e'
      exact hnf _ dd
    obtain ⟨k1, k2, k3, oe, vs, T2, oT, ts, he7, hz, hd, hv1, hnT, hTe, hT, hdT, ht3⟩ := id hd7
    have notC : ∀ {b : Addr} {o : Obj} {vs : Array Value}, h7.get? b = some o → o.data = .fields vs → b ≠ s3.heap.objs.size := fun {b o vs} e dd z => by
      obtain ⟨oC, es, ep, hoC, hdC, _⟩ := id hn
      rw [z, hoC] at e
      cases e
      rw [dd] at hdC
      cases hdC
    have aC := notC he7 hd
    have TC := notC hT hdT
    have nT : H6 T2 = none := (J6.inGround nb).gone hnT
    have fa := notFr k3 he7 hd
    have fT := notFr k3 hT hdT
    obtain ⟨f0, f1, _, g3, g4, g5⟩ := I3.fpOk (Nat.le_refl _) nC
    have J8 : Inv X pins σ H6 { s6 with heap := h8 } := J7.turned (t' := s6.toks) (fun b o hb e => (sb.2 b hb).trans e) f0 f1 g3 g4 g5
    have ga : h8.get? a = some oe := (sb.2 a aC).trans he7
    have gT : h8.get? T2 = some oT := (sb.2 T2 TC).trans hT
    have far : ∀ b o, sI.heap.get? b = some o → b ≠ a ∧ b ≠ T2 := fun b o e => by
      by_cases hb : b ∈ frs X.stack
      · rw [hst] at hb
        exact ⟨fun z => fa (by rw [← z]; exact hb), fun z => fT (by rw [← z]; exact hb)⟩
      · have q := nb b o e hb
        exact ⟨fun z => by
          rw [z, k2] at q
          exact (nomatch q), fun z => by
          rw [z, hnT] at q
          cases q⟩
    have far0 : ∀ b o, X.s_0.heap.get? b = some o → b ≠ a ∧ b ≠ T2 := fun b o e => by
      obtain ⟨o', q⟩ := J6.base.there b o e (by rw [hex]; simp)
      exact far b o' q
    have farP : ∀ p ∈ X.pn ++ pins, p.1 ≠ a ∧ p.1 ≠ T2 := fun p hp => far p.1 p.2 (J6.pin p hp).1
    obtain ⟨G, g1, g2⟩ := restrict h8 fun b => !(decide (b = a) || decide (b = T2))
    have gIn : ∀ b o, G.get? b = some o → h8.get? b = some o ∧ b ≠ a ∧ b ≠ T2 := fun b o e => by
      cases q : (!(decide (b = a) || decide (b = T2))) with
      | false =>
        rw [g2 b q] at e
        cases e
      | true =>
        rw [g1 b q] at e
        simp only [Bool.not_eq_true', Bool.or_eq_false_iff, decide_eq_false_iff_not] at q
        exact ⟨e, q.1, q.2⟩
    have gOf : ∀ b o, b ≠ a → b ≠ T2 → h8.get? b = some o → G.get? b = some o := fun b o h1 h2 e => by
      rw [g1 b (by simp [h1, h2])]
      exact e
    have J9 : Inv X pins σ H6 { s6 with heap := G } := J8.less (fun b o e => (gIn b o e).1) gOf ⟨oe, vs, ga, hd⟩ ⟨oT, ts, gT, hdT⟩ na nT far0 farP
    have B9in : ∀ b o, (PySem.W.hideAll G (frs X.stack)).get? b = some o → h8.get? b = some o := fun b o e => (gIn b o (PySem.W.of_hideAll _ e)).1
    have Bno : ∀ b, (b = a ∨ b = T2) → (PySem.W.hideAll G (frs X.stack)).get? b = none := fun b hb => by
      cases q : (PySem.W.hideAll G (frs X.stack)).get? b with
      | none => rfl
      | some o =>
        obtain ⟨_, n1, n2⟩ := gIn b o (PySem.W.of_hideAll _ q)
        rcases hb with z | z
        · exact absurd z n1
        · exact absurd z n2
    have fl9 : HandSPX.HeldZ (PySem.W.hideAll G (frs X.stack)) (X.env :: X.outer) a (Zc cls d) X.env.locals h8 := by
      refine ⟨B9in, Bno a (.inl rfl), ?_, oe, vs, T2, oT, ts, ga, hz, hd, hv1, Bno T2 (.inr rfl), hTe, gT, hdT, ht3⟩
      have ff := funFrames_none (B := PySem.W.hideAll G (frs X.stack)) J8.stack fun b hb => PySem.W.hideAll_none _ hb
      rw [← hst]
      exact ff
    unfold PySem.passOn
    refine wpAny_bind (wpAny_field (show ({ s6 with heap := h8 } : Shared).heap.get? a = some oe from ga) hd hv1 ?_)
    rw [if_neg (show ¬ ((Value.ref T2 == Value.none) = true) from by simp), hcenv, cnF, hf]
    have fin : wpAny (model X.prog X.w) X.A (setFlight (.ref a) (some X.env.locals)) (fun _ s4 => wpAny (model X.prog X.w) X.A (throw (.ref a) : Sem Value) (fun _ _ => False) X.xe s4) X.xe { s6 with heap := h8 } := by
      refine HandSPX.setFlight_onZ fl9 fun h9 hh9 up9 => wpAny_throw (tk _ _ ?_)
      refine ⟨a, PySem.W.hideAll G (frs X.stack), { s6 with heap := G }, pins, σ, H6, cls, d, rfl, J9, fun b o e hb => PySem.W.hideAll_get _ e hb, ?_, .inr (.inr (by rw [← hst] at hh9; exact hh9)), na, rfl, J8.bare, w6⟩
      exact Heap.UpToSlots.trans (Heap.UpToSlots.of_keeps fun b o e => (gIn b o e).1) up9
    first
      | exact wpAny_bind (wpAny_pure (wpAny_bind fin))
      | exact wpAny_bind fin
  have loop : codeAny (model X.prog X.w) X.A (.compLoop (.ListComp elt [⟨tg, iter, ifs, 0⟩] scope pos) 0 (.ref it) (.ref D) ce) (compPostX (model X.prog X.w) X.A X.xe (EP X pins σ Q) (.ref D) cn) s4 := by
    refine compLoop_any (fun n s' => ∃ i H', Inv (X.blk s3 H3 scope ce fp) [] (wipe σ (own.map (·.2))) H' s' ∧ tn i s'.heap ∧ (∀ b ∈ fp, H' b = none) ∧ W i n H') ?_ m0 ⟨0, H3, I4, st4, nfp, w0⟩
    rintro n s5 ⟨i, H5, I5, st5, n5, w5⟩
    rcases turn i n H5 w5 with ⟨stop, qq⟩ | ⟨go, Nx, hNx, step⟩
    · have td := T.done (X.blk s3 H3 scope ce fp) rfl rfl rfl hc i [] s5 _ H5 (fun _ _ => False) I5 (stat I5 n5) st5 stop
      refine thnF td fun r s6 ⟨hr, I6⟩ => ?_
      subst hr
      -- back in the def's context
      have I7 : Inv X pins σ H5 s6 := I3.call' (ch := fp) I6.os I6.base I6.hok I6.bare fun b hb => ⟨(f3 b hb).1.2.2.2.1, (f3 b hb).1.2.1, (f3 b hb).1.2.2.2.2.1, (f3 b hb).1.2.2.2.2.2⟩
      have nC : H5 s3.heap.objs.size = none := by
        have z : H5 ce.locals = none := I6.free
        rw [cL] at z
        exact z
      obtain ⟨m, hn, _⟩ := I6.loc
      have hn : s6.heap.Ns ce.locals m := hn
      rw [cL] at hn
      refine ⟨m, by rw [cnL]; exact hn, fun h'' sb => ?_⟩
      rw [cnL] at sb
      obtain ⟨f0, f1, f2, f3, f4, f5⟩ := I3.fpOk (Nat.le_refl _) nC
      exact ⟨.ref D, H5, I7.turned (t' := s6.toks) (fun b o hb e => (sb.2 b hb).trans e) f0 f1 f3 f4 f5, rfl, qq⟩
    · have ti := T.item (X.blk s3 H3 scope ce fp) rfl rfl rfl hc i [] s5 _ H5 (fun _ _ => False) I5 (stat I5 n5) st5 go
      refine thnF ti fun r s6 ⟨u, hr, h6⟩ => ?_
      subst hr
      refine thnF h6 fun _ s7 ⟨x, H7, I7, r7, y7, st7, n7⟩ => ?_
      have I7' := I7.pinned (stat I7 n7) (T.obj _ _ st7)
      refine thnF (pg.run _ s7 _ H7 x u _ I7' r7 (step x H7 y7)) fun _ s8 ⟨σ8, H8, I8, hw8, q8⟩ => ?_
      refine thnF (pt.run _ s8 σ8 H8 _ I8 q8) fun b s9 ⟨H9, I9, q9⟩ => ?_
      -- the turn's end
      have fin : ∀ {s' : Shared} {H' : Hp}, Inv (X.blk s3 H3 scope ce fp) ([] ++ pinsAt fp s7.heap) σ8 H' s' → Nx H' → ∃ m, m < n ∧ ∃ i H', Inv (X.blk s3 H3 scope ce fp) [] (wipe σ (own.map (·.2))) H' s' ∧ tn i s'.heap ∧ (∀ b ∈ fp, H' b = none) ∧ W i m H' := fun {s' H'} I' nx => by
        obtain ⟨m', hm, w'⟩ := hNx H' nx
        have pin' : ∀ b ∈ fp, ∀ o, s7.heap.get? b = some o → s'.heap.get? b = some o ∧ H' b = none := fun b hb o e =>
          let z := I'.pin (b, o) (List.mem_append_right _ (List.mem_append_right _ (mem_pinsAt hb e)))
          ⟨z.1, z.2.1⟩
        have hl : (wipe σ (own.map (·.2))).length = σ8.length := by rw [← hw8, wipe_length]
        refine ⟨m', hm, i + 1, H', (I'.unpinned (pins := [])).weak hl (fun j v e => ?_), T.keep _ _ _ st7 fun b hb o e => (pin' b hb o e).1, fun b hb => ?_, w'⟩
        · rw [← hw8] at e
          exact (wipe_some e).1
        · obtain ⟨o, e, _⟩ := T.obj _ _ st7 b hb
          exact (pin' b hb o e).2
      cases b with
      | false =>
        simp only [Bool.false_eq_true, if_false] at q9 ⊢
        exact fin I9 q9
      | true =>
        simp only [if_true] at q9 ⊢
        have pr := (pe _ _ tkF).run _ s9 σ8 H9 _ (I9.wish _) q9
        refine wpAny_mono pr (fun z s10 hz => ?_) fun _ _ z => z
        obtain ⟨yv, H10, I10', r10, acc, hD10, hz10, nx⟩ := hz
        have I10 : Inv (X.blk s3 H3 scope ce fp) ([] ++ pinsAt fp s7.heap) σ8 H10 s10 := I10'.wish fun _ _ => False
        exact app_ok (X := X.blk s3 H3 scope ce fp) I10 hD10 hz10 r10 fun s11 I11 => fin I11 nx
  exact codeAny_compStart_list loop (T.self X.A 0 _ _ _ st4 loop)
end
end L2

end

section
set_option maxRecDepth 100000
set_option maxHeartbeats 4000000
/-! rules of tuples: enumerate, count -/
namespace SwA
open PySem PySem.Spec PyProof.Rows L2
section
variable {X : Cx}
/-! ### t.count(k) of a tuple of ints -/
def rCntT (K : PySem.W.Frag) : V → List V → Hp → VK → Prop := fun x xs H Q => ∃ (p : Addr) (ns : List Int) (k : Int), x = .ref p ∧ xs = [.int k] ∧ SqT K H p (ns.map V.int) ∧ Q (.int (ns.count k : Nat)) H
theorem mt_tcount : MtR X "tuple.count" (rCntT X.K) := by
  intro pins s σ H x xs v us Q I rx rxs h
  obtain ⟨p, ns, k, rfl, rfl, hs, q⟩ := h
  cases rx
  obtain ⟨u, rfl, ru⟩ := rxs.one
  obtain ⟨t, rfl⟩ := ru
  obtain ⟨its, rv, ⟨⟨cls, dd, data, sl⟩, ho, hc, n, hd⟩, hlen⟩ := I.tuple hs
  simp only at hc hd
  subst hc hd
  have hi := ints_of_vals rv
  refine call_meets PySem.F.slot_tuple_count ⟨_, ho, rfl⟩ PySem.F.entry_tuple_count (PySem.F.args_tuple_count_2 _ _)
    (SeqAt.tuple_countAt p its.toArray n dd sl (.int k t) (eqk k)) ⟨ho, fun y hy => (eqk_gives hi y (by simpa using hy)).at _ _, ?_⟩
  have ec : its.toArray.toList.countP (eqk k) = ns.count k := eqk_count hi
  refine ⟨.int (ns.count k : Nat), H, I.tok _, ⟨s.toks, ?_⟩, q⟩
  show Value.int ((its.toArray.toList.countP (eqk k) : Nat) : Int) s.toks = Value.int ((ns.count k : Nat) : Int) s.toks
  rw [ec]
end
/-! ### enumerate(t) of a tuple -/
open AutoSeq1 (wpAny_loadPart') in
theorem meets_enumerate_newT (l : Addr) (items : Array Value) :
    Meets (Builtin.«enumerate.__new__» ⟨[.type "enumerate", .ref l], []⟩) (fun _ R s => s.heap.IsTuple l items ∧
      R (.ok (.ret (.ref (s.heap.push { cls := .type "tuple_iterator", data := .fields #[.ref l, .int 0 0] }).objs.size)))
        { s with heap := (s.heap.push { cls := .type "tuple_iterator", data := .fields #[.ref l, .int 0 0] }).push { cls := .type "enumerate", data := .fields #[.none, .bool false, .ref s.heap.objs.size, rawInt 0, .none, .none] } }) :=
  .of_wp fun prog w A R s h => by
    obtain ⟨hp, g, d, tk, os⟩ := s; obtain ⟨hL, h⟩ := h
    have hsub := sub_enumerate
    have q1 : ∀ {A' : Around} {E : Value → Shared → Prop} {Q : Value → Shared → Prop}, Q (.ref hp.objs.size) ⟨hp.push { cls := .type "tuple_iterator", data := .fields #[.ref l, .int 0 0] }, g, d, tk, os⟩ → wpAny (model prog w) A' (pyIter (.ref l)) Q E ⟨hp, g, d, tk, os⟩ :=
      fun q => wpAny_pyIter_tuple hL q
    wp_walk using q1
    refine wpAny_stack_any fun st => wpAny_pure ?_
    split
    · rename_i c _ _ _ _ _
      cases (c == Value.type "enumerate")
      · wp_walk using q1
        exact ⟨_, rfl, h⟩
      · wp_walk using q1
        exact ⟨_, rfl, h⟩
    · wp_walk using q1
      exact ⟨_, rfl, h⟩
theorem call_enumerate_tuple {prog : Program} {w : World} {A : Around} {E : Value → Shared → Prop} {s : Shared} {l : Addr} {items : Array Value} {Q : Value → Shared → Prop} (hL : s.heap.IsTuple l items)
    (h : ∀ h', IsEnum h' (s.heap.objs.size + 1) s.heap.objs.size 0 .none → h'.IsTupleIter s.heap.objs.size l 0 → h'.objs.size = s.heap.objs.size + 2 →
      (∀ b o, s.heap.get? b = some o → h'.get? b = some o) → Q (.ref (s.heap.objs.size + 1)) { s with heap := h' }) :
    wpAny (model prog w) A (call (.type "enumerate") [.ref l]) Q E s := by
  refine callType_new F.called_enumerate (by decide) (F.typeCall_enumerate_1 _) (F.newCall_enumerate_1 _) (fun obj => F.args_object_init_2 obj _) F.entry_enumerate_new
    (meets_enumerate_newT l items) ⟨hL, ?_⟩
  have hz : (s.heap.push { cls := .type "tuple_iterator", data := .fields #[.ref l, .int 0 0] }).objs.size = s.heap.objs.size + 1 := Heap.size_push ..
  show _ ∧ _
  rw [hz]
  have he : IsEnum ((s.heap.push { cls := .type "tuple_iterator", data := .fields #[.ref l, .int 0 0] }).push
      { cls := .type "enumerate", data := .fields #[.none, .bool false, .ref s.heap.objs.size, rawInt 0, .none, .none] }) (s.heap.objs.size + 1) s.heap.objs.size 0 .none := by
    have := Heap.get?_push_size (s.heap.push { cls := .type "tuple_iterator", data := .fields #[.ref l, .int 0 0] })
      (o := { cls := .type "enumerate", data := .fields #[.none, .bool false, .ref s.heap.objs.size, rawInt 0, .none, .none] }) rfl
    rw [hz] at this; exact this
  refine ⟨⟨_, he, rfl⟩, h _ he ⟨_, Heap.get?_push_of_some _ (Heap.get?_push_size _ rfl), rfl, rfl⟩ (by rw [Heap.size_push, hz]) fun b o x => Heap.get?_push_of_some _ (Heap.get?_push_of_some _ x)⟩
/-- the tuple at a, each item in a new pair -/
def ItET (K : PySem.W.Frag) (a : Addr) : It :=
  ⟨fun i H => ∃ (xs : List V) (x : V), SqT K H a xs ∧ xs[i]? = some x, fun i H v H' => ∃ T x, v = .ref T ∧ H T = none ∧ H' = upd H T (.tup [.int (i : Nat), x]) ∧ ∀ xs, SqT K H a xs → xs[i]? = some x, fun i H => ∃ xs : List V, SqT K H a xs ∧ xs.length = i⟩
theorem turn_enumT {P : Program} {w : World} {K : PySem.W.Frag} {elts : List Expr} {kk : Nat} {tpos : Pos} (a e it : Addr) (hai : a ≠ it) (hae : a ≠ e) :
    Turn P w K (.Tuple elts kk tpos) (ItET K a) [e, it] e (fun i h => (∃ old, IsEnum h e it ((i : Nat) : Int) old) ∧ h.IsTupleIter it a i ∧ e ≠ it) where
  mem := by simp
  obj := fun i h st b hb => by
    obtain ⟨⟨old, he⟩, ⟨o, ho, hc, hd⟩, _⟩ := st
    have e' : b = e ∨ b = it := by simpa using hb
    rcases e' with z | z
    · rw [z]; exact ⟨_, he, fun v q => nomatch q⟩
    · rw [z]; exact ⟨o, ho, fun v q => by rw [hd] at q; cases q⟩
  keep := fun i h h' st k => let ⟨⟨old, he⟩, hi, hne⟩ := st; ⟨⟨old, k e (by simp) _ he⟩, hi.at fun o q => k it (by simp) o q, hne⟩
  item := by
    intro X hP hw hK hc i pins s σ H E I hf st hg
    subst hP hw hK
    obtain ⟨⟨old, he⟩, hit, hne⟩ := st
    obtain ⟨xs, x, hq, hx⟩ := hg
    obtain ⟨its, rv, p, hz⟩ := I.tuple hq
    obtain ⟨u, hu, ru⟩ := rv.get hx
    have hel : e < s.heap.objs.size := Heap.lt_size he
    have hil : it < s.heap.objs.size := by obtain ⟨_, q, _⟩ := hit; exact Heap.lt_size q
    have hui : i < its.toArray.size := by rw [List.size_toArray]; exact (List.getElem?_eq_some_iff.mp hu).1
    have D := Draws.tuple (prog := X.prog) (w := X.w) (A := X.A.in1) (I.ok.hd hc) it a hai its.toArray
    refine wpAny_pyNext_enum_itemD D he ⟨hit, p⟩ hui hne (by simp; exact ⟨hne, fun z => hae z.symm⟩) fun y h' tk hy ho hit' hT hsz hk => ?_
    have ey : y = u := by
      have e1 : its.toArray[i]? = some u := by simpa using hu
      rw [e1] at hy
      exact (Option.some.inj hy).symm
    subst ey
    refine ⟨_, rfl, wpAny_letOwnedTupleGo_enum (s := { s with heap := h', toks := tk + 1 }) ho fun h'' he' sb => ?_⟩
    have hT2 : h''.get? s.heap.objs.size = some { cls := .type "tuple", data := .seq #[.int i tk, y] } := (sb.2 _ (Nat.ne_of_gt hel)).trans hT
    have new : ObjOk X.prog X.w (upd H s.heap.objs.size (.tup [.int (i : Nat), x])) h'' s.heap.objs.size (.tup [.int (i : Nat), x]) :=
      ⟨by show 2 ≤ sizeLine; decide, [.int i tk, y], .cons ⟨_, rfl⟩ (.cons ru .nil), ⟨_, hT2, rfl, _, rfl⟩⟩
    have I1 : Inv X pins σ (upd H s.heap.objs.size (.tup [.int (i : Nat), x])) { s with heap := h'', toks := tk + 1 } :=
      I.turnedNew (ch := [e, it]) (fun b ob hb q => (sb.2 b (fun z => hb (by simp [z]))).trans (hk b ob (fun z => hb (by simp [z])) (fun z => hb (by simp [z])) q)) hf (Nat.le_refl _) new
    refine ⟨.ref s.heap.objs.size, _, I1, rfl, ⟨_, x, rfl, I.hok.fresh (Nat.le_refl _), rfl, fun ys hy => by rw [I.tuple_inj hy hq]; exact hx⟩, ⟨⟨y, ?_⟩, hit'.1.at fun o q => (sb.2 it (Ne.symm hne)).trans q, hne⟩, fun b hb => ?_⟩
    · have e1 : ((i + 1 : Nat) : Int) = (i : Int) + 1 := by omega
      rw [e1]; exact he'
    · have hb' : b < s.heap.objs.size := by
        have e' : b = e ∨ b = it := by simpa using hb
        rcases e' with z | z
        · rw [z]; exact hel
        · rw [z]; exact hil
      rw [upd_ne (Nat.ne_of_lt hb')]
      exact (hf b hb).1
  done := by
    intro X hP hw hK hc i pins s σ H E I hf st hg
    subst hP hw hK
    obtain ⟨⟨old, he⟩, hit, hne⟩ := st
    obtain ⟨xs, hq, hx⟩ := hg
    obtain ⟨its, rv, p, hz⟩ := I.tuple hq
    obtain ⟨f0, f1, f2, f3, f4, f5⟩ := hf it (by simp)
    have hl := rv.length
    have D := Draws.tuple (prog := X.prog) (w := X.w) (A := X.A.in1) (I.ok.hd hc) it a hai its.toArray
    have ei : its.toArray.size = i := by rw [List.size_toArray]; omega
    exact wpAny_pyNext_enum_endD D he ⟨by rw [ei]; exact hit, p⟩ fun h' eb => ⟨rfl, I.turned (t' := s.toks) (fun b o hb q => eb b o hb q) f0 f1 f3 f4 f5⟩
  self := fun A i s Q E st h => let ⟨⟨_, he⟩, _⟩ := st; wpAny_pyIter_enum he h
def iEnumT (K : PySem.W.Frag) (ta : TA) : TI := fun σ H R => ta σ H fun vs H1 => ∃ a xs, vs = [.ref a] ∧ SqT K H1 a xs ∧ R (ItET K a) H1
theorem pi_enumT {X : Cx} {e : Expr} {ta : TA} {p pos tpos : Pos} {elts : List Expr} {kk : Nat} (hg : Gl X "enumerate") (hm : X.mg "enumerate" = none) (ha : PA X [e] ta) (hs : starEach [e] X.env = [(false, eval e X.env)] := by rfl) :
    PI X (.Tuple elts kk tpos) (.Call (.Name "enumerate" p) [e] [] pos) (iEnumT X.K ta) := by
  refine ⟨fun pins s σ H R I h => ?_⟩
  refine Call_ (ld_blt I hg hm boot_enumerate (PyProof.Rows.callWith_type1 (thn (ha.run pos pins s σ H _ I h) fun us s1 ⟨vs, H1, I1, r1, q1⟩ => ?_) hs rfl))
  obtain ⟨a, xs, ex, hq, q⟩ := q1
  subst ex
  cases r1 with
  | cons r rr =>
    cases rr
    cases r
    obtain ⟨its, rv, p', hz⟩ := I1.tuple hq
    have hal : a < s1.heap.objs.size := by obtain ⟨_, z, _⟩ := p'; exact Heap.lt_size z
    refine call_enumerate_tuple (items := its.toArray) p' fun h' he hit hsz hk => wpAny_pyIter_enum he ?_
    have I2 : Inv X pins σ H1 { s1 with heap := h' } := I1.kept (t' := s1.toks) hk
    refine ⟨s1.heap.objs.size + 1, [s1.heap.objs.size + 1, s1.heap.objs.size], _, _, H1, rfl, I2, turn_enumT a (s1.heap.objs.size + 1) s1.heap.objs.size (Nat.ne_of_lt hal) (Nat.ne_of_lt (Nat.lt_succ_of_lt hal)), ⟨⟨.none, he⟩, hit, Nat.succ_ne_self _⟩, fun b hb => ?_, q⟩
    have e' : b = s1.heap.objs.size + 1 ∨ b = s1.heap.objs.size := by simpa using hb
    have hle : s1.heap.objs.size ≤ b := by
      rcases e' with z | z
      · rw [z]; exact Nat.le_add_right _ _
      · rw [z]; exact Nat.le_refl _
    exact I1.fpOk hle (I1.hok.fresh hle)
/-! ### match upon a tuple: a written text ahead, names behind -/
inductive Caps (X : Cx) : List Pattern → List (Str × Nat) → Prop
  | nil : Caps X [] []
  | cons {x : Str} {i : Nat} {p : Pos} {ps : List Pattern} {xs : List (Str × Nat)} (hi : X.N[i]? = some x) (hx : Loc X.env.scope x) (hf : X.fn x = true ∨ X.env.scope.names.lookup x = some .local) (t : Caps X ps xs) :
      Caps X (.MatchAs none (some x) p :: ps) ((x, i) :: xs)
def setAll : L2.St → List (Str × Nat) → List V → L2.St
  | σ, (_, i) :: r, v :: vs => setAll (σ.set i (some v)) r vs
  | σ, _, _ => σ
def capB : List (Str × Nat) → List Value → List (Str × Value)
  | (x, _) :: r, u :: us => (x, u) :: capB r us
  | _, _ => []
theorem matchEach_caps {X : Cx} {M : Model} {A : Around} {E : Value → Shared → Prop} {s : Shared} : ∀ {ps : List Pattern} {xs : List (Str × Nat)} {us : List Value} {Q : Option (List (Str × Value)) → Shared → Prop}, Caps X ps xs → us.length = ps.length → Q (some (capB xs us)) s → wpAny M A (matchEach ps X.env us) Q E s
  | _, _, [], _, .nil, _, h => wpAny_matchEach_nil h
  | _, _, u :: us, Q, .cons hi hx hf t, hl, h => by
    refine wpAny_matchEach_cons (wpAny_matchPattern_Capture ?_)
    refine matchEach_caps t (by simpa using hl) ?_
    exact h
theorem assign_caps {X : Cx} {M : Model} {A : Around} {E : Value → Shared → Prop} (hN : X.N.Nodup) {pins : List (Addr × Obj)} {H : Hp} : ∀ {ps : List Pattern} {xs : List (Str × Nat)} {us : List Value} {vs : List V} {s : Shared} {σ : L2.St} {Q : Unit → Shared → Prop}, Caps X ps xs → us.length = ps.length → Vals vs us → Inv X pins σ H s →
    (∀ s', Inv X pins (setAll σ xs vs) H s' → Q () s') → wpAny M A (assignInOrder ((capB xs us).map fun (n, _) => bindName X.env n) ((capB xs us).map (·.2))) Q E s
  | _, _, [], _, _, _, _, .nil, _, .nil, I, h => wpAny_assignInOrder_none (h _ I)
  | _, _, u :: us, _, s, σ, Q, .cons hi hx hf t, hl, .cons r rr, I, h => by
    refine wpAny_assignInOrder_more ?_
    refine wpAny_bindName (store_ok I hN hi hx r (fun s' I' => ?_) hf)
    exact assign_caps hN t (by simpa using hl) rr I' h
def tCaseQ (K : PySem.W.Frag) (z : Str) (xs : List (Str × Nat)) (tb : TS) (tr : V → TS) : V → TS := fun v D σ H => ∃ a y ys, v = .ref a ∧ SqT K H a (.str y :: ys) ∧
  (y = z ∧ ys.length = xs.length → tb D (setAll σ xs ys) H) ∧ (¬ (y = z ∧ ys.length = xs.length) → tr v D σ H)
theorem Caps.len {X : Cx} : ∀ {ps : List Pattern} {xs : List (Str × Nat)}, Caps X ps xs → ps.length = xs.length
  | _, _, .nil => rfl
  | _, _, .cons _ _ _ t => by simp [t.len]
theorem pms_seq {X : Cx} {z : Str} {k : Nat} {ps : List Pattern} {xs : List (Str × Nat)} {body : List Stmt} {rest : List MatchCase} {tb : TS} {tr : V → TS} {p1 p2 p3 : Pos} (hc : X.calm = true) (hN : X.N.Nodup) (hp : Caps X ps xs) (hb : PSs X body tb) (hr : PMs X rest tr)
    (hstar : ((.MatchValue (.Constant (.str z) k p1) p2 : Pattern) :: ps).findIdx? (·.isStar) = none := by rfl)
    (hwild : (((.MatchValue (.Constant (.str z) k p1) p2 : Pattern) :: ps).all fun p => p.isWildcard || (p.isStar && p.names.isEmpty)) = false := by rfl) :
    PMs X (⟨.MatchSequence (.MatchValue (.Constant (.str z) k p1) p2 :: ps) p3, none, body⟩ :: rest) (tCaseQ X.K z xs tb tr) := by
  refine ⟨fun pins s σ H D v u first I r h => ?_⟩
  obtain ⟨a, y, ys, ev, hs, h1, h2⟩ := h
  subst ev
  cases r
  obtain ⟨its, rv, ht, hz⟩ := I.tuple hs
  have hlen := rv.length
  have hfit : (its.toArray.size : Int) < 2 ^ 63 := by
    rw [sizeLine_eq] at hz
    simp only [List.size_toArray]
    omega
  have hpl := hp.len
  refine wpAny_matchCases_cons ?_
  by_cases e : its.length = ps.length + 1
  · refine matchSeq_tuple_hit ht hfit (by simpa using e) ?_ hstar hwild
    have en : ((.MatchValue (.Constant (.str z) k p1) p2 : Pattern) :: ps).length = its.toArray.size := by simpa using e.symm
    rw [en]
    have I0 : Inv X pins σ H { s with toks := s.toks + 1 + 1 } := I.tok _
    refine unpackItems_tuple (s := { s with toks := s.toks + 1 + 1 }) (I.ok.hd hc) ht fun h' hx => ?_
    have I1 : Inv X pins σ H { s with heap := h', toks := s.toks + 1 + 1 } := I0.kept (t' := s.toks + 1 + 1) fun b o e => hx b o (Nat.ne_of_lt (Heap.lt_size e)) e
    cases rv with
    | @cons _ u0 _ ur r0 rr =>
      obtain ⟨tt, rfl⟩ := r0
      have hur : ur.length = ps.length := by simpa using e
      have hyl : ys.length = xs.length := by
        have := rr.length
        omega
      refine wpAny_matchEach_cons (wpAny_matchPattern_Value ?_)
      refine thn ((pe_str (X := X) (x := z) (j := k) (pos := p1)).run pins _ σ H (fun x H' => x = .str z ∧ H' = H) I1 ⟨rfl, rfl⟩) fun zv s1 ⟨x, H1, I1', rz, ex, eh⟩ => ?_
      subst ex
      subst eh
      refine thn (op_eq pins s1 σ H1 (.str y) (.str z) (.str y tt) zv (fun x H' => x = .bl (decide (V.str y = V.str z)) ∧ H' = H1) I1' ⟨tt, rfl⟩ rz ⟨rfl, rfl, rfl⟩) fun c s2 ⟨x, H2, I2, rc, ex, eh⟩ => ?_
      subst ex
      subst eh
      obtain rfl : c = Value.bool (decide (V.str y = V.str z)) := rc
      refine wpAny_truthy_bool ?_
      by_cases eq : y = z
      · have d : decide (V.str y = V.str z) = true := decide_eq_true (by rw [eq])
        rw [d]
        refine matchEach_caps hp hur ?_
        refine assign_caps hN hp hur rr I2 fun s' I' => ?_
        exact hb.run pins s' _ H2 D I' (h1 ⟨eq, hyl⟩)
      · have d : decide (V.str y = V.str z) = false := decide_eq_false (fun q => eq (V.str.inj q))
        rw [d]
        exact hr.run pins s2 σ H2 D (.ref a) _ false I2 rfl (h2 fun q => eq q.1)
  · refine matchSeq_tuple_miss ht hfit (by simpa using e) ?_ hstar hwild
    refine hr.run pins _ σ H D (.ref a) _ false (I.tok _) rfl (h2 fun q => e ?_)
    have := q.2
    simp only [List.length_cons] at hlen
    omega
/-! ### a tuple with no dict, whose methods can be asked -/
def TupN (H : Hp) (a : Addr) (xs : List V) : Prop := ∃ o : Obj, o.cls = .type "tuple" ∧ o.dict = none ∧ H a = some (.frz o (.tup xs))
theorem TupN.sq {K : PySem.W.Frag} {H : Hp} {a : Addr} {xs : List V} (h : TupN H a xs) : SqT K H a xs := let ⟨o, _, _, e⟩ := h; .inl (.inr ⟨o, e⟩)
theorem TupN.mono {H H' : Hp} {a : Addr} {xs : List V} (s : ∀ o, H a = some (.frz o (.tup xs)) → H' a = some (.frz o (.tup xs))) (h : TupN H a xs) : TupN H' a xs := let ⟨o, c, d, e⟩ := h; ⟨o, c, d, s o e⟩
section
variable {X : Cx} {a : Expr} {ta : TE}
def kTupN (K : PySem.W.Frag) (x : V) (H : Hp) (Q : VK) : Prop := ∃ p xs, x = .ref p ∧ SqL K H p xs ∧ ∀ (q : Addr) (o : Obj), H q = none → o.cls = .type "tuple" → o.dict = none → Q (.ref q) (upd H q (.frz o (.tup xs)))
theorem rl_tupleN (pins : List (Addr × Obj)) (s : Shared) (σ : L2.St) (H : Hp) (x : V) (v : Value) (Q : VK) (I : Inv X pins σ H s) (r : RelV x v) (h : kTupN X.K x H Q) :
    wpAny (model X.prog X.w) X.A (call (.type "tuple") [v]) (EP X pins σ Q) X.xe s := by
  obtain ⟨p, xs, rfl, hs, q⟩ := h
  obtain rfl : v = .ref p := r
  obtain ⟨its, rv, pl, hz⟩ := I.list hs
  refine call_tuple_list pl.isList (fun h' hk => ?_) (by rw [List.size_toArray, ← rv.length]; exact hz)
  have I1 : Inv X pins σ H { s with heap := h' } := I.kept (t' := s.toks) hk
  have ob : (h'.push { cls := .type "tuple", data := .seq its.toArray }).get? h'.objs.size = some { cls := .type "tuple", data := .seq its.toArray } := Heap.get?_push_size _ rfl
  have I2 : Inv X pins σ (upd H h'.objs.size (.frz { cls := .type "tuple", data := .seq its.toArray } (.tup xs))) { s with heap := h'.push { cls := .type "tuple", data := .seq its.toArray } } :=
    I1.laid (t' := s.toks) (fun b o e => Heap.get?_push_of_some _ e) (Nat.le_refl _) (show ObjOk X.prog X.w _ _ _ (.frz _ (.tup xs)) from ⟨ob, hz, its, rv, IsTup.new _ _⟩)
  exact ⟨.ref h'.objs.size, _, I2, rfl, q _ _ (I1.hok.fresh (Nat.le_refl _)) rfl rfl⟩
theorem pe_tupleOfN {p pos : Pos} (hg : Gl X "tuple") (hm : X.mg "tuple" = none) (ha : PE X a ta) (na : starEach [a] X.env = (false, eval a X.env) :: starEach [] X.env := by rfl) :
    PE X (.Call (.Name "tuple" p) [a] [] pos) (tThen ta (kTupN X.K)) := by
  refine ⟨fun pins s σ H Q I h => ?_⟩
  exact Call_ (ld_blt I hg hm boot_tuple (PyProof.Rows.callWith_type1 (one_arg ha I h (fun v s2 x H2 I2 r q => rl_tupleN pins s2 σ H2 x v Q I2 r q) na) na))
variable {o e : Expr} {es : List Expr} {to : TE} {t : TA} {name : Str} {apos cpos : Pos} {id : String} {r : V → List V → Hp → VK → Prop}
def tBMN (r : V → List V → Hp → VK → Prop) (to : TE) (t : TA) : TE := fun σ H Q => to σ H fun x H1 => (∃ p xs, x = .ref p ∧ TupN H1 p xs) ∧ t σ H1 fun xs H2 => r x xs H2 Q
theorem pe_bmN (slot : Slot "tuple" name id) (hty : typeOf (.builtin id) = pure (.type "method_descriptor")) (hm : MtR X id r) (ho : PE X o to) (ha : PA X (e :: es) t)
    (hbase : attributeBase o name X.env (eval o X.env) = eval o X.env := by rfl)
    (hfew : ((backTo cpos (starEach (e :: es) X.env)).all (fun x => !x.1) && (backToKw cpos (keywordEach [] X.env)).all (fun x => x.1.isSome)
      && decide ((e :: es).length + ([] : List Keyword).length + (if ([] : List Keyword).isEmpty then 0 else 1) < 30)) = true := by rfl)
    (hline : (apos.endLine == cpos.line) = true := by rfl) (hs : starEach (e :: es) X.env = (false, eval e X.env) :: starEach es X.env := by rfl) (hplain : (backTo cpos (starEach es X.env)).any (·.1) = false := by rfl) :
    PE X (.Call (.Attribute o name apos) (e :: es) [] cpos) (tBMN r to t) := by
  refine ⟨fun pins s σ H Q I h => ?_⟩
  refine wpAny_Call_method_late hbase hfew hline rfl (thn (ho.run pins s σ H _ I h) fun v s1 ⟨x, H1, I1, r1, ⟨p, xs, ex, tn⟩, q1⟩ => ?_)
  subst ex
  obtain rfl : v = .ref p := r1
  obtain ⟨ob, oc, od, eH⟩ := tn
  obtain ⟨eo, _⟩ := I1.hok p _ eH
  refine ⟨"tuple", id, PySem.F.plainAttrs_tuple, slot, hty, ⟨ob, eo, oc⟩, fun b eb => ?_, ?_⟩
  · cases eb
    exact ⟨ob, eo, od⟩
  have hA := ha.run cpos pins s1 σ H1 _ I1 q1
  rw [hs] at hA ⊢
  refine Calls.callWith_builtin (by show (false || (backTo cpos (starEach es X.env)).any (·.1)) = false; rw [hplain] <;> rfl) (Calls.evalArgs_plain ?_)
  exact thn hA fun us s2 ⟨vs, H2, I2, r2, q2⟩ => hm pins s2 σ H2 (.ref p) vs (.ref p) us Q I2 rfl r2 q2
end
end SwA
namespace SwA
open PySem PySem.Spec PyProof.Rows L2
/-! ### l == [], l != [] -/
section
variable {X : Cx}
def rEqNil (K : PySem.W.Frag) : R2 := fun x y H Q => ∃ a b xs, x = .ref a ∧ y = .ref b ∧ SqL K H a xs ∧ SqL K H b [] ∧ Q (.bl (decide (xs = []))) H
def rNeNil (K : PySem.W.Frag) : R2 := fun x y H Q => ∃ a b xs, x = .ref a ∧ y = .ref b ∧ SqL K H a xs ∧ SqL K H b [] ∧ Q (.bl (!decide (xs = []))) H
theorem op_eqNil (hu : X.A.units < cLine) : OpR X (compareOp .Eq) (rEqNil X.K) := by
  intro pins s σ H x y v u Q I rx ry h
  obtain ⟨a, b, xs, rfl, rfl, ha, hb, q⟩ := h
  cases rx
  cases ry
  obtain ⟨its, rv, p, hz⟩ := I.list ha
  obtain ⟨its2, rv2, p2, hz2⟩ := I.list hb
  cases rv2
  show wpAny _ _ (richCompare .Eq (.ref a) (.ref b)) _ _ _
  cases rv with
  | nil =>
    refine SeqAt.RcAt.lists (e := fun _ => true) p.isList p2.isList rfl hu (fun j h1 h2 => absurd h1 (Nat.not_lt_zero _)) _ _ _ _ ?_
    exact ⟨.bl true, H, I, rfl, q⟩
  | cons r rr =>
    refine SeqAt.RcAt.lists_lengths p.isList p2.isList (by simp) hu _ _ _ _ ?_
    exact ⟨.bl false, H, I, rfl, q⟩
theorem op_neNil (hu : X.A.units < cLine) : OpR X (compareOp .NotEq) (rNeNil X.K) := by
  intro pins s σ H x y v u Q I rx ry h
  obtain ⟨a, b, xs, rfl, rfl, ha, hb, q⟩ := h
  cases rx
  cases ry
  obtain ⟨its, rv, p, hz⟩ := I.list ha
  obtain ⟨its2, rv2, p2, hz2⟩ := I.list hb
  cases rv2
  show wpAny _ _ (richCompare .NotEq (.ref a) (.ref b)) _ _ _
  cases rv with
  | nil =>
    refine SeqAt.RcNeAt.lists (e := fun _ => true) p.isList p2.isList rfl hu (fun j h1 h2 => absurd h1 (Nat.not_lt_zero _)) _ _ _ _ ?_
    exact ⟨.bl false, H, I, rfl, q⟩
  | cons r rr =>
    refine SeqAt.RcNeAt.lists_lengths p.isList p2.isList (by simp) hu _ _ _ _ ?_
    exact ⟨.bl true, H, I, rfl, q⟩
end
theorem hu0 {A : Around} {k : Nat} (hr : Room k A) : A.units < cLine := by
  have := hr.units
  omega
end SwA

end

section
set_option maxRecDepth 100000
set_option maxHeartbeats 4000000
/-! the errors' classes -/
namespace Sw
open PySem PySem.Spec PyProof.Rows L2 SwA
/-- a def of the text, as it stands behind the top -/
abbrev FD (K : PySem.W.Frag) (p : Str × Option Str) (x q : Str) (st : Stmt) : Prop := ∃ fd, FunD K x q (defArgs st) (defBody st) (defScope st) [] [] (He.fAd K p) fd
/-- it keeps a promise -/
def FnE (P : Program) (w : World) (K : PySem.W.Frag) (mg : Str → Option Value) (base : Heap) (CX : CXT) (k : Nat) (p : Str × Option Str) (ps : List Str) (sp : Sp) : Prop :=
  ∃ fd, FnOk P w K mg base CX k (He.fAd K p) fd ps sp ∧ Binds K fd ps [] ∧ PySem.W.keepIn K (.ref (He.fAd K p)) = true
/-- an error's class with an __init__ of its own, its fields -/
structure ExcC (K : PySem.W.Frag) (mg : Str → Option Value) (x : Str) (fields : List Str) : Prop where
  g : mg x = some (.ref (He.ga K x))
  o : OexC K (He.ga K x)
  i : PySem.W.findIn K (.ref (He.ga K x)) "__init__" = some (some (.ref (He.ma K (He.ga K x) "__init__")))
  t : PySem.W.typeIn K (.ref (He.ma K (He.ga K x) "__init__")) = some (.type "function")
  n : ∀ f ∈ fields, PySem.W.findIn K (.ref (He.ga K x)) f = some none
theorem excCB_ok {K : PySem.W.Frag} {h : Heap} {mg : Str → Option Value} (X : K.In h) (G : h.Ns mainGlobals mg) {x : Str} {fields : List Str} (c : excCB K x fields = true) : ExcC K mg x fields := by
  obtain ⟨c1, c⟩ := He.ba c
  obtain ⟨c2, c⟩ := He.ba c
  obtain ⟨c3, c⟩ := He.ba c
  obtain ⟨c4, c5⟩ := He.ba c
  exact ⟨He.glo_ok X G c1, oexB_ok c2, He.eqO_ok c3, of_decide_eq_true c4, fun f hf => He.eqO_ok (List.all_eq_true.mp c5 f hf)⟩
/-- SweepError, whose __init__ is ValueError's -/
structure BaseT (K : PySem.W.Frag) (mg : Str → Option Value) : Prop where
  g : mg "SweepError" = some (.ref (He.ga K "SweepError"))
  cr : ClX.CRead K (He.ga K "SweepError") (.type "type")
  vv : PySem.W.findCls K (.ref (He.ga K "SweepError")) (.type "type") "__init__" = some (.val (.builtin "ValueError.__init__"))
structure ErrT (K : PySem.W.Frag) (mg : Str → Option Value) : Prop where
  base : BaseT K mg
  syn : ExcC K mg "SyntaxFault" ["line", "column"]
  d_syn : FD K ("SyntaxFault", some "__init__") "__init__" "SyntaxFault.__init__" s_SyntaxFault_init
section
variable {P : Program} {w : World} {K : PySem.W.Frag} {mg : Str → Option Value} {base : Heap}
theorem sc_syn : FnScope ["self", "line", "column"] ["self", "line", "column"] (defScope s_SyntaxFault_init) := ⟨rfl, rfl, rfl, by decide +kernel, rfl, by decide +kernel, by decide +kernel⟩
theorem ok_syn (T : ErrT K mg) : FnE P w K mg base CX0 1 ("SyntaxFault", some "__init__") ["self", "line", "column"] (spFault (He.ga K "SyntaxFault") ["line", "column"]) := by
  obtain ⟨fd, F⟩ := T.d_syn
  refine ⟨fd, F.ok sc_syn (fun vs H Q E h => ?_) (fun cdv A outer s H vs Q E hr h => ?_), F.bindsN fun _ _ _ _ _ _ us hl => match us, hl with | [_, _, _], _ => rfl, F.kp⟩
  · obtain ⟨a, args, rfl, e, _⟩ := h
    simp [e]
  · obtain ⟨a, args, rfl, e, ha, k⟩ := h
    obtain ⟨v1, v2, rfl⟩ : ∃ v1 v2, args = [v1, v2] := by
      match args, e with
      | [v1, v2], _ => exact ⟨v1, v2, rfl⟩
    refine ⟨_, PSs.nox (pss_cons (ps_expr (pe_ownveinit rfl T.base.g T.base.cr T.base.vv (pa_cons (pv 0) (pa_cons (pv 1) (pa_cons (pv 2) pa_nil)))))
      (pss_cons (ps_ost (pv 0) (pv 1)) (pss_one (ps_ost (pv 0) (pv 2))))), ?_⟩
    refine ⟨_, rfl, _, rfl, _, rfl, a, _, _, rfl, by simp, T.syn.o, ha, ?_⟩
    refine ⟨_, rfl, _, rfl, a, _, rfl, T.syn.o, T.syn.n _ (by simp), Or.inl ⟨ha, fun dx ndx da => ?_⟩⟩
    refine ⟨_, rfl, _, rfl, a, _, rfl, T.syn.o, T.syn.n _ (by simp), Or.inr ⟨dx, _, upd_same, by rw [upd_ne da, upd_same], by simp, ?_⟩⟩
    exact k dx _ ndx da (by rw [upd_ne (Ne.symm da), upd_same]) upd_same fun b h1 h2 => by rw [upd_ne h2, upd_ne h1, upd_ne h2]
end
end Sw

end

section
set_option maxRecDepth 100000
set_option maxHeartbeats 4000000
/-! the lexer, walked -/
namespace Sw
open PySem PySem.Spec PyProof.Rows L2 SwA
/-- a class whose __init__ stores its arguments -/
structure MkC (K : PySem.W.Frag) (mg : Str → Option Value) (x : Str) (fields : List Str) : Prop where
  g : mg x = some (.ref (He.ga K x))
  m : Mk K (He.ga K x) (He.ma K (He.ga K x) "__init__")
  c : Cls K (He.ga K x)
  n : ∀ f ∈ fields, NoAttr K (He.ga K x) f
theorem mkCB_ok {K : PySem.W.Frag} {h : Heap} {mg : Str → Option Value} (X : K.In h) (G : h.Ns mainGlobals mg) {x : Str} {fields : List Str} (c : mkCB K x fields = true) : MkC K mg x fields := by
  obtain ⟨c1, c⟩ := He.ba c
  obtain ⟨c2, c⟩ := He.ba c
  obtain ⟨c3, c4⟩ := He.ba c
  exact ⟨He.glo_ok X G c1, He.mkr_ok c2, He.cls_ok c3, fun f hf => He.noat_ok (List.all_eq_true.mp c4 f hf)⟩
structure LexT (K : PySem.W.Frag) (mg : Str → Option Value) : Prop where
  e : ErrT K mg
  len : mg "len" = none
  enumerate : mg "enumerate" = none
  tok : MkC K mg "Token" tokF
  d_tok : FD K ("Token", some "__init__") "__init__" "Token.__init__" s_Token_init
  d_run_end : FD K ("run_end", none) "run_end" "run_end" s_run_end
  g_run_end : mg "run_end" = some (.ref (He.ga K "run_end"))
  d_read_token : FD K ("read_token", none) "read_token" "read_token" s_read_token
  g_read_token : mg "read_token" = some (.ref (He.ga K "read_token"))
  d_tokenize : FD K ("tokenize", none) "tokenize" "tokenize" s_tokenize
  g_tokenize : mg "tokenize" = some (.ref (He.ga K "tokenize"))
  SIGNS : ∃ t, mg "SIGNS" = some (.str ";" t)
  DIGITS : ∃ t, mg "DIGITS" = some (.str "0123456789" t)
  LETTERS : ∃ t, mg "LETTERS" = some (.str "abcdefghijklmnopqrstuvwxyz" t)
  SPACES : ∃ t, mg "SPACES" = some (.str " \n" t)
  SIGN : ∃ t, mg "SIGN" = some (.str "sign" t)
  NUMBER : ∃ t, mg "NUMBER" = some (.str "number" t)
  KEYWORD : ∃ t, mg "KEYWORD" = some (.str "keyword" t)
  NAME : ∃ t, mg "NAME" = some (.str "name" t)
  END : ∃ t, mg "END" = some (.str "end" t)
  MAX_DIGITS : ∃ t, mg "MAX_DIGITS" = some (.int 2 t)
  MAX_LETTERS : ∃ t, mg nMaxLetters = some (.int 8 t)
  KEYWORDS : mg "KEYWORDS" = some (.ref (He.ga K "KEYWORDS"))
  kws : ∀ H : Hp, SqT K H (He.ga K "KEYWORDS") (kws.map fun w => V.str (sx w))
/-- a token's object -/
def TokAt (K : PySem.W.Frag) (H : Hp) (a : Addr) (t : Tk) : Prop := ∃ dx, H a = some (.ins (He.ga K "Token") dx [("kind", .str t.kind.str), ("text", .str (sx t.text)), ("line", .int t.line), ("column", .int t.col)])
def synFs (line col : Nat) : List (Str × V) := [("column", .int col), ("line", .int line)]
/-- a SyntaxFault leaves -/
def Syn (K : PySem.W.Frag) (H : Hp) (E : XK) (line col : Nat) : Prop := ∀ (d : Addr) (H' : Hp), Same H H' → H' d = some (.xd (synFs line col)) → E (.ref (He.ga K "SyntaxFault")) (some d) H'
section
variable {P : Program} {w : World} {K : PySem.W.Frag} {mg : Str → Option Value} {base : Heap}
def spRunEnd : Sp := fun vs H Q _ => ∃ (row : Cs) (s : Nat) (z : Str), vs = [.str (sx row), .int s, .str z] ∧ row.length ≤ 100000 ∧ s ≤ row.length ∧
  Q (.int ((s + ((row.drop s).takeWhile fun c => decide (c ∈ z.cps.toList)).length : Nat) : Int)) H
theorem sc_run_end : FnScope ["row", "start", "letters", "end"] ["row", "start", "letters"] (defScope s_run_end) := ⟨rfl, rfl, rfl, by decide +kernel, rfl, by decide +kernel, by decide +kernel⟩
theorem len_sx (l : Cs) : (sx l).length = l.length := by simp [sx, Str.length]
theorem sz5 {n : Nat} (h : n ≤ 100000) : n ≤ sizeLine := Nat.le_trans h (by decide)
theorem tw_le (p : Nat → Bool) (l : Cs) : (l.takeWhile p).length ≤ l.length := (List.takeWhile_sublist p).length_le
theorem at_sx {l : Cs} {i : Nat} (h : i < l.length) : (sx l).cps[((i : Nat) : Int).toNat]? = some l[i] := by
  rw [Int.toNat_natCast]
  simp [sx, h]
theorem tw_in {p : Nat → Bool} : ∀ {l : Cs} {s i : Nat} (q : i < ((l.drop s).takeWhile p).length) (h : s + i < l.length), p l[s + i] = true
  | [], s, i, q, h => absurd h (by simp)
  | c :: r, 0, i, q, h => by
    rw [List.drop_zero] at q
    cases e : p c with
    | false => rw [List.takeWhile_cons, e] at q; simp at q
    | true =>
      rw [List.takeWhile_cons, e] at q
      cases i with
      | zero => simpa using e
      | succ i =>
        have z := tw_in (p := p) (l := r) (s := 0) (i := i) (by simpa using q) (by simpa using h)
        simpa using z
  | c :: r, s + 1, i, q, h => by
    have h' : s + i < r.length := by simp at h; omega
    have z := tw_in (p := p) (l := r) (s := s) (i := i) (by simpa using q) h'
    have e : s + 1 + i = (s + i) + 1 := by omega
    simp only [e, List.getElem_cons_succ]
    exact z
theorem tw_stop {p : Nat → Bool} : ∀ {l : Cs} {s i : Nat} (q : i = ((l.drop s).takeWhile p).length) (h : s + i < l.length), p l[s + i] = false
  | [], s, i, q, h => absurd h (by simp)
  | c :: r, 0, i, q, h => by
    rw [List.drop_zero] at q
    cases e : p c with
    | false =>
      rw [List.takeWhile_cons, e] at q
      simp at q
      subst q
      simpa using e
    | true =>
      rw [List.takeWhile_cons, e] at q
      simp at q
      subst q
      have z := tw_stop (p := p) (l := r) (s := 0) rfl (by simp at h; simpa using h)
      simpa using z
  | c :: r, s + 1, i, q, h => by
    have h' : s + i < r.length := by simp at h; omega
    have z := tw_stop (p := p) (l := r) (s := s) (i := i) (by simpa using q) h'
    have e : s + 1 + i = (s + i) + 1 := by omega
    simp only [e, List.getElem_cons_succ]
    exact z
theorem ok_run_end (T : LexT K mg) : FnE P w K mg base CX0 1 ("run_end", none) ["row", "start", "letters"] spRunEnd := by
  obtain ⟨fd, F⟩ := T.d_run_end
  refine ⟨fd, F.ok sc_run_end (fun vs H Q E h => ?_) (fun cdv A outer s H vs Q E hr h => ?_), F.bindsN fun _ _ _ _ _ _ us hl => match us, hl with | [_, _, _], _ => rfl, F.kp⟩
  · obtain ⟨row, s, z, rfl, _⟩ := h
    rfl
  · obtain ⟨row, s, z, rfl, hl, hs, k⟩ := h
    refine ⟨_, PSs.nox (pss_cons (ps_set (i := 3) sc_run_end.nd rfl (.inl rfl) (pv 1))
      (pss_cons (ps_while PassesOwn.never (PW.pt (pw_and (pt_cmpR op_lt (pv 3) (pe_callB call_len_str (by rfl) T.len boot_len (pa_cons (pv 0) pa_nil)) (nomark _))
          (pw_and1 (pt_cmpR op_in_sign (pe_item_str (pv 0) (pv 3) (fun _ _ => rfl)) (pv 2) rfl))))
        (pss_one (ps_aug (i := 3) sc_run_end.nd rfl (.inl rfl) pe_int ip_add)))
      (pss_one (ps_ret (pv 3))))), ?_⟩
    refine ⟨_, rfl, ?_⟩
    refine ⟨fun m σ H' => ∃ k : Nat, m + k = ((row.drop s).takeWhile fun c => decide (c ∈ z.cps.toList)).length ∧ H' = H ∧ σ = [some (.str (sx row)), some (.int s), some (.str z), some (.int ((s + k : Nat) : Int))], ⟨_, 0, rfl, rfl, rfl⟩, ?_⟩
    rintro m σ H' ⟨i, hm, rfl, rfl⟩
    refine ⟨_, rfl, _, rfl, _, rfl, by rw [len_sx]; exact sz5 hl, _, _, rfl, rfl, _, rfl, ?_⟩
    refine ite2 (fun h => ?_) (fun h => ?_)
    · have h' : s + i < row.length := by
        have h := of_decide_eq_true h
        rw [len_sx] at h
        omega
      refine ⟨_, rfl, _, rfl, sx row, ((s + i : Nat) : Int), row[s + i], rfl, rfl, by omega, by omega, by rw [len_sx]; omega, ?_, _, rfl, _, _, rfl, rfl, _, rfl, ?_⟩
      · exact at_sx h'
      · refine ite2 (fun h2 => ?_) (fun h2 => ?_)
        · have h2 : decide (row[s + i] ∈ z.cps.toList) = true := h2
          have lt : i < ((row.drop s).takeWhile fun c => decide (c ∈ z.cps.toList)).length := by
            refine Nat.lt_of_le_of_ne (by omega) fun e => ?_
            exact absurd h2 (by rw [tw_stop (p := fun c => decide (c ∈ z.cps.toList)) (l := row) (s := s) (i := i) e h']; exact Bool.false_ne_true)
          refine ⟨_, fun _ _ n => n, _, rfl, _, _, rfl, rfl, m - 1, by omega, i + 1, by omega, rfl, ?_⟩
          simp
          omega
        · have h2 : ¬ decide (row[s + i] ∈ z.cps.toList) = true := h2
          have e : i = ((row.drop s).takeWhile fun c => decide (c ∈ z.cps.toList)).length := by
            refine Nat.le_antisymm (by omega) (Nat.le_of_not_lt fun q => h2 ?_)
            exact tw_in (p := fun c => decide (c ∈ z.cps.toList)) (l := row) (s := s) (i := i) q h'
          refine ⟨_, rfl, ?_⟩
          rw [e]
          exact k
    · have h' : row.length ≤ s + i := by
        have h : ¬ ((s + i : Nat) : Int) < ((sx row).length : Int) := fun q => h (decide_eq_true q)
        rw [len_sx] at h
        omega
      have e : i = ((row.drop s).takeWhile fun c => decide (c ∈ z.cps.toList)).length := by
        have z1 : ((row.drop s).takeWhile fun c => decide (c ∈ z.cps.toList)).length ≤ (row.drop s).length := tw_le _ _
        rw [List.length_drop] at z1
        omega
      refine iteF ⟨_, rfl, ?_⟩
      rw [e]
      exact k
theorem putF_le (f : Str) (v : V) : ∀ fs : List (Str × V), (putF f v fs).length ≤ fs.length + 1
  | [] => by simp [putF]
  | (g, x) :: r => by
    unfold putF
    split
    · simp
    · have := putF_le f v r
      simp only [List.length_cons]
      omega
theorem ln0 : ([] : List (Str × V)).length ≤ 0 := Nat.le_refl 0
theorem lnS {f : Str} {v : V} {fs : List (Str × V)} {n : Nat} (h : fs.length ≤ n) : (putF f v fs).length ≤ n + 1 := Nat.le_trans (putF_le f v fs) (Nat.succ_le_succ h)
theorem lnZ {fs : List (Str × V)} {n : Nat} (h : fs.length ≤ n) (hn : n < 1000 := by decide) : fs.length < 1000 := Nat.lt_of_le_of_lt h hn
theorem sc_tok : FnScope ["self", "kind", "text", "line", "column"] ["self", "kind", "text", "line", "column"] (defScope s_Token_init) := ⟨rfl, rfl, rfl, by decide +kernel, rfl, by decide +kernel, by decide +kernel⟩
theorem put_tok (a b c d : V) : putF "column" d (putF "line" c (putF "text" b (putF "kind" a []))) = ([("kind", a), ("text", b), ("line", c), ("column", d)] : List (Str × V)) := by kernel_rfl
theorem ok_tok (T : LexT K mg) : FnE P w K mg base CX0 1 ("Token", some "__init__") ["self", "kind", "text", "line", "column"] (spInit (He.ga K "Token") tokF) := by
  obtain ⟨fd, F⟩ := T.d_tok
  refine ⟨fd, F.ok sc_tok (fun vs H Q E h => ?_) (fun cdv A outer s H vs Q E hr h => ?_), F.bindsN fun _ _ _ _ _ _ us hl => match us, hl with | [_, _, _, _, _], _ => rfl, F.kp⟩
  · obtain ⟨a, dx, args, rfl, e, _⟩ := h
    simp [e]
  · obtain ⟨p, dx, args, rfl, e, hp, k⟩ := h
    obtain ⟨v1, v2, v3, v4, rfl⟩ : ∃ v1 v2 v3 v4, args = [v1, v2, v3, v4] := by
      match args, e with
      | [v1, v2, v3, v4], _ => exact ⟨v1, v2, v3, v4, rfl⟩
    refine ⟨_, PSs.nox (pss_cons (ps_fld (pv 0) (pv 1) rfl) (pss_cons (ps_fld (pv 0) (pv 2) rfl) (pss_cons (ps_fld (pv 0) (pv 3) rfl) (pss_one (ps_fld (pv 0) (pv 4) rfl))))), ?_⟩
    refine ⟨_, rfl, _, rfl, p, _, dx, _, rfl, hp, T.tok.c, T.tok.n _ (by simp), lnZ ln0, ?_⟩
    refine ⟨_, rfl, _, rfl, p, _, dx, _, rfl, upd_same, T.tok.c, T.tok.n _ (by simp), lnZ (lnS ln0), ?_⟩
    refine ⟨_, rfl, _, rfl, p, _, dx, _, rfl, upd_same, T.tok.c, T.tok.n _ (by simp), lnZ (lnS (lnS ln0)), ?_⟩
    refine ⟨_, rfl, _, rfl, p, _, dx, _, rfl, upd_same, T.tok.c, T.tok.n _ (by simp), lnZ (lnS (lnS (lnS ln0))), ?_⟩
    refine k _ ?_ fun b hb => by rw [upd_ne hb, upd_ne hb, upd_ne hb, upd_ne hb]
    rw [upd_same, put_tok]
    rfl
end
end Sw

end

section
set_option maxRecDepth 100000
set_option maxHeartbeats 4000000
namespace Sw
open PySem PySem.Spec PyProof.Rows L2 SwA
section
variable {P : Program} {w : World} {K : PySem.W.Frag} {mg : Str → Option Value} {base : Heap}
/-! ### texts as codes -/
theorem mem_digits (c : Nat) : decide (c ∈ ("0123456789" : Str).cps.toList) = isD c := by
  have e : ("0123456789" : Str).cps.toList = [48, 49, 50, 51, 52, 53, 54, 55, 56, 57] := by decide +kernel
  rw [e]
  simp only [isD, List.mem_cons, List.not_mem_nil, or_false]
  rw [Bool.eq_iff_iff]
  simp
  omega
theorem mem_letters (c : Nat) : decide (c ∈ ("abcdefghijklmnopqrstuvwxyz" : Str).cps.toList) = isL c := by
  have e : ("abcdefghijklmnopqrstuvwxyz" : Str).cps.toList = [97, 98, 99, 100, 101, 102, 103, 104, 105, 106, 107, 108, 109, 110, 111, 112, 113, 114, 115, 116, 117, 118, 119, 120, 121, 122] := by decide +kernel
  rw [e]
  simp only [isL, List.mem_cons, List.not_mem_nil, or_false]
  rw [Bool.eq_iff_iff]
  simp
  omega
theorem mem_signs (c : Nat) : decide (c ∈ (";" : Str).cps.toList) = decide (c = 59) := by
  have e : (";" : Str).cps.toList = [59] := by decide +kernel
  rw [e]
  simp
theorem mem_spaces (c : Nat) : decide (c ∈ (" \n" : Str).cps.toList) = isS c := by
  have e : (" \n" : Str).cps.toList = [32, 10] := by decide +kernel
  rw [e]
  simp [isS, Bool.decide_or, BEq.beq]
/-- a slice of a row -/
theorem cut_sx {l : Cs} {a n : Nat} (h : a + n ≤ l.length) : cutS (sx l) (some (a : Int)) (some ((a + n : Nat) : Int)) = sx ((l.drop a).take n) := by
  unfold cutS
  rw [HT.sIx_nat, HT.sIx_nat, len_sx, Nat.min_eq_left h, Nat.min_eq_left (by omega : a ≤ l.length), Nat.add_sub_cancel_left]
  rfl
theorem tw_take (p : Nat → Bool) : ∀ l : Cs, l.take (l.takeWhile p).length = l.takeWhile p
  | [] => rfl
  | c :: r => by
    cases e : p c with
    | false => simp [List.takeWhile_cons, e]
    | true => simp [List.takeWhile_cons, e, tw_take p r]
theorem eq_str_sx (a b : Cs) : eqV (V.str (sx a)) (V.str (sx b)) = decide (a = b) := by
  show (sx a == sx b) = decide (a = b)
  rw [Bool.eq_iff_iff, beq_iff_eq, decide_eq_true_iff]
  exact ⟨fun h => sx_inj h, fun h => by rw [h]⟩
theorem inV_sx (a : Cs) (l : List Cs) : inV (V.str (sx a)) (l.map fun w => V.str (sx w)) = decide (a ∈ l) := by
  unfold inV
  induction l with
  | nil => simp
  | cons b r ih =>
    rw [List.map_cons, List.any_cons, ih, eq_str_sx]
    rw [Bool.eq_iff_iff]
    simp only [Bool.or_eq_true, decide_eq_true_eq, List.mem_cons]
    exact or_congr ⟨Eq.symm, Eq.symm⟩ Iff.rfl
theorem flat_sx (l : List Cs) : (l.map fun w => V.str (sx w)).all flatV = true := by
  induction l with
  | nil => rfl
  | cons b r ih => rw [List.map_cons, List.all_cons, ih]; rfl
theorem sign_inj {c d : Nat} {z : Str} (h : (⟨#[c]⟩ : Str) = z) (e : z = ⟨#[d]⟩) : c = d := by
  rw [e] at h
  injection h with h
  injection h with h
  injection h
/-! ### read_token -/
def spReadTok (K : PySem.W.Frag) : Sp := fun vs H Q E => ∃ (row : Cs) (line col : Nat), vs = [.str (sx row), .int line, .int col] ∧ row.length ≤ 100000 ∧ col < row.length ∧
  (∀ t, readTok line col (row.drop col) = some t → ∀ (a : Addr) (H' : Hp), H a = none → Same H H' → TokAt K H' a t → Q (.ref a) H') ∧
  (readTok line col (row.drop col) = none → Syn K H E line col)
theorem sc_read_token : FnScope ["row", "line", "column", "first", "word"] ["row", "line", "column"] (defScope s_read_token) := ⟨rfl, rfl, rfl, by decide +kernel, rfl, by decide +kernel, by decide +kernel⟩
theorem ok_read_token (T : LexT K mg) : FnE P w K mg base (L2.CX P w) 3 ("read_token", none) ["row", "line", "column"] (spReadTok K) := by
  obtain ⟨fd, F⟩ := T.d_read_token
  obtain ⟨fdR, GR, bR, kR⟩ := ok_run_end (P := P) (w := w) (base := base) T
  obtain ⟨fdT, GT, bT, kT⟩ := ok_tok (P := P) (w := w) (base := base) T
  obtain ⟨fdS, GS, bS, kS⟩ := ok_syn (P := P) (w := w) (base := base) T.e
  obtain ⟨t1, mSIGNS⟩ := T.SIGNS
  obtain ⟨t2, mDIGITS⟩ := T.DIGITS
  obtain ⟨t3, mLETTERS⟩ := T.LETTERS
  obtain ⟨t4, mSIGN⟩ := T.SIGN
  obtain ⟨t5, mNUMBER⟩ := T.NUMBER
  obtain ⟨t6, mKEYWORD⟩ := T.KEYWORD
  obtain ⟨t7, mNAME⟩ := T.NAME
  obtain ⟨t8, mMAXD⟩ := T.MAX_DIGITS
  obtain ⟨t9, mMAXL⟩ := T.MAX_LETTERS
  refine ⟨fd, F.ok sc_read_token (fun vs H Q E h => ?_) (fun cdv A outer s H vs Q E hr h => ?_), F.bindsN fun _ _ _ _ _ _ us hl => match us, hl with | [_, _, _], _ => rfl, F.kp⟩
  · obtain ⟨row, line, col, rfl, _⟩ := h
    rfl
  · obtain ⟨row, line, col, rfl, hl, hc, hT, hE⟩ := h
    have hr1 : Room 1 _ := hr.mono (by decide)
    refine ⟨_, (pss_cons (ps_set (i := 3) sc_read_token.nd rfl (.inl rfl) (pe_item_str (pv 0) (pv 2) (fun _ _ => rfl)))
      (pss_cons (ps_if (pt_cmpR op_in_sign (pv 3) (pe_glob (v := .str ";") rfl mSIGNS ⟨_, rfl⟩) rfl)
          (pss_one (ps_ret (pe_make T.tok.m GT hr rfl T.tok.g bT .nil pass0 (pa_cons (pe_glob (v := .str "sign") rfl mSIGN ⟨_, rfl⟩) (pa_cons (pv 3) (pa_cons (pv 1) (pa_cons (pv 2) pa_nil)))))))
          pss_nil)
      (pss_cons (ps_if (pt_cmpR op_in_sign (pv 3) (pe_glob (v := .str "0123456789") rfl mDIGITS ⟨_, rfl⟩) rfl)
          (pss_cons (ps_set (i := 4) sc_read_token.nd rfl (.inl rfl) (pe_slice sl_str (pv 0) (po_some (pv 2)) (po_some (pe_call GR hr1 rfl T.g_run_end kR bR .nil pass0
              (pa_cons (pv 0) (pa_cons (pv 2) (pa_cons (pe_glob (v := .str "0123456789") rfl mDIGITS ⟨_, rfl⟩) pa_nil)))))))
          (pss_cons (ps_if (PW.pt (pw_or (pt_cmpR op_gt (pe_callB call_len_str (by rfl) T.len boot_len (pa_cons (pv 4) pa_nil)) (pe_glob (v := .int 2) rfl mMAXD ⟨_, rfl⟩) (nomark _))
              (pw_or1 (PW.pt (pw_and (pt_cmpR op_gt (pe_callB call_len_str (by rfl) T.len boot_len (pa_cons (pv 4) pa_nil)) pe_int (nomark _)) (pw_and1 (pt_cmpR op_eq (pv 3) pe_str (nomark _))))))))
              (pss_one (ps_raise rfl (takes_of rfl rfl rfl rfl) (pmk_oex T.e.syn.o T.e.syn.i T.e.syn.t GS hr bS .nil pass0 rfl T.e.syn.g (pa_cons (pv 1) (pa_cons (pv 2) pa_nil)))))
              pss_nil)
          (pss_one (ps_ret (pe_make T.tok.m GT hr rfl T.tok.g bT .nil pass0 (pa_cons (pe_glob (v := .str "number") rfl mNUMBER ⟨_, rfl⟩) (pa_cons (pv 4) (pa_cons (pv 1) (pa_cons (pv 2) pa_nil)))))))))
          pss_nil)
      (pss_cons (ps_set (i := 4) sc_read_token.nd rfl (.inl rfl) (pe_slice sl_str (pv 0) (po_some (pv 2)) (po_some (pe_call GR hr1 rfl T.g_run_end kR bR .nil pass0
              (pa_cons (pv 0) (pa_cons (pv 2) (pa_cons (pe_glob (v := .str "abcdefghijklmnopqrstuvwxyz") rfl mLETTERS ⟨_, rfl⟩) pa_nil)))))))
      (pss_cons (ps_if (pt_cmpR op_in_seq (pv 4) (pe_glob (v := .ref (He.ga K "KEYWORDS")) rfl T.KEYWORDS rfl) rfl)
          (pss_one (ps_ret (pe_make T.tok.m GT hr rfl T.tok.g bT .nil pass0 (pa_cons (pe_glob (v := .str "keyword") rfl mKEYWORD ⟨_, rfl⟩) (pa_cons (pv 4) (pa_cons (pv 1) (pa_cons (pv 2) pa_nil)))))))
          pss_nil)
      (pss_cons (ps_if (pt_not (pt_chain op_le op_le pe_int (pe_callB call_len_str (by rfl) T.len boot_len (pa_cons (pv 4) pa_nil)) (pe_glob (v := .int 8) rfl mMAXL ⟨_, rfl⟩)))
          (pss_one (ps_raise rfl (takes_of rfl rfl rfl rfl) (pmk_oex T.e.syn.o T.e.syn.i T.e.syn.t GS hr bS .nil pass0 rfl T.e.syn.g (pa_cons (pv 1) (pa_cons (pv 2) pa_nil)))))
          pss_nil)
      (pss_one (ps_ret (pe_make T.tok.m GT hr rfl T.tok.g bT .nil pass0 (pa_cons (pe_glob (v := .str "name") rfl mNAME ⟨_, rfl⟩) (pa_cons (pv 4) (pa_cons (pv 1) (pa_cons (pv 2) pa_nil))))))))))))), ?_⟩
    have e0 : row.drop col = row[col] :: row.drop (col + 1) := List.drop_eq_getElem_cons hc
    have fin : ∀ (kd : Kd) (tx : Cs) (z : Str), z = kd.str → readTok line col (row.drop col) = some ⟨kd, tx, line, col⟩ → ∀ (x : Addr) (H2 : Hp), H x = none → Same H H2 →
        (∃ dx, H2 x = some (.ins (He.ga K "Token") dx (tokF.zip [.str z, .str (sx tx), .int line, .int col]))) → Q (.ref x) H2 := fun kd tx z ez er x H2 nx sm hx => by
      subst ez
      exact hT _ er x H2 nx sm hx
    have bad : readTok line col (row.drop col) = none → ∀ (d : Addr) (H2 : Hp), H d = none → Same H H2 → H2 d = some (.xd ((["line", "column"] : List Str).zip [V.int line, V.int col]).reverse) → E (.ref (He.ga K "SyntaxFault")) (some d) H2 :=
      fun er d H2 _ sm hx => hE er d H2 sm hx
    refine ⟨_, rfl, _, rfl, sx row, (col : Int), row[col], rfl, rfl, by omega, by omega, by rw [len_sx]; omega, at_sx hc, ?_⟩
    refine ⟨_, rfl, row[col], ";", rfl, rfl, _, rfl, ?_⟩
    refine ite2 (fun h => ?_) (fun h => ?_)
    · -- a sign
      have h1 : row[col] = 59 := by
        have h := h
        rw [mem_signs] at h
        exact of_decide_eq_true h
      refine ⟨_, rfl, _, rfl, _, rfl, mk_at rfl ?_⟩
      have e1 : (⟨#[row[col]]⟩ : Str) = sx [59] := by rw [h1]; rfl
      rw [e1]
      refine fin .sign [59] "sign" rfl ?_
      rw [e0]
      simp [readTok, h1]
    have h1 : row[col] ≠ 59 := by
      have h := h
      rw [mem_signs] at h
      exact fun q => h (decide_eq_true q)
    refine ⟨_, rfl, row[col], "0123456789", rfl, rfl, _, rfl, ?_⟩
    refine ite2 (fun h => ?_) (fun h => ?_)
    · -- a number
      have h2 : isD row[col] = true := by
        have h := h
        rw [mem_digits] at h
        exact h
      have ew : ((row.drop col).takeWhile fun c => decide (c ∈ ("0123456789" : Str).cps.toList)) = (row.drop col).takeWhile isD := by
        congr 1
        exact funext mem_digits
      have hle : col + ((row.drop col).takeWhile isD).length ≤ row.length := by
        have z := tw_le isD (row.drop col)
        rw [List.length_drop] at z
        omega
      refine ⟨_, rfl, _, rfl, _, rfl, _, rfl, _, rfl, row, col, _, rfl, hl, Nat.le_of_lt hc, ?_⟩
      rw [ew]
      refine ⟨_, rfl, sx row, rfl, by rw [len_sx]; exact sz5 hl, ?_⟩
      rw [cut_sx hle, tw_take]
      have hz : (sx ((row.drop col).takeWhile isD)).length ≤ sizeLine := by
        rw [len_sx]
        exact sz5 (by omega)
      refine ⟨_, rfl, _, rfl, hz, _, _, rfl, rfl, _, rfl, ?_⟩
      have rd : readTok line col (row.drop col) = if 2 < ((row.drop col).takeWhile isD).length ∨ (1 < ((row.drop col).takeWhile isD).length ∧ row[col] = 48) then none else some ⟨.number, (row.drop col).takeWhile isD, line, col⟩ := by
        conv => lhs; rw [e0]
        simp only [readTok, if_neg h1, if_pos h2]
        rw [← e0]
      have ok2 : ¬ (2 < ((row.drop col).takeWhile isD).length ∨ (1 < ((row.drop col).takeWhile isD).length ∧ row[col] = 48)) → ∀ (x : Addr) (H2 : Hp), H x = none → Same H H2 →
          (∃ dx, H2 x = some (.ins (He.ga K "Token") dx (tokF.zip [.str "number", .str (sx ((row.drop col).takeWhile isD)), .int line, .int col]))) → Q (.ref x) H2 :=
        fun q => fin .number _ "number" rfl (by rw [rd, if_neg q])
      have bad2 : (2 < ((row.drop col).takeWhile isD).length ∨ (1 < ((row.drop col).takeWhile isD).length ∧ row[col] = 48)) → ∀ (d : Addr) (H2 : Hp), H d = none → Same H H2 → H2 d = some (.xd ((["line", "column"] : List Str).zip [V.int line, V.int col]).reverse) → E (.ref (He.ga K "SyntaxFault")) (some d) H2 :=
        fun q => bad (by rw [rd, if_pos q])
      rw [len_sx]
      refine ite2 (fun h3 => ?_) (fun h3 => ?_)
      · have h3 := of_decide_eq_true h3
        refine iteT ⟨_, rfl, _, rfl, fault_at rfl (by simp) (bad2 (Or.inl (by omega)))⟩
      · have h3 : ¬ (2 : Int) < ((((row.drop col).takeWhile isD).length : Nat) : Int) := fun q => h3 (decide_eq_true q)
        refine ⟨_, rfl, _, rfl, hz, _, _, rfl, rfl, _, rfl, ?_⟩
        rw [len_sx]
        refine ite2 (fun h4 => ?_) (fun h4 => ?_)
        · have h4 := of_decide_eq_true h4
          refine ⟨_, rfl, rfl, _, rfl, ?_⟩
          refine ite2 (fun h5 => ?_) (fun h5 => ?_)
          · have h5 := V.str.inj (of_decide_eq_true h5)
            have h6 : row[col] = 48 := sign_inj h5 (by decide +kernel)
            exact ⟨_, rfl, _, rfl, fault_at rfl (by simp) (bad2 (Or.inr ⟨by omega, h6⟩))⟩
          · have h6 : row[col] ≠ 48 := fun q => h5 (decide_eq_true (by rw [q]; decide +kernel))
            exact ⟨_, rfl, _, rfl, _, rfl, mk_at rfl (ok2 (by
              rintro (q | q)
              · omega
              · exact h6 q.2))⟩
        · have h4 : ¬ (1 : Int) < ((((row.drop col).takeWhile isD).length : Nat) : Int) := fun q => h4 (decide_eq_true q)
          refine iteF ⟨_, rfl, _, rfl, _, rfl, mk_at rfl (ok2 (by
              rintro (q | q)
              · omega
              · omega))⟩
    · -- a word
      have h2 : ¬ isD row[col] = true := by
        have h := h
        rw [mem_digits] at h
        exact h
      have ew : ((row.drop col).takeWhile fun c => decide (c ∈ ("abcdefghijklmnopqrstuvwxyz" : Str).cps.toList)) = (row.drop col).takeWhile isL := by
        congr 1
        exact funext mem_letters
      have hle : col + ((row.drop col).takeWhile isL).length ≤ row.length := by
        have z := tw_le isL (row.drop col)
        rw [List.length_drop] at z
        omega
      have rd : readTok line col (row.drop col) = if (row.drop col).takeWhile isL ∈ kws then some ⟨.keyword, (row.drop col).takeWhile isL, line, col⟩
          else if 1 ≤ ((row.drop col).takeWhile isL).length ∧ ((row.drop col).takeWhile isL).length ≤ 8 then some ⟨.name, (row.drop col).takeWhile isL, line, col⟩ else none := by
        conv => lhs; rw [e0]
        simp only [readTok, if_neg h1, if_neg h2]
        rw [← e0]
      refine ⟨_, rfl, _, rfl, _, rfl, _, rfl, _, rfl, row, col, _, rfl, hl, Nat.le_of_lt hc, ?_⟩
      rw [ew]
      refine ⟨_, rfl, sx row, rfl, by rw [len_sx]; exact sz5 hl, ?_⟩
      rw [cut_sx hle, tw_take]
      have hz : (sx ((row.drop col).takeWhile isL)).length ≤ sizeLine := by
        rw [len_sx]
        exact sz5 (by omega)
      refine ⟨_, rfl, _, _, rfl, Or.inr (T.kws H), rfl, flat_sx kws, _, rfl, ?_⟩
      refine ite2 (fun h3 => ?_) (fun h3 => ?_)
      · have h3 : (row.drop col).takeWhile isL ∈ kws := by
          have h3 : inV (V.str (sx ((row.drop col).takeWhile isL))) (kws.map fun w => V.str (sx w)) = true := h3
          rw [inV_sx] at h3
          exact of_decide_eq_true h3
        exact ⟨_, rfl, _, rfl, _, rfl, mk_at rfl (fin .keyword _ "keyword" rfl (by rw [rd, if_pos h3]))⟩
      · have h3 : ¬ (row.drop col).takeWhile isL ∈ kws := fun q => h3 (by
          show inV (V.str (sx ((row.drop col).takeWhile isL))) (kws.map fun w => V.str (sx w)) = true
          rw [inV_sx]
          exact decide_eq_true q)
        refine ⟨_, rfl, _, rfl, hz, ?_⟩
        rw [len_sx]
        refine ⟨_, _, rfl, rfl, _, rfl, ?_⟩
        refine ite2 (fun h4 => ?_) (fun h4 => ?_)
        · have h4 := of_decide_eq_true h4
          refine ⟨_, _, rfl, rfl, _, rfl, ?_⟩
          refine ite2 (fun h5 => ?_) (fun h5 => ?_)
          · have h5 : ¬ ((((row.drop col).takeWhile isL).length : Nat) : Int) ≤ 8 := fun q => by
              rw [decide_eq_true q] at h5
              exact absurd h5 (by decide)
            exact ⟨_, rfl, _, rfl, fault_at rfl (by simp) (bad (by rw [rd, if_neg h3, if_neg (by omega)]))⟩
          · have h5 : ((((row.drop col).takeWhile isL).length : Nat) : Int) ≤ 8 := Decidable.byContradiction fun q => h5 (by rw [decide_eq_false q]; rfl)
            exact ⟨_, rfl, _, rfl, _, rfl, mk_at rfl (fin .name _ "name" rfl (by rw [rd, if_neg h3, if_pos (by omega)]))⟩
        · have h4 : ¬ (1 : Int) ≤ ((((row.drop col).takeWhile isL).length : Nat) : Int) := fun q => h4 (decide_eq_true q)
          exact ⟨_, rfl, iteT ⟨_, rfl, _, rfl, fault_at rfl (by simp) (bad (by rw [rd, if_neg h3, if_neg (by omega)]))⟩⟩
end
end Sw

end

section
set_option maxRecDepth 100000
set_option maxHeartbeats 4000000
namespace Sw
open PySem PySem.Spec PyProof.Rows L2 SwA
section
variable {P : Program} {w : World} {K : PySem.W.Frag} {mg : Str → Option Value} {base : Heap}
/-! ### the rows -/
theorem split_sx (text : Cs) : Txt.split (sx text) "\n" = (rowsOf text).map sx := by
  refine TL.map_tl_inj ?_
  have e : TL.tl ("\n" : Str) = [10] := by decide +kernel
  rw [TL.split_spl (sx text) "\n" (by rw [e]; simp) (TL.kind_ok (by decide +kernel)), e, List.map_map]
  show rowsOf text = (rowsOf text).map (fun l => l)
  rw [List.map_id']
theorem spl_sum : ∀ (l acc : Cs), ((TL.spl [10] 0 acc l).map List.length).sum ≤ acc.length + l.length
  | [], acc => by simp [TL.spl]
  | c :: r, acc => by
    unfold TL.spl
    split
    · have z := spl_sum r []
      simp only [List.map_cons, List.sum_cons, List.length_cons, List.length_nil] at z ⊢
      have z2 : ((TL.spl [10] (0 + 1 - 1) [] r).map List.length).sum ≤ 0 + r.length := z
      omega
    · have z := spl_sum r (acc ++ [c])
      simp only [List.length_append, List.length_cons, List.length_nil] at z ⊢
      omega
theorem rows_sum (text : Cs) : ((rowsOf text).map List.length).sum ≤ text.length := by
  have z := spl_sum text []
  rw [List.length_nil, Nat.zero_add] at z
  exact z
theorem sum_take : ∀ (l : List Nat) (i : Nat), (l.take i).sum ≤ l.sum
  | [], i => by simp
  | a :: r, 0 => by simp
  | a :: r, i + 1 => by
    have z := sum_take r i
    simp only [List.take_succ_cons, List.sum_cons]
    omega
theorem sum_take_succ {l : List Nat} {i a : Nat} (h : l[i]? = some a) : (l.take (i + 1)).sum = (l.take i).sum + a := by
  rw [List.take_succ, h]
  simp
theorem spl_ne (l acc : Cs) : TL.spl [10] 0 acc l ≠ [] := by
  cases l with
  | nil => simp [TL.spl]
  | cons c r =>
    unfold TL.spl
    split
    · simp
    · exact spl_ne r (acc ++ [c])
theorem spl_len : ∀ (l acc : Cs), (TL.spl [10] 0 acc l).length ≤ l.length + 1
  | [], acc => by simp [TL.spl]
  | c :: r, acc => by
    unfold TL.spl
    split
    · have z := spl_len r []
      have z2 : (TL.spl [10] ([10].length - 1) [] r).length ≤ r.length + 1 := z
      simp only [List.length_cons] at z2 ⊢
      omega
    · have z := spl_len r (acc ++ [c])
      simp only [List.length_cons]
      omega
/-! ### the tokens' objects -/
abbrev TksAt (K : PySem.W.Frag) (H : Hp) (tas : List Addr) (ts : List Tk) : Prop := Paired (fun a t => TokAt K H a t) tas ts
theorem TokAt.same {H H' : Hp} {a : Addr} {t : Tk} (s : Same H H') (h : TokAt K H a t) : TokAt K H' a t := let ⟨dx, e⟩ := h; ⟨dx, s _ _ e⟩
theorem TksAt.same {H H' : Hp} {tas : List Addr} {ts : List Tk} (s : Same H H') (h : TksAt K H tas ts) : TksAt K H' tas ts := Paired.mapP h fun _ _ x => x.same s
theorem TokAt.upd {H : Hp} {a l : Addr} {xs ys : List V} {t : Tk} (hl : H l = some (.lst xs)) (h : TokAt K H a t) : TokAt K (upd H l (.lst ys)) a t := by
  obtain ⟨dx, e⟩ := h
  exact ⟨dx, by rw [upd_ne (ne_of e hl (by intro z; cases z))]; exact e⟩
theorem TksAt.upd {H : Hp} {l : Addr} {xs ys : List V} {tas : List Addr} {ts : List Tk} (hl : H l = some (.lst xs)) (h : TksAt K H tas ts) : TksAt K (L2.upd H l (.lst ys)) tas ts := Paired.mapP h fun _ _ x => x.upd hl
theorem Paired_snoc {α β : Type} {F : α → β → Prop} : ∀ {l : List α} {m : List β} {a : α} {b : β}, Paired F l m → F a b → Paired F (l ++ [a]) (m ++ [b])
  | _, _, _, _, .nil, h => .cons h .nil
  | _, _, _, _, .cons x r, h => .cons x (Paired_snoc r h)
theorem sameUpd {H H' : Hp} {p : Addr} {o : HO} (s : Same H H') (h : H p = none) : Same H (upd H' p o) := fun b u e => by
  rw [upd_ne (ne_of_none e h)]
  exact s b u e
theorem Syn.mono {H H' : Hp} {E : XK} {l c : Nat} (h : Syn K H E l c) (s : Same H H') : Syn K H' E l c := fun d H2 s2 e => h d H2 (s.trans s2) e
theorem lk_text {a b c d : V} : List.lookup ("text" : Str) ([("kind", a), ("text", b), ("line", c), ("column", d)] : List (Str × V)) = some b := by kernel_rfl
theorem lk_kind {a b c d : V} : List.lookup ("kind" : Str) ([("kind", a), ("text", b), ("line", c), ("column", d)] : List (Str × V)) = some a := by kernel_rfl
theorem lk_line {a b c d : V} : List.lookup ("line" : Str) ([("kind", a), ("text", b), ("line", c), ("column", d)] : List (Str × V)) = some c := by kernel_rfl
theorem lk_col {a b c d : V} : List.lookup ("column" : Str) ([("kind", a), ("text", b), ("line", c), ("column", d)] : List (Str × V)) = some d := by kernel_rfl
theorem str_nil : ("" : Str) = sx [] := by decide +kernel
/-! ### tokenize -/
def spTokenize (K : PySem.W.Frag) : Sp := fun vs H Q E => ∃ text : Cs, vs = [.str (sx text)] ∧ text.length ≤ 90000 ∧
  (∀ ts, tokenize text = .ok ts → ∀ (a : Addr) (tas : List Addr) (H' : Hp), H a = none → Same H H' → H' a = some (.lst (tas.map V.ref)) → TksAt K H' tas ts → Q (.ref a) H') ∧
  (∀ l c, tokenize text = .error (l, c) → Syn K H E l c)
theorem sc_tokenize : FnScope ["source", "tokens", "rows", "line", "row", "column", "token"] ["source"] (defScope s_tokenize) := ⟨rfl, rfl, rfl, by decide +kernel, rfl, by decide +kernel, by decide +kernel⟩
/-- what is left of the rows, what is done -/
def RowsInv (rows : List Cs) (i : Nat) (done : List Tk) : Prop :=
  (∀ e, lexRows i (rows.drop i) = .error e → lexRows 0 rows = .error e) ∧ (∀ us, lexRows i (rows.drop i) = .ok us → lexRows 0 rows = .ok (done ++ us))
def RowInv (line : Nat) (row : Cs) (f c : Nat) (done : List Tk) : Prop :=
  (row.drop c).length ≤ f ∧ (∀ e, lexRow line f c (row.drop c) = .error e → lexRow line row.length 0 row = .error e) ∧ (∀ us, lexRow line f c (row.drop c) = .ok us → lexRow line row.length 0 row = .ok (done ++ us))
theorem readTok_len {line col : Nat} {rest : Cs} {t : Tk} (h : readTok line col rest = some t) : 1 ≤ t.text.length ∧ t.text.length ≤ rest.length := by
  unfold readTok at h
  split at h
  · cases h
  · rename_i c r
    split at h
    · cases h; simp
    · split at h
      · rename_i hd
        split at h
        · cases h
        · cases h
          have z := tw_le isD (c :: r)
          refine ⟨?_, z⟩
          simp [List.takeWhile_cons, hd]
      · split at h
        · rename_i hk
          cases h
          refine ⟨?_, tw_le isL (c :: r)⟩
          refine Nat.pos_of_ne_zero fun z => ?_
          have z' : (c :: r).takeWhile isL = [] := List.length_eq_zero_iff.mp z
          rw [z'] at hk
          exact absurd hk (by decide)
        · split at h
          · rename_i hk
            cases h
            exact ⟨hk.1, tw_le isL (c :: r)⟩
          · cases h
theorem ok_tokenize (T : LexT K mg) : FnE P w K mg base (L2.CX P w) 4 ("tokenize", none) ["source"] (spTokenize K) := by
  obtain ⟨fd, F⟩ := T.d_tokenize
  obtain ⟨fdR, GR, bR, kR⟩ := ok_read_token (P := P) (w := w) (base := base) T
  obtain ⟨fdT, GT, bT, kT⟩ := ok_tok (P := P) (w := w) (base := base) T
  obtain ⟨t1, mSPACES⟩ := T.SPACES
  obtain ⟨t2, mEND⟩ := T.END
  refine ⟨fd, F.ok sc_tokenize (fun vs H Q E h => ?_) (fun cdv A outer s H vs Q E hr h => ?_), F.bindsN fun _ _ _ _ _ _ us hl => match us, hl with | [_], _ => rfl, F.kp⟩
  · obtain ⟨text, rfl, _⟩ := h
    rfl
  · obtain ⟨text, rfl, hl, hT, hE⟩ := h
    have hr1 : Room 2 _ := hr.mono (by decide)
    refine ⟨_, (pss_cons (ps_set (i := 1) sc_tokenize.nd rfl (.inl rfl) (pe_lst pa_nil))
      (pss_cons (ps_set (i := 2) sc_tokenize.nd rfl (.inl rfl) (pe_split (pv 0) pe_str))
      (pss_cons (ps_for (passes_of rfl) rfl (pi_enum (by rfl) T.enumerate (pa_cons (pv 2) pa_nil)) (pg_tup rfl (pgs_cons (pg_name (i := 3) sc_tokenize.nd rfl (.inl rfl)) (pgs_cons (pg_name (i := 4) sc_tokenize.nd rfl (.inl rfl)) pgs_nil)))
        (pss_cons (ps_set (i := 5) sc_tokenize.nd rfl (.inl rfl) pe_int)
        (pss_one (ps_while (passes_of rfl) (pt_cmpR op_lt (pv 5) (pe_callB call_len_str (by rfl) T.len boot_len (pa_cons (pv 4) pa_nil)) (nomark _))
          (pss_one (ps_if (pt_cmpR op_in_sign (pe_item_str (pv 4) (pv 5) (fun _ _ => rfl)) (pe_glob (v := .str " \n") rfl mSPACES ⟨_, rfl⟩) rfl)
            (pss_one (ps_aug (i := 5) sc_tokenize.nd rfl (.inl rfl) pe_int ip_add))
            (pss_cons (ps_set (i := 6) sc_tokenize.nd rfl (.inl rfl) (pe_call GR hr rfl T.g_read_token kR bR .nil (passes_call (takes_of rfl rfl rfl rfl) (fun _ _ _ _ h => h)) (pa_cons (pv 4) (pa_cons (pv 3) (pa_cons (pv 5) pa_nil)))))
            (pss_cons (ps_expr (pe_bm PySem.F.plainAttrs_list PySem.F.slot_list_append PySem.F.type_list_append mt_append (pv 1) (pa_cons (pv 6) pa_nil)))
            (pss_one (ps_aug (i := 5) sc_tokenize.nd rfl (.inl rfl) (pe_callB call_len_str (by rfl) T.len boot_len (pa_cons (pe_fld (pv 6) rfl) pa_nil)) ip_add))))))))))
      (pss_one (ps_ret (pe_op op_cat (pv 1) (pe_lst (pa_cons (pe_make T.tok.m GT hr1 rfl T.tok.g bT .nil pass0 (pa_cons (pe_glob (v := .str "end") rfl mEND ⟨_, rfl⟩) (pa_cons pe_str (pa_cons (pe_callB call_len_seq (by rfl) T.len boot_len (pa_cons (pv 2) pa_nil)) (pa_cons pe_int pa_nil))))) pa_nil)))))))), ?_⟩
    refine ⟨by simp, fun tl ntl => ?_⟩
    refine ⟨_, rfl, ⟨_, rfl⟩, sx text, "\n", rfl, rfl, by decide +kernel, by rw [len_sx, sizeLine_eq]; omega, ?_⟩
    rw [split_sx]
    intro rl nrl
    have ntr : rl ≠ tl := by
      rintro rfl
      rw [upd_same] at nrl
      cases nrl
    have nrl' : H rl = none := by
      rw [upd_ne ntr] at nrl
      exact nrl
    refine ⟨_, rfl, rl, _, rfl, SqL.of upd_same, for_it (walk_enum (K := K) (a := rl) (xs := ((rowsOf text).map sx).map V.str)) (fun i σ H' => ∃ (done : List Tk) (tas : List Addr) (o3 o4 o5 o6 : Option V),
        σ = [some (.str (sx text)), some (.ref tl), some (.ref rl), o3, o4, o5, o6] ∧ Same H H' ∧ H' tl = some (.lst (tas.map V.ref)) ∧ H' rl = some (.lst (((rowsOf text).map sx).map V.str)) ∧
        TksAt K H' tas done ∧ done.length ≤ (((rowsOf text).map List.length).take i).sum ∧ RowsInv (rowsOf text) i done) ?_ ?_ ?_ ?_⟩
    · refine ⟨[], [], none, none, none, none, rfl, sameUpd (sameUpd (Same.refl H) ntl) nrl', by rw [upd_ne ntr.symm, upd_same]; rfl, upd_same, .nil, by simp, fun e h => h, fun us h => h⟩
    · rintro i σ H' hi ⟨done, tas, o3, o4, o5, o6, rfl, sm, h1, h2, _⟩
      exact SqL.of h2
    · rintro i x σ H1 H2 hi ⟨done, tas, o3, o4, o5, o6, rfl, sm, h1, h2, htk, hdl, hri⟩ ⟨T0, x1, y1, rfl, nT, rfl, e1, e2⟩
      cases e1
      rw [List.length_map, List.length_map] at hi
      have er : (rowsOf text)[i]? = some (rowsOf text)[i] := List.getElem?_eq_getElem hi
      have ey : y1 = .str (sx (rowsOf text)[i]) := by
        have e2 : (((rowsOf text).map sx).map V.str)[i]? = some y1 := e2
        rw [List.getElem?_map, List.getElem?_map, er] at e2
        exact (Option.some.inj e2).symm
      subst ey
      generalize hrow : (rowsOf text)[i] = row at er
      have hsum : (((rowsOf text).map List.length).take (i + 1)).sum = (((rowsOf text).map List.length).take i).sum + row.length := sum_take_succ (by rw [List.getElem?_map, er]; rfl)
      have htot : (((rowsOf text).map List.length).take (i + 1)).sum ≤ text.length := Nat.le_trans (sum_take _ _) (rows_sum text)
      have hdrop : (rowsOf text).drop i = row :: (rowsOf text).drop (i + 1) := by rw [List.drop_eq_getElem_cons hi, hrow]
      have hlr : row.length ≤ 100000 := by omega
      refine ⟨T0, _, rfl, SqT.of upd_same, rfl, _, _, rfl, _, _, rfl, rfl, ?_⟩
      have g1 : (upd H1 T0 (.tup [.int (i : Nat), .str (sx row)])) tl = some (.lst (tas.map V.ref)) := by rw [upd_ne (ne_of_none h1 nT)]; exact h1
      have g2 : (upd H1 T0 (.tup [.int (i : Nat), .str (sx row)])) rl = some (.lst (((rowsOf text).map sx).map V.str)) := by rw [upd_ne (ne_of_none h2 nT)]; exact h2
      have smT : Same H1 (upd H1 T0 (.tup [.int (i : Nat), .str (sx row)])) := sameUpd (Same.refl H1) nT
      refine ⟨fun m σ H3 => ∃ (c f : Nat) (doneR : List Tk) (tas : List Addr) (o6 : Option V), m + c = row.length ∧ σ = [some (.str (sx text)), some (.ref tl), some (.ref rl), some (.int (i : Nat)), some (.str (sx row)), some (.int (c : Nat)), o6] ∧
        Same H H3 ∧ H3 tl = some (.lst (tas.map V.ref)) ∧ H3 rl = some (.lst (((rowsOf text).map sx).map V.str)) ∧ TksAt K H3 tas (done ++ doneR) ∧ doneR.length ≤ c ∧ RowInv i row f c doneR,
        ⟨row.length, 0, row.length, [], tas, o6, rfl, rfl, sm.trans smT, g1, g2, by rw [List.append_nil]; exact htk.same smT, Nat.le_refl _, by unfold RowInv; rw [List.drop_zero]; exact ⟨Nat.le_refl _, fun e h => h, fun us h => h⟩⟩, ?_⟩
      rintro m σ H3 ⟨c, f, doneR, tas3, o6', hm, rfl, sm3, k1, k2, ktk, kdl, kin⟩
      refine ⟨_, rfl, _, rfl, _, rfl, by rw [len_sx]; exact sz5 hlr, _, _, rfl, rfl, _, rfl, ?_⟩
      refine ite2 (fun h => ?_) (fun h => ?_)
      · have hc : c < row.length := by
          have h := of_decide_eq_true h
          rw [len_sx] at h
          omega
        have e0 : row.drop c = row[c] :: row.drop (c + 1) := List.drop_eq_getElem_cons hc
        obtain ⟨kf, ke, ko⟩ := kin
        obtain ⟨f', rfl⟩ : ∃ f', f = f' + 1 := ⟨f - 1, by rw [e0] at kf; simp at kf; omega⟩
        refine ⟨_, fun _ _ n => n, ?_⟩
        refine ⟨_, rfl, _, rfl, sx row, (c : Int), row[c], rfl, rfl, by omega, by omega, by rw [len_sx]; omega, at_sx hc, row[c], _, rfl, rfl, _, rfl, ?_⟩
        refine ite2 (fun h5 => ?_) (fun h5 => ?_)
        · have h5 : isS row[c] = true := by
            have h5 := h5
            rw [mem_spaces] at h5
            exact h5
          refine ⟨_, rfl, _, _, rfl, rfl, m - 1, by omega, c + 1, f', doneR, tas3, o6', by omega, rfl, sm3, k1, k2, ktk, by omega, ?_⟩
          have es : lexRow i (f' + 1) c (row.drop c) = lexRow i f' (c + 1) (row.drop (c + 1)) := by
            rw [e0]
            simp only [lexRow, if_pos h5]
          refine ⟨?_, fun e q => ke e (by rw [es]; exact q), fun us q => ko us (by rw [es]; exact q)⟩
          rw [e0] at kf
          simp only [List.length_cons] at kf
          omega
        · have h5 : ¬ isS row[c] = true := by
            have h5 := h5
            rw [mem_spaces] at h5
            exact h5
          refine ⟨_, rfl, _, rfl, _, rfl, row, i, c, rfl, hlr, hc, fun t ht a H4 na sm4 hta => ?_, fun hn => ?_⟩
          · have j1 := sm4 _ _ k1
            have j2 := sm4 _ _ k2
            obtain ⟨l1, l2⟩ := readTok_len ht
            rw [List.length_drop] at l2
            have hcount : (tas3.map V.ref).length < sizeLine := by
              rw [List.length_map, ktk.length, List.length_append, sizeLine_eq]
              omega
            obtain ⟨dx, hdx⟩ := hta.upd (ys := tas3.map V.ref ++ [V.ref a]) j1
            refine ⟨_, rfl, .inl ⟨rfl, _, SqL.of j1⟩, _, rfl, tl, _, _, rfl, rfl, j1, hcount, ?_⟩
            refine ⟨_, rfl, _, rfl, a, _, dx, _, _, rfl, hdx, T.tok.c, T.tok.n _ (by simp), lk_text, _, rfl, by rw [len_sx]; exact sz5 (by omega), _, _, rfl, rfl, ?_⟩
            refine ⟨m - t.text.length, by omega, c + t.text.length, f', doneR ++ [t], tas3 ++ [a], _, by omega, by rw [len_sx]; rfl, sameUpd (sm3.trans sm4) ntl, by rw [upd_same, List.map_append]; rfl, by rw [upd_ne ntr]; exact j2, ?_, by simp; omega, ?_⟩
            · rw [← List.append_assoc]
              exact Paired_snoc ((ktk.same sm4).upd j1) ⟨dx, hdx⟩
            · have es : ∀ r, lexRow i f' (c + t.text.length) (row.drop (c + t.text.length)) = r → lexRow i (f' + 1) c (row.drop c) = (match r with | .error e => .error e | .ok ts => .ok (t :: ts)) := by
                intro r q
                have ed : (row[c] :: row.drop (c + 1)).drop t.text.length = row.drop (c + t.text.length) := by rw [← e0, List.drop_drop]
                conv => lhs; rw [e0]
                simp only [lexRow, if_neg h5]
                rw [← e0, ht]
                simp only
                rw [e0, ed, q]
                all_goals (cases r <;> rfl)
              refine ⟨?_, fun e q => ke e (by rw [es _ q]), fun us q => ?_⟩
              · rw [List.length_drop] at kf ⊢
                omega
              · have z := ko (t :: us) (by rw [es _ q])
                rw [z, List.append_assoc]
                rfl
          · have es : lexRow i (f' + 1) c (row.drop c) = .error (i, c) := by
              conv => lhs; rw [e0]
              simp only [lexRow, if_neg h5]
              rw [← e0, hn]
            have z1 := ke _ es
            have z2 : lexRows 0 (rowsOf text) = .error (i, c) := hri.1 _ (by rw [hdrop]; simp only [lexRows, z1])
            exact (hE i c (by simp only [tokenize, z2])).mono sm3
      · have hc : c = row.length := by
          have h : ¬ ((c : Nat) : Int) < ((sx row).length : Int) := fun q => h (decide_eq_true q)
          rw [len_sx] at h
          omega
        obtain ⟨kf, ke, ko⟩ := kin
        have ed : row.drop c = [] := by rw [hc]; exact List.drop_length
        have z1 : lexRow i row.length 0 row = .ok doneR := by
          have z := ko [] (by rw [ed]; cases f <;> rfl)
          rw [z, List.append_nil]
        refine ⟨done ++ doneR, tas3, _, _, _, _, rfl, sm3, k1, k2, ktk, by rw [hsum, List.length_append]; omega, fun e q => hri.1 e ?_, fun us q => ?_⟩
        · rw [hdrop]
          simp only [lexRows, z1, q]
        · have z := hri.2 (doneR ++ us) (by rw [hdrop]; simp only [lexRows, z1, q])
          rw [z, List.append_assoc]
    · rintro σ H1 ⟨done, tas, o3, o4, o5, o6, rfl, sm, h1, h2, htk, hdl, hri⟩
      rw [List.length_map, List.length_map] at hri hdl
      have hlen : (rowsOf text).length ≤ text.length + 1 := spl_len text []
      have hdn : done.length ≤ text.length := Nat.le_trans hdl (Nat.le_trans (sum_take _ _) (rows_sum text))
      have z1 : lexRows 0 (rowsOf text) = .ok done := by
        have z := hri.2 [] (by rw [List.drop_length]; rfl)
        rw [z, List.append_nil]
      refine ⟨_, rfl, _, rfl, rl, _, rfl, .inl (SqL.of h2), ?_⟩
      intro x dx0 nx ndx ne0
      refine init_at (names := tokF) rfl nx ndx fun H5 sm5 hx => ⟨rfl, ?_⟩
      refine ⟨(by show 1 ≤ sizeLine; decide), fun l nl => ?_⟩
      have nlt : tl ≠ l := ne_of_none (sm5 _ _ h1) nl
      refine ⟨tl, l, _, _, rfl, rfl, by rw [upd_ne nlt]; exact sm5 _ _ h1, upd_same, ?_, fun p np => ?_⟩
      · rw [List.length_map, htk.length, sizeLine_eq]
        simp
        omega
      · have npl : p ≠ l := by
          rintro rfl
          rw [upd_same] at np
          cases np
        rw [upd_ne npl] at np
        have s1 : Same H5 (upd (upd H5 l (.lst [.ref x])) p (.lst (tas.map V.ref ++ [.ref x]))) := sameUpd (sameUpd (Same.refl H5) nl) np
        have nH : H p = none := (sm.trans sm5).free np
        refine hT (done ++ [⟨.fin, [], (rowsOf text).length, 0⟩]) (by simp only [tokenize, z1]) p (tas ++ [x]) _ nH ((sm.trans sm5).trans s1) (by rw [upd_same, List.map_append]; rfl) ?_
        refine Paired_snoc (htk.same (sm5.trans s1)) ?_
        obtain ⟨dx, hdx⟩ := hx
        refine ⟨dx, ?_⟩
        rw [s1 _ _ hdx, List.length_map, List.length_map, str_nil]
        rfl
end
end Sw

end

section
set_option maxRecDepth 100000
set_option maxHeartbeats 4000000
/-! the parser's object -/
namespace Sw
open PySem PySem.Spec PyProof.Rows L2 SwA
abbrev sV (w : Cs) : V := .str (sx w)
/-- where the parser's parts stand -/
structure PLoc where
  tl : Addr
  fl : Addr
  sl : Addr
  ml : Addr
  rl : Addr
  rd : Addr
  pd : Addr
  sd : Addr
def parF (L : PLoc) (at_ : Nat) : List (Str × V) := [("tokens", .ref L.tl), ("at", .int at_), ("faults", .ref L.fl), ("signs", .ref L.sl), ("moods", .ref L.ml), ("robots", .ref L.rl), ("rules", .ref L.rd), ("pairs", .ref L.pd), ("spots", .ref L.sd)]
def FaultsAt (H : Hp) : Nat → List Addr → List (Nat × Nat × Cs) → Prop
  | _, [], [] => True
  | i, a :: as, f :: fs => H a = some (.tup [.int f.1, .int f.2.1, .int (i : Nat), sV f.2.2]) ∧ FaultsAt H (i + 1) as fs
  | _, _, _ => False
def keyT (q : Nat × Nat) : List Key := [.inl q.1, .inl q.2]
def RuleAt (H : Hp) (r : (Nat × Nat) × Rule) (kv : List Key × V) : Prop := kv.1 = keyT r.1 ∧ ∃ t, kv.2 = .ref t ∧ H t = some (.tup [.int r.2.left, sV r.2.move, .int r.2.later])
def RulesAt (H : Hp) (rd : Addr) (rules : List ((Nat × Nat) × Rule)) : Prop := ∃ kvs, H rd = some (.dT kvs) ∧ Paired (RuleAt H) rules kvs
def RobAt (H : Hp) (a : Addr) (r : Nat × Bool) : Prop := H a = some (.tup [.int r.1, .bl r.2])
def pairK (q : Cs × Cs) : List Key × V := ([.inr (sx q.1), .inr (sx q.2)], .bl true)
def spotK (q : Nat × Nat) : Key × V := (.inl q.1, .int q.2)
/-- the parser at p: its state -/
structure PA (K : PySem.W.Frag) (H0 H : Hp) (p : Addr) (L : PLoc) (tas : List Addr) (T : List Tk) (st : PSt) : Prop where
  same : Same H0 H
  ob : ∃ dx, H p = some (.ins (He.ga K "Parser") dx (parF L st.at_))
  tk : H L.tl = some (.lst (tas.map V.ref))
  tks : TksAt K H tas T
  fa : ∃ fas : List Addr, H L.fl = some (.lst (fas.map V.ref)) ∧ FaultsAt H 0 fas st.faults
  si : H L.sl = some (.lst (st.signs.map sV))
  mo : H L.ml = some (.lst (st.moods.map sV))
  ro : ∃ ras : List Addr, H L.rl = some (.lst (ras.map V.ref)) ∧ Paired (RobAt H) ras st.robots
  ru : RulesAt H L.rd st.rules
  pr : H L.pd = some (.dT (st.pairs.map pairK))
  sp : H L.sd = some (.dK (st.spots.map spotK))
  nd : [p, L.tl, L.fl, L.sl, L.ml, L.rl, L.rd, L.pd, L.sd].Nodup
  new : ∀ a ∈ [p, L.tl, L.fl, L.sl, L.ml, L.rl, L.rd, L.pd, L.sd], H0 a = none
theorem FaultsAt.mono {H H' : Hp} (s : ∀ a xs, H a = some (.tup xs) → H' a = some (.tup xs)) : ∀ {i : Nat} {as : List Addr} {fs : List (Nat × Nat × Cs)}, FaultsAt H i as fs → FaultsAt H' i as fs
  | _, [], [], h => h
  | _, a :: as, f :: fs, h => ⟨s _ _ h.1, FaultsAt.mono s h.2⟩
  | _, [], _ :: _, h => h.elim
  | _, _ :: _, [], h => h.elim
theorem FaultsAt.snoc {H : Hp} {a : Addr} {f : Nat × Nat × Cs} : ∀ {i : Nat} {as : List Addr} {fs : List (Nat × Nat × Cs)}, FaultsAt H i as fs → H a = some (.tup [.int f.1, .int f.2.1, .int ((i + fs.length : Nat) : Int), sV f.2.2]) → FaultsAt H i (as ++ [a]) (fs ++ [f])
  | _, [], [], _, e => ⟨e, trivial⟩
  | i, b :: as, g :: fs, h, e => ⟨h.1, FaultsAt.snoc h.2 (by
      have z : i + 1 + fs.length = i + (g :: fs).length := by simp only [List.length_cons]; omega
      rw [z]
      exact e)⟩
  | _, [], _ :: _, h, _ => h.elim
  | _, _ :: _, [], h, _ => h.elim
theorem FaultsAt.len {H : Hp} : ∀ {i : Nat} {as : List Addr} {fs : List (Nat × Nat × Cs)}, FaultsAt H i as fs → as.length = fs.length
  | _, [], [], _ => rfl
  | _, a :: as, f :: fs, h => by simp [FaultsAt.len h.2]
  | _, [], _ :: _, h => h.elim
  | _, _ :: _, [], h => h.elim
theorem RuleAt.mono {H H' : Hp} (s : ∀ a xs, H a = some (.tup xs) → H' a = some (.tup xs)) {r : (Nat × Nat) × Rule} {kv : List Key × V} (h : RuleAt H r kv) : RuleAt H' r kv :=
  let ⟨e, t, e1, e2⟩ := h
  ⟨e, t, e1, s _ _ e2⟩
section
variable {K : PySem.W.Frag} {H0 H H' : Hp} {p : Addr} {L : PLoc} {tas : List Addr} {T : List Tk} {st : PSt}
/-- more objects -/
theorem PA.mono (h : PA K H0 H p L tas T st) (s : Same H H') : PA K H0 H' p L tas T st where
  same := h.same.trans s
  ob := let ⟨dx, e⟩ := h.ob; ⟨dx, s _ _ e⟩
  tk := s _ _ h.tk
  tks := h.tks.same s
  fa := let ⟨fas, e1, e2⟩ := h.fa; ⟨fas, s _ _ e1, e2.mono fun _ _ z => s _ _ z⟩
  si := s _ _ h.si
  mo := s _ _ h.mo
  ro := let ⟨ras, e1, e2⟩ := h.ro; ⟨ras, s _ _ e1, Paired.mapP e2 fun _ _ z => s _ _ z⟩
  ru := let ⟨kvs, e1, e2⟩ := h.ru; ⟨kvs, s _ _ e1, Paired.mapP e2 fun _ _ z => z.mono fun _ _ z => s _ _ z⟩
  pr := s _ _ h.pr
  sp := s _ _ h.sp
  nd := h.nd
  new := h.new
/-- what is changed is neither a tuple nor an object of another kind: the rest -/
theorem keepT {x : Addr} {o o' : HO} (hx : H x = some o) (ht : ∀ xs, o ≠ .tup xs) : ∀ a xs, H a = some (.tup xs) → (upd H x o') a = some (.tup xs) := fun a xs e => by
  rw [upd_ne (ne_of e hx fun z => ht xs z.symm)]
  exact e
theorem keepK {x : Addr} {o o' : HO} (hx : H x = some o) (hi : ∀ C d fs, o = .ins C d fs → C ≠ He.ga K "Token") : ∀ a t, TokAt K H a t → TokAt K (upd H x o') a t := fun a t ⟨dx, e⟩ => by
  refine ⟨dx, ?_⟩
  rw [upd_ne (ne_of e hx fun z => hi _ _ _ z.symm rfl)]
  exact e
/-- self.at += 1 -/
theorem PA.setAt (h : PA K H0 H p L tas T st) (hPT : He.ga K "Parser" ≠ He.ga K "Token") {dx : Addr} {n : Nat} (e : H p = some (.ins (He.ga K "Parser") dx (parF L st.at_))) :
    PA K H0 (upd H p (.ins (He.ga K "Parser") dx (parF L n))) p L tas T { st with at_ := n } := by
  have z := h.nd
  simp only [List.nodup_cons, List.mem_cons, List.not_mem_nil, or_false, not_or] at z
  obtain ⟨⟨z1, z2, z3, z4, z5, z6, z7, z8⟩, _⟩ := z
  have kt := keepT (o' := .ins (He.ga K "Parser") dx (parF L n)) e (fun xs q => by cases q)
  have kk := keepK (K := K) (o' := .ins (He.ga K "Parser") dx (parF L n)) e (fun C d fs q => by cases q; exact hPT)
  refine ⟨sameUpd h.same (h.new _ (by simp)), ⟨dx, upd_same⟩, ?_, Paired.mapP h.tks fun a t q => kk a t q, ?_, ?_, ?_, ?_, ?_, ?_, ?_, h.nd, h.new⟩
  · rw [upd_ne (Ne.symm z1)]; exact h.tk
  · obtain ⟨fas, e1, e2⟩ := h.fa
    exact ⟨fas, by rw [upd_ne (Ne.symm z2)]; exact e1, e2.mono kt⟩
  · rw [upd_ne (Ne.symm z3)]; exact h.si
  · rw [upd_ne (Ne.symm z4)]; exact h.mo
  · obtain ⟨ras, e1, e2⟩ := h.ro
    exact ⟨ras, by rw [upd_ne (Ne.symm z5)]; exact e1, Paired.mapP e2 fun _ _ q => kt _ _ q⟩
  · obtain ⟨kvs, e1, e2⟩ := h.ru
    exact ⟨kvs, by rw [upd_ne (Ne.symm z6)]; exact e1, Paired.mapP e2 fun _ _ q => q.mono kt⟩
  · rw [upd_ne (Ne.symm z7)]; exact h.pr
  · rw [upd_ne (Ne.symm z8)]; exact h.sp
theorem PA.set_fl (h : PA K H0 H p L tas T st) {fas fas' : List Addr} {fs : List (Nat × Nat × Cs)} (e : H L.fl = some (.lst (fas.map V.ref))) (hn : FaultsAt (upd H L.fl (.lst (fas'.map V.ref))) 0 fas' fs) : PA K H0 (upd H L.fl (.lst (fas'.map V.ref))) p L tas T { st with faults := fs } := by
  have z := h.nd
  simp only [List.nodup_cons, List.mem_cons, List.not_mem_nil, or_false, not_or] at z
  obtain ⟨⟨n_p_tl, n_p_fl, n_p_sl, n_p_ml, n_p_rl, n_p_rd, n_p_pd, n_p_sd⟩, ⟨n_tl_fl, n_tl_sl, n_tl_ml, n_tl_rl, n_tl_rd, n_tl_pd, n_tl_sd⟩, ⟨n_fl_sl, n_fl_ml, n_fl_rl, n_fl_rd, n_fl_pd, n_fl_sd⟩, ⟨n_sl_ml, n_sl_rl, n_sl_rd, n_sl_pd, n_sl_sd⟩, ⟨n_ml_rl, n_ml_rd, n_ml_pd, n_ml_sd⟩, ⟨n_rl_rd, n_rl_pd, n_rl_sd⟩, ⟨n_rd_pd, n_rd_sd⟩, n_pd_sd, _⟩ := z
  have ne_p : p ≠ L.fl := n_p_fl
  have ne_tl : L.tl ≠ L.fl := n_tl_fl
  have ne_sl : L.sl ≠ L.fl := Ne.symm n_fl_sl
  have ne_ml : L.ml ≠ L.fl := Ne.symm n_fl_ml
  have ne_rl : L.rl ≠ L.fl := Ne.symm n_fl_rl
  have ne_rd : L.rd ≠ L.fl := Ne.symm n_fl_rd
  have ne_pd : L.pd ≠ L.fl := Ne.symm n_fl_pd
  have ne_sd : L.sd ≠ L.fl := Ne.symm n_fl_sd
  have kt := keepT (o' := .lst (fas'.map V.ref)) e (fun xs q => by cases q)
  have kk := keepK (K := K) (o' := .lst (fas'.map V.ref)) e (fun C d fs q => by cases q)
  exact ⟨sameUpd h.same (h.new _ (by simp)), (let ⟨dx, q⟩ := h.ob; ⟨dx, (upd_ne ne_p).trans q⟩), (upd_ne ne_tl).trans h.tk, Paired.mapP h.tks fun a t q => kk a t q,
    ⟨fas', upd_same, hn⟩,
    ((upd_ne (ne_sl)).trans h.si),
    ((upd_ne (ne_ml)).trans h.mo),
    (let ⟨ras, e1, e2⟩ := h.ro; ⟨ras, (upd_ne (ne_rl)).trans e1, Paired.mapP e2 fun _ _ q => kt _ _ q⟩),
    (let ⟨kvs, e1, e2⟩ := h.ru; ⟨kvs, (upd_ne (ne_rd)).trans e1, Paired.mapP e2 fun _ _ q => q.mono kt⟩),
    ((upd_ne (ne_pd)).trans h.pr),
    ((upd_ne (ne_sd)).trans h.sp), h.nd, h.new⟩
theorem PA.set_sl (h : PA K H0 H p L tas T st) {xs : List V} {ws : List Cs} (e : H L.sl = some (.lst xs)) (hn : True) : PA K H0 (upd H L.sl (.lst (ws.map sV))) p L tas T { st with signs := ws } := by
  have z := h.nd
  simp only [List.nodup_cons, List.mem_cons, List.not_mem_nil, or_false, not_or] at z
  obtain ⟨⟨n_p_tl, n_p_fl, n_p_sl, n_p_ml, n_p_rl, n_p_rd, n_p_pd, n_p_sd⟩, ⟨n_tl_fl, n_tl_sl, n_tl_ml, n_tl_rl, n_tl_rd, n_tl_pd, n_tl_sd⟩, ⟨n_fl_sl, n_fl_ml, n_fl_rl, n_fl_rd, n_fl_pd, n_fl_sd⟩, ⟨n_sl_ml, n_sl_rl, n_sl_rd, n_sl_pd, n_sl_sd⟩, ⟨n_ml_rl, n_ml_rd, n_ml_pd, n_ml_sd⟩, ⟨n_rl_rd, n_rl_pd, n_rl_sd⟩, ⟨n_rd_pd, n_rd_sd⟩, n_pd_sd, _⟩ := z
  have ne_p : p ≠ L.sl := n_p_sl
  have ne_tl : L.tl ≠ L.sl := n_tl_sl
  have ne_fl : L.fl ≠ L.sl := n_fl_sl
  have ne_ml : L.ml ≠ L.sl := Ne.symm n_sl_ml
  have ne_rl : L.rl ≠ L.sl := Ne.symm n_sl_rl
  have ne_rd : L.rd ≠ L.sl := Ne.symm n_sl_rd
  have ne_pd : L.pd ≠ L.sl := Ne.symm n_sl_pd
  have ne_sd : L.sd ≠ L.sl := Ne.symm n_sl_sd
  have kt := keepT (o' := .lst (ws.map sV)) e (fun xs q => by cases q)
  have kk := keepK (K := K) (o' := .lst (ws.map sV)) e (fun C d fs q => by cases q)
  exact ⟨sameUpd h.same (h.new _ (by simp)), (let ⟨dx, q⟩ := h.ob; ⟨dx, (upd_ne ne_p).trans q⟩), (upd_ne ne_tl).trans h.tk, Paired.mapP h.tks fun a t q => kk a t q,
    (let ⟨fas, e1, e2⟩ := h.fa; ⟨fas, (upd_ne (ne_fl)).trans e1, e2.mono kt⟩),
    upd_same,
    ((upd_ne (ne_ml)).trans h.mo),
    (let ⟨ras, e1, e2⟩ := h.ro; ⟨ras, (upd_ne (ne_rl)).trans e1, Paired.mapP e2 fun _ _ q => kt _ _ q⟩),
    (let ⟨kvs, e1, e2⟩ := h.ru; ⟨kvs, (upd_ne (ne_rd)).trans e1, Paired.mapP e2 fun _ _ q => q.mono kt⟩),
    ((upd_ne (ne_pd)).trans h.pr),
    ((upd_ne (ne_sd)).trans h.sp), h.nd, h.new⟩
theorem PA.set_ml (h : PA K H0 H p L tas T st) {xs : List V} {ws : List Cs} (e : H L.ml = some (.lst xs)) (hn : True) : PA K H0 (upd H L.ml (.lst (ws.map sV))) p L tas T { st with moods := ws } := by
  have z := h.nd
  simp only [List.nodup_cons, List.mem_cons, List.not_mem_nil, or_false, not_or] at z
  obtain ⟨⟨n_p_tl, n_p_fl, n_p_sl, n_p_ml, n_p_rl, n_p_rd, n_p_pd, n_p_sd⟩, ⟨n_tl_fl, n_tl_sl, n_tl_ml, n_tl_rl, n_tl_rd, n_tl_pd, n_tl_sd⟩, ⟨n_fl_sl, n_fl_ml, n_fl_rl, n_fl_rd, n_fl_pd, n_fl_sd⟩, ⟨n_sl_ml, n_sl_rl, n_sl_rd, n_sl_pd, n_sl_sd⟩, ⟨n_ml_rl, n_ml_rd, n_ml_pd, n_ml_sd⟩, ⟨n_rl_rd, n_rl_pd, n_rl_sd⟩, ⟨n_rd_pd, n_rd_sd⟩, n_pd_sd, _⟩ := z
  have ne_p : p ≠ L.ml := n_p_ml
  have ne_tl : L.tl ≠ L.ml := n_tl_ml
  have ne_fl : L.fl ≠ L.ml := n_fl_ml
  have ne_sl : L.sl ≠ L.ml := n_sl_ml
  have ne_rl : L.rl ≠ L.ml := Ne.symm n_ml_rl
  have ne_rd : L.rd ≠ L.ml := Ne.symm n_ml_rd
  have ne_pd : L.pd ≠ L.ml := Ne.symm n_ml_pd
  have ne_sd : L.sd ≠ L.ml := Ne.symm n_ml_sd
  have kt := keepT (o' := .lst (ws.map sV)) e (fun xs q => by cases q)
  have kk := keepK (K := K) (o' := .lst (ws.map sV)) e (fun C d fs q => by cases q)
  exact ⟨sameUpd h.same (h.new _ (by simp)), (let ⟨dx, q⟩ := h.ob; ⟨dx, (upd_ne ne_p).trans q⟩), (upd_ne ne_tl).trans h.tk, Paired.mapP h.tks fun a t q => kk a t q,
    (let ⟨fas, e1, e2⟩ := h.fa; ⟨fas, (upd_ne (ne_fl)).trans e1, e2.mono kt⟩),
    ((upd_ne (ne_sl)).trans h.si),
    upd_same,
    (let ⟨ras, e1, e2⟩ := h.ro; ⟨ras, (upd_ne (ne_rl)).trans e1, Paired.mapP e2 fun _ _ q => kt _ _ q⟩),
    (let ⟨kvs, e1, e2⟩ := h.ru; ⟨kvs, (upd_ne (ne_rd)).trans e1, Paired.mapP e2 fun _ _ q => q.mono kt⟩),
    ((upd_ne (ne_pd)).trans h.pr),
    ((upd_ne (ne_sd)).trans h.sp), h.nd, h.new⟩
theorem PA.set_rl (h : PA K H0 H p L tas T st) {xs : List V} {ras : List Addr} {rs : List (Nat × Bool)} (e : H L.rl = some (.lst xs)) (hn : Paired (RobAt (upd H L.rl (.lst (ras.map V.ref)))) ras rs) : PA K H0 (upd H L.rl (.lst (ras.map V.ref))) p L tas T { st with robots := rs } := by
  have z := h.nd
  simp only [List.nodup_cons, List.mem_cons, List.not_mem_nil, or_false, not_or] at z
  obtain ⟨⟨n_p_tl, n_p_fl, n_p_sl, n_p_ml, n_p_rl, n_p_rd, n_p_pd, n_p_sd⟩, ⟨n_tl_fl, n_tl_sl, n_tl_ml, n_tl_rl, n_tl_rd, n_tl_pd, n_tl_sd⟩, ⟨n_fl_sl, n_fl_ml, n_fl_rl, n_fl_rd, n_fl_pd, n_fl_sd⟩, ⟨n_sl_ml, n_sl_rl, n_sl_rd, n_sl_pd, n_sl_sd⟩, ⟨n_ml_rl, n_ml_rd, n_ml_pd, n_ml_sd⟩, ⟨n_rl_rd, n_rl_pd, n_rl_sd⟩, ⟨n_rd_pd, n_rd_sd⟩, n_pd_sd, _⟩ := z
  have ne_p : p ≠ L.rl := n_p_rl
  have ne_tl : L.tl ≠ L.rl := n_tl_rl
  have ne_fl : L.fl ≠ L.rl := n_fl_rl
  have ne_sl : L.sl ≠ L.rl := n_sl_rl
  have ne_ml : L.ml ≠ L.rl := n_ml_rl
  have ne_rd : L.rd ≠ L.rl := Ne.symm n_rl_rd
  have ne_pd : L.pd ≠ L.rl := Ne.symm n_rl_pd
  have ne_sd : L.sd ≠ L.rl := Ne.symm n_rl_sd
  have kt := keepT (o' := .lst (ras.map V.ref)) e (fun xs q => by cases q)
  have kk := keepK (K := K) (o' := .lst (ras.map V.ref)) e (fun C d fs q => by cases q)
  exact ⟨sameUpd h.same (h.new _ (by simp)), (let ⟨dx, q⟩ := h.ob; ⟨dx, (upd_ne ne_p).trans q⟩), (upd_ne ne_tl).trans h.tk, Paired.mapP h.tks fun a t q => kk a t q,
    (let ⟨fas, e1, e2⟩ := h.fa; ⟨fas, (upd_ne (ne_fl)).trans e1, e2.mono kt⟩),
    ((upd_ne (ne_sl)).trans h.si),
    ((upd_ne (ne_ml)).trans h.mo),
    ⟨ras, upd_same, hn⟩,
    (let ⟨kvs, e1, e2⟩ := h.ru; ⟨kvs, (upd_ne (ne_rd)).trans e1, Paired.mapP e2 fun _ _ q => q.mono kt⟩),
    ((upd_ne (ne_pd)).trans h.pr),
    ((upd_ne (ne_sd)).trans h.sp), h.nd, h.new⟩
theorem PA.set_rd (h : PA K H0 H p L tas T st) {kvs kvs' : List (List Key × V)} {rs : List ((Nat × Nat) × Rule)} (e : H L.rd = some (.dT kvs)) (hn : Paired (RuleAt (upd H L.rd (.dT kvs'))) rs kvs') : PA K H0 (upd H L.rd (.dT kvs')) p L tas T { st with rules := rs } := by
  have z := h.nd
  simp only [List.nodup_cons, List.mem_cons, List.not_mem_nil, or_false, not_or] at z
  obtain ⟨⟨n_p_tl, n_p_fl, n_p_sl, n_p_ml, n_p_rl, n_p_rd, n_p_pd, n_p_sd⟩, ⟨n_tl_fl, n_tl_sl, n_tl_ml, n_tl_rl, n_tl_rd, n_tl_pd, n_tl_sd⟩, ⟨n_fl_sl, n_fl_ml, n_fl_rl, n_fl_rd, n_fl_pd, n_fl_sd⟩, ⟨n_sl_ml, n_sl_rl, n_sl_rd, n_sl_pd, n_sl_sd⟩, ⟨n_ml_rl, n_ml_rd, n_ml_pd, n_ml_sd⟩, ⟨n_rl_rd, n_rl_pd, n_rl_sd⟩, ⟨n_rd_pd, n_rd_sd⟩, n_pd_sd, _⟩ := z
  have ne_p : p ≠ L.rd := n_p_rd
  have ne_tl : L.tl ≠ L.rd := n_tl_rd
  have ne_fl : L.fl ≠ L.rd := n_fl_rd
  have ne_sl : L.sl ≠ L.rd := n_sl_rd
  have ne_ml : L.ml ≠ L.rd := n_ml_rd
  have ne_rl : L.rl ≠ L.rd := n_rl_rd
  have ne_pd : L.pd ≠ L.rd := Ne.symm n_rd_pd
  have ne_sd : L.sd ≠ L.rd := Ne.symm n_rd_sd
  have kt := keepT (o' := .dT kvs') e (fun xs q => by cases q)
  have kk := keepK (K := K) (o' := .dT kvs') e (fun C d fs q => by cases q)
  exact ⟨sameUpd h.same (h.new _ (by simp)), (let ⟨dx, q⟩ := h.ob; ⟨dx, (upd_ne ne_p).trans q⟩), (upd_ne ne_tl).trans h.tk, Paired.mapP h.tks fun a t q => kk a t q,
    (let ⟨fas, e1, e2⟩ := h.fa; ⟨fas, (upd_ne (ne_fl)).trans e1, e2.mono kt⟩),
    ((upd_ne (ne_sl)).trans h.si),
    ((upd_ne (ne_ml)).trans h.mo),
    (let ⟨ras, e1, e2⟩ := h.ro; ⟨ras, (upd_ne (ne_rl)).trans e1, Paired.mapP e2 fun _ _ q => kt _ _ q⟩),
    ⟨kvs', upd_same, hn⟩,
    ((upd_ne (ne_pd)).trans h.pr),
    ((upd_ne (ne_sd)).trans h.sp), h.nd, h.new⟩
theorem PA.set_pd (h : PA K H0 H p L tas T st) {kvs : List (List Key × V)} {ps : List (Cs × Cs)} (e : H L.pd = some (.dT kvs)) (hn : True) : PA K H0 (upd H L.pd (.dT (ps.map pairK))) p L tas T { st with pairs := ps } := by
  have z := h.nd
  simp only [List.nodup_cons, List.mem_cons, List.not_mem_nil, or_false, not_or] at z
  obtain ⟨⟨n_p_tl, n_p_fl, n_p_sl, n_p_ml, n_p_rl, n_p_rd, n_p_pd, n_p_sd⟩, ⟨n_tl_fl, n_tl_sl, n_tl_ml, n_tl_rl, n_tl_rd, n_tl_pd, n_tl_sd⟩, ⟨n_fl_sl, n_fl_ml, n_fl_rl, n_fl_rd, n_fl_pd, n_fl_sd⟩, ⟨n_sl_ml, n_sl_rl, n_sl_rd, n_sl_pd, n_sl_sd⟩, ⟨n_ml_rl, n_ml_rd, n_ml_pd, n_ml_sd⟩, ⟨n_rl_rd, n_rl_pd, n_rl_sd⟩, ⟨n_rd_pd, n_rd_sd⟩, n_pd_sd, _⟩ := z
  have ne_p : p ≠ L.pd := n_p_pd
  have ne_tl : L.tl ≠ L.pd := n_tl_pd
  have ne_fl : L.fl ≠ L.pd := n_fl_pd
  have ne_sl : L.sl ≠ L.pd := n_sl_pd
  have ne_ml : L.ml ≠ L.pd := n_ml_pd
  have ne_rl : L.rl ≠ L.pd := n_rl_pd
  have ne_rd : L.rd ≠ L.pd := n_rd_pd
  have ne_sd : L.sd ≠ L.pd := Ne.symm n_pd_sd
  have kt := keepT (o' := .dT (ps.map pairK)) e (fun xs q => by cases q)
  have kk := keepK (K := K) (o' := .dT (ps.map pairK)) e (fun C d fs q => by cases q)
  exact ⟨sameUpd h.same (h.new _ (by simp)), (let ⟨dx, q⟩ := h.ob; ⟨dx, (upd_ne ne_p).trans q⟩), (upd_ne ne_tl).trans h.tk, Paired.mapP h.tks fun a t q => kk a t q,
    (let ⟨fas, e1, e2⟩ := h.fa; ⟨fas, (upd_ne (ne_fl)).trans e1, e2.mono kt⟩),
    ((upd_ne (ne_sl)).trans h.si),
    ((upd_ne (ne_ml)).trans h.mo),
    (let ⟨ras, e1, e2⟩ := h.ro; ⟨ras, (upd_ne (ne_rl)).trans e1, Paired.mapP e2 fun _ _ q => kt _ _ q⟩),
    (let ⟨kvs, e1, e2⟩ := h.ru; ⟨kvs, (upd_ne (ne_rd)).trans e1, Paired.mapP e2 fun _ _ q => q.mono kt⟩),
    upd_same,
    ((upd_ne (ne_sd)).trans h.sp), h.nd, h.new⟩
theorem PA.set_sd (h : PA K H0 H p L tas T st) {kvs : List (Key × V)} {ps : List (Nat × Nat)} (e : H L.sd = some (.dK kvs)) (hn : True) : PA K H0 (upd H L.sd (.dK (ps.map spotK))) p L tas T { st with spots := ps } := by
  have z := h.nd
  simp only [List.nodup_cons, List.mem_cons, List.not_mem_nil, or_false, not_or] at z
  obtain ⟨⟨n_p_tl, n_p_fl, n_p_sl, n_p_ml, n_p_rl, n_p_rd, n_p_pd, n_p_sd⟩, ⟨n_tl_fl, n_tl_sl, n_tl_ml, n_tl_rl, n_tl_rd, n_tl_pd, n_tl_sd⟩, ⟨n_fl_sl, n_fl_ml, n_fl_rl, n_fl_rd, n_fl_pd, n_fl_sd⟩, ⟨n_sl_ml, n_sl_rl, n_sl_rd, n_sl_pd, n_sl_sd⟩, ⟨n_ml_rl, n_ml_rd, n_ml_pd, n_ml_sd⟩, ⟨n_rl_rd, n_rl_pd, n_rl_sd⟩, ⟨n_rd_pd, n_rd_sd⟩, n_pd_sd, _⟩ := z
  have ne_p : p ≠ L.sd := n_p_sd
  have ne_tl : L.tl ≠ L.sd := n_tl_sd
  have ne_fl : L.fl ≠ L.sd := n_fl_sd
  have ne_sl : L.sl ≠ L.sd := n_sl_sd
  have ne_ml : L.ml ≠ L.sd := n_ml_sd
  have ne_rl : L.rl ≠ L.sd := n_rl_sd
  have ne_rd : L.rd ≠ L.sd := n_rd_sd
  have ne_pd : L.pd ≠ L.sd := n_pd_sd
  have kt := keepT (o' := .dK (ps.map spotK)) e (fun xs q => by cases q)
  have kk := keepK (K := K) (o' := .dK (ps.map spotK)) e (fun C d fs q => by cases q)
  exact ⟨sameUpd h.same (h.new _ (by simp)), (let ⟨dx, q⟩ := h.ob; ⟨dx, (upd_ne ne_p).trans q⟩), (upd_ne ne_tl).trans h.tk, Paired.mapP h.tks fun a t q => kk a t q,
    (let ⟨fas, e1, e2⟩ := h.fa; ⟨fas, (upd_ne (ne_fl)).trans e1, e2.mono kt⟩),
    ((upd_ne (ne_sl)).trans h.si),
    ((upd_ne (ne_ml)).trans h.mo),
    (let ⟨ras, e1, e2⟩ := h.ro; ⟨ras, (upd_ne (ne_rl)).trans e1, Paired.mapP e2 fun _ _ q => kt _ _ q⟩),
    (let ⟨kvs, e1, e2⟩ := h.ru; ⟨kvs, (upd_ne (ne_rd)).trans e1, Paired.mapP e2 fun _ _ q => q.mono kt⟩),
    ((upd_ne (ne_pd)).trans h.pr),
    upd_same, h.nd, h.new⟩
end
end Sw

end

section
set_option maxRecDepth 100000
set_option maxHeartbeats 4000000
/-! the parser's small methods -/
namespace Sw
open PySem PySem.Spec PyProof.Rows L2 SwA
/-- a method of a class -/
structure MeT (K : PySem.W.Frag) (C m q : Str) (st : Stmt) : Prop where
  d : FD K (C, some m) m q st
  m : Meth K (He.ga K C) m (He.ma K (He.ga K C) m)
structure ParT (K : PySem.W.Frag) (mg : Str → Option Value) : Prop where
  l : LexT K mg
  par : MkC K mg "Parser" parN
  ne : He.ga K "Parser" ≠ He.ga K "Token"
  int : mg "int" = none
  tuple : mg "tuple" = none
  range : mg "range" = none
  init : FD K ("Parser", some "__init__") "__init__" "Parser.__init__" s_Parser_init
  peek : MeT K "Parser" "peek" "Parser.peek" s_Parser_peek
  fail : MeT K "Parser" "fail" "Parser.fail" s_Parser_fail
  found : MeT K "Parser" "found" "Parser.found" s_Parser_found
  take : MeT K "Parser" "take" "Parser.take" s_Parser_take
  take_word : MeT K "Parser" "take_word" "Parser.take_word" s_Parser_take_word
  take_keyword : MeT K "Parser" "take_keyword" "Parser.take_keyword" s_Parser_take_keyword
  parse_names : MeT K "Parser" "parse_names" "Parser.parse_names" s_Parser_parse_names
  number_of : MeT K "Parser" "number_of" "Parser.number_of" s_Parser_number_of
  tile_of : MeT K "Parser" "tile_of" "Parser.tile_of" s_Parser_tile_of
  parse_robot : MeT K "Parser" "parse_robot" "Parser.parse_robot" s_Parser_parse_robot
  parse_put : MeT K "Parser" "parse_put" "Parser.parse_put" s_Parser_parse_put
  parse_rule : MeT K "Parser" "parse_rule" "Parser.parse_rule" s_Parser_parse_rule
  parse_plan : MeT K "Parser" "parse_plan" "Parser.parse_plan" s_Parser_parse_plan
  MAX_TILES : ∃ t, mg "MAX_TILES" = some (.int 16 t)
  MAX_SIGNS : ∃ t, mg "MAX_SIGNS" = some (.int 4 t)
  MAX_MOODS : ∃ t, mg "MAX_MOODS" = some (.int 6 t)
  MAX_ROBOTS : ∃ t, mg "MAX_ROBOTS" = some (.int 3 t)
  WAYS : mg nWays = some (.ref (He.ga K nWays))
  ways : ∀ H : Hp, SqT K H (He.ga K nWays) (ways.map fun w => V.str (sx w))
  MOVES : mg "MOVES" = some (.ref (He.ga K "MOVES"))
  moves : ∀ H : Hp, SqT K H (He.ga K "MOVES") (moves.map fun w => V.str (sx w))
/-- a token of the list -/
def TI (tas : List Addr) (T : List Tk) (a : Addr) (t : Tk) : Prop := ∃ i : Nat, tas[i]? = some a ∧ T[i]? = some t
theorem Paired_get {α β : Type} {F : α → β → Prop} : ∀ {l : List α} {m : List β} {i : Nat} {a : α} {b : β}, Paired F l m → l[i]? = some a → m[i]? = some b → F a b
  | _, _, i, _, _, .nil, h, _ => by simp at h
  | _, _, 0, _, _, .cons x r, h, h2 => by simp at h h2; subst h; subst h2; exact x
  | _, _, i + 1, _, _, .cons x r, h, h2 => Paired_get r (by simpa using h) (by simpa using h2)
section
variable {K : PySem.W.Frag} {H0 H H' : Hp} {p : Addr} {L : PLoc} {tas : List Addr} {T : List Tk} {st : PSt}
theorem PA.get (h : PA K H0 H p L tas T st) {a : Addr} {t : Tk} (q : TI tas T a t) : TokAt K H a t := let ⟨_, e1, e2⟩ := q; Paired_get h.tks e1 e2
theorem PA.here (h : PA K H0 H p L tas T st) (hi : st.at_ < T.length) : ∃ a, tas[st.at_]? = some a ∧ TI tas T a (peek T st) := by
  have hl := h.tks.length
  have h2 : st.at_ < tas.length := by omega
  refine ⟨tas[st.at_], List.getElem?_eq_getElem h2, st.at_, List.getElem?_eq_getElem h2, ?_⟩
  unfold peek
  rw [List.getD_eq_getElem?_getD, List.getElem?_eq_getElem hi]
  rfl
end
theorem lp_tokens {L : PLoc} {n : Nat} : (parF L n).lookup ("tokens" : Str) = some (V.ref L.tl) := by kernel_rfl
theorem lp_at {L : PLoc} {n : Nat} : (parF L n).lookup ("at" : Str) = some (V.int n) := by kernel_rfl
theorem lp_faults {L : PLoc} {n : Nat} : (parF L n).lookup ("faults" : Str) = some (V.ref L.fl) := by kernel_rfl
theorem lp_signs {L : PLoc} {n : Nat} : (parF L n).lookup ("signs" : Str) = some (V.ref L.sl) := by kernel_rfl
theorem lp_moods {L : PLoc} {n : Nat} : (parF L n).lookup ("moods" : Str) = some (V.ref L.ml) := by kernel_rfl
theorem lp_robots {L : PLoc} {n : Nat} : (parF L n).lookup ("robots" : Str) = some (V.ref L.rl) := by kernel_rfl
theorem lp_rules {L : PLoc} {n : Nat} : (parF L n).lookup ("rules" : Str) = some (V.ref L.rd) := by kernel_rfl
theorem lp_pairs {L : PLoc} {n : Nat} : (parF L n).lookup ("pairs" : Str) = some (V.ref L.pd) := by kernel_rfl
theorem lp_spots {L : PLoc} {n : Nat} : (parF L n).lookup ("spots" : Str) = some (V.ref L.sd) := by kernel_rfl
theorem lp_no_peek {L : PLoc} {n : Nat} : (parF L n).lookup ("peek" : Str) = none := by kernel_rfl
theorem lp_no_fail {L : PLoc} {n : Nat} : (parF L n).lookup ("fail" : Str) = none := by kernel_rfl
theorem lp_no_found {L : PLoc} {n : Nat} : (parF L n).lookup ("found" : Str) = none := by kernel_rfl
theorem lp_no_take {L : PLoc} {n : Nat} : (parF L n).lookup ("take" : Str) = none := by kernel_rfl
theorem lp_no_take_word {L : PLoc} {n : Nat} : (parF L n).lookup ("take_word" : Str) = none := by kernel_rfl
theorem lp_no_take_keyword {L : PLoc} {n : Nat} : (parF L n).lookup ("take_keyword" : Str) = none := by kernel_rfl
theorem put_at {L : PLoc} {n : Nat} {v : Int} (m : Nat) (e : v = m) : putF "at" (.int v) (parF L n) = parF L m := by subst e; kernel_rfl
section
variable {P : Program} {w : World} {K : PySem.W.Frag} {mg : Str → Option Value} {base : Heap}
/-! ### peek, fail -/
def spPeek (K : PySem.W.Frag) : Sp := fun vs H Q _ => ∃ (H0 : Hp) (p : Addr) (L : PLoc) (tas : List Addr) (T : List Tk) (st : PSt), vs = [.ref p] ∧ PA K H0 H p L tas T st ∧ st.at_ < T.length ∧
  ∀ a, TI tas T a (peek T st) → Q (.ref a) H
theorem sc_peek : FnScope ["self"] ["self"] (defScope s_Parser_peek) := ⟨rfl, rfl, rfl, by decide +kernel, rfl, by decide +kernel, by decide +kernel⟩
theorem ok_peek (T : ParT K mg) : FnE P w K mg base CX0 1 ("Parser", some "peek") ["self"] (spPeek K) := by
  obtain ⟨fd, F⟩ := T.peek.d
  refine ⟨fd, F.ok sc_peek (fun vs H Q E h => ?_) (fun cdv A outer s H vs Q E hr h => ?_), F.bindsN fun _ _ _ _ _ _ us hl => match us, hl with | [_], _ => rfl, F.kp⟩
  · obtain ⟨H0, p, L, tas, Ts, st, rfl, _⟩ := h
    rfl
  · obtain ⟨H0, p, L, tas, Ts, st, rfl, hP, hi, k⟩ := h
    refine ⟨_, PSs.nox (pss_one (ps_ret (pe_ix ix_list (pe_fld (pv 0) rfl) (pe_fld (pv 0) rfl) (fun _ _ => rfl)))), ?_⟩
    obtain ⟨dx, ob⟩ := hP.ob
    obtain ⟨a, ha, hta⟩ := hP.here hi
    exact ⟨_, rfl, p, _, dx, _, _, rfl, ob, T.par.c, T.par.n _ (by simp), lp_tokens, _, rfl, p, _, dx, _, _, rfl, ob, T.par.c, T.par.n _ (by simp), lp_at, L.tl, _, _, _, rfl, rfl, SqL.of hP.tk, atI_nat (by rw [List.getElem?_map, ha]; rfl), k a hta⟩
def spFail (K : PySem.W.Frag) : Sp := fun vs H _ E => ∃ (H0 : Hp) (p : Addr) (L : PLoc) (tas : List Addr) (T : List Tk) (st : PSt), vs = [.ref p] ∧ PA K H0 H p L tas T st ∧ st.at_ < T.length ∧
  Syn K H0 E (failAt T st).1 (failAt T st).2
theorem sc_fail : FnScope ["self", "token"] ["self"] (defScope s_Parser_fail) := ⟨rfl, rfl, rfl, by decide +kernel, rfl, by decide +kernel, by decide +kernel⟩
theorem ok_fail (T : ParT K mg) : FnE P w K mg base (L2.CX P w) 3 ("Parser", some "fail") ["self"] (spFail K) := by
  obtain ⟨fd, F⟩ := T.fail.d
  obtain ⟨fdP, GP, bP, kP⟩ := ok_peek (P := P) (w := w) (base := base) T
  obtain ⟨fdS, GS, bS, kS⟩ := ok_syn (P := P) (w := w) (base := base) T.l.e
  refine ⟨fd, F.ok sc_fail (fun vs H Q E h => ?_) (fun cdv A outer s H vs Q E hr h => ?_), F.bindsN fun _ _ _ _ _ _ us hl => match us, hl with | [_], _ => rfl, F.kp⟩
  · obtain ⟨H0, p, L, tas, Ts, st, rfl, _⟩ := h
    rfl
  · obtain ⟨H0, p, L, tas, Ts, st, rfl, hP, hi, k⟩ := h
    have hr1 : Room 1 _ := hr.mono (by decide)
    refine ⟨_, (pss_cons (ps_set (i := 1) sc_fail.nd rfl (.inl rfl) (pe_meth0 (pv 0) T.par.c T.peek.m GP hr1 bP .nil pass0))
      (pss_one (ps_raise rfl (takes_of rfl rfl rfl rfl) (pmk_oex T.l.e.syn.o T.l.e.syn.i T.l.e.syn.t GS hr bS .nil pass0 rfl T.l.e.syn.g (pa_cons (pe_fld (pv 1) rfl) (pa_cons (pe_fld (pv 1) rfl) pa_nil)))))), ?_⟩
    obtain ⟨dx, ob⟩ := hP.ob
    refine ⟨_, rfl, p, dx, _, rfl, ob, lp_no_peek, H0, p, L, tas, Ts, st, rfl, hP, hi, fun a hta => ?_⟩
    obtain ⟨dt, ht⟩ := hP.get hta
    refine ⟨_, rfl, a, _, dt, _, _, rfl, ht, T.l.tok.c, T.l.tok.n _ (by simp), lk_line, _, rfl, a, _, dt, _, _, rfl, ht, T.l.tok.c, T.l.tok.n _ (by simp), lk_col, fault_at rfl (by simp) fun d H2 _ sm hx => ?_⟩
    exact k d H2 (hP.same.trans sm) hx
end
end Sw

end

section
set_option maxRecDepth 100000
set_option maxHeartbeats 4000000
/-! the parser's small methods, further -/
namespace Sw
open PySem PySem.Spec PyProof.Rows L2 SwA
/-- what a method's end asks: a value and the parser's next state, or a SyntaxFault -/
structure Res {α : Type} (K : PySem.W.Frag) (H0 : Hp) (p : Addr) (L : PLoc) (tas : List Addr) (T : List Tk) (r : PR α) (Q : VK) (E : XK) (ret : α → V → Prop) : Prop where
  ok : ∀ x s1, r = .ok (x, s1) → ∀ (v : V) (H' : Hp), ret x v → PA K H0 H' p L tas T s1 → Q v H'
  er : ∀ l c, r = .error (l, c) → Syn K H0 E l c
def retT (tas : List Addr) (T : List Tk) (t : Tk) (v : V) : Prop := ∃ a, v = .ref a ∧ TI tas T a t
def retU (_ : Unit) (v : V) : Prop := v = .non
def retN (n : Nat) (v : V) : Prop := v = .int n
theorem kd_inj : ∀ {a b : Kd}, a.str = b.str → a = b := by
  intro a b
  cases a <;> cases b <;> first | exact fun _ => rfl | exact fun h => absurd h (by decide +kernel)
section
variable {P : Program} {w : World} {K : PySem.W.Frag} {mg : Str → Option Value} {base : Heap}
/-! ### found -/
def spFound (K : PySem.W.Frag) : Sp := fun vs H Q _ => ∃ (H0 : Hp) (p : Addr) (L : PLoc) (tas : List Addr) (T : List Tk) (st : PSt) (reason : Cs) (a : Addr) (t : Tk), vs = [.ref p, sV reason, .ref a] ∧ PA K H0 H p L tas T st ∧
  TI tas T a t ∧ st.faults.length ≤ 1000000 ∧ ∀ H', PA K H0 H' p L tas T (st.found reason t) → Q .non H'
theorem sc_found : FnScope ["self", "reason", "token"] ["self", "reason", "token"] (defScope s_Parser_found) := ⟨rfl, rfl, rfl, by decide +kernel, rfl, by decide +kernel, by decide +kernel⟩
theorem ok_found (T : ParT K mg) : FnE P w K mg base CX0 1 ("Parser", some "found") ["self", "reason", "token"] (spFound K) := by
  obtain ⟨fd, F⟩ := T.found.d
  refine ⟨fd, F.ok sc_found (fun vs H Q E h => ?_) (fun cdv A outer s H vs Q E hr h => ?_), F.bindsN fun _ _ _ _ _ _ us hl => match us, hl with | [_, _, _], _ => rfl, F.kp⟩
  · obtain ⟨H0, p, L, tas, Ts, st, reason, a, t, rfl, _⟩ := h
    rfl
  · obtain ⟨H0, p, L, tas, Ts, st, reason, a, t, rfl, hP, hta, hz, k⟩ := h
    refine ⟨_, PSs.nox (pss_one (ps_expr (pe_bm PySem.F.plainAttrs_list PySem.F.slot_list_append PySem.F.type_list_append mt_append (pe_fld (pv 0) rfl)
      (pa_cons (pe_tup (pa_cons (pe_fld (pv 2) rfl) (pa_cons (pe_fld (pv 2) rfl) (pa_cons (pe_callB call_len_seq (by rfl) T.l.len boot_len (pa_cons (pe_fld (pv 0) rfl) pa_nil)) (pa_cons (pv 1) pa_nil))))) pa_nil)))), ?_⟩
    obtain ⟨dx, ob⟩ := hP.ob
    obtain ⟨dt, ht⟩ := hP.get hta
    obtain ⟨fas, hf, hfs⟩ := hP.fa
    refine ⟨_, rfl, p, _, dx, _, _, rfl, ob, T.par.c, T.par.n _ (by simp), lp_faults, .inl ⟨rfl, _, SqL.of hf⟩, ?_⟩
    refine ⟨_, rfl, a, _, dt, _, _, rfl, ht, T.l.tok.c, T.l.tok.n _ (by simp), lk_line, _, rfl, a, _, dt, _, _, rfl, ht, T.l.tok.c, T.l.tok.n _ (by simp), lk_col, _, rfl, p, _, dx, _, _, rfl, ob, T.par.c, T.par.n _ (by simp), lp_faults, L.fl, _, rfl, .inl (SqL.of hf), _, rfl,
      (by show 4 ≤ sizeLine; decide), fun tu ntu => ?_⟩
    have nf : L.fl ≠ tu := ne_of_none hf ntu
    have hlen : (fas.map V.ref).length < sizeLine := by
      rw [List.length_map, hfs.len, sizeLine_eq]
      omega
    refine ⟨L.fl, fas.map V.ref, .ref tu, rfl, rfl, by rw [upd_ne nf]; exact hf, hlen, ?_⟩
    have s1 : Same H (upd H tu (.tup [.int t.line, .int t.col, .int ((fas.map V.ref).length : Nat), sV reason])) := sameUpd (Same.refl H) ntu
    have hP1 := hP.mono s1
    obtain ⟨fas1, hf1, hfs1⟩ := hP1.fa
    have e1 : (fas.map V.ref ++ [V.ref tu]) = (fas ++ [tu]).map V.ref := by rw [List.map_append]; rfl
    rw [e1]
    refine k _ (hP1.set_fl (s1 _ _ hf) ?_)
    have z : fas.length = st.faults.length := hfs.len
    refine FaultsAt.snoc (hfs.mono fun b xs q => ?_) ?_
    · have q1 := s1 _ _ q
      rw [upd_ne (ne_of q1 (s1 _ _ hf) (by intro z; cases z))]
      exact q1
    · rw [upd_ne (Ne.symm nf), upd_same, List.length_map, z, Nat.zero_add]
/-! ### take, take_word, take_keyword -/
def spTake (K : PySem.W.Frag) : Sp := fun vs H Q E => ∃ (H0 : Hp) (p : Addr) (L : PLoc) (tas : List Addr) (T : List Tk) (st : PSt) (kd : Kd), vs = [.ref p, .str kd.str] ∧ PA K H0 H p L tas T st ∧ st.at_ < T.length ∧
  Res K H0 p L tas T (take T kd st) Q E (retT tas T)
def spTakeWord (K : PySem.W.Frag) : Sp := fun vs H Q E => ∃ (H0 : Hp) (p : Addr) (L : PLoc) (tas : List Addr) (T : List Tk) (st : PSt) (wd : Cs), vs = [.ref p, sV wd] ∧ PA K H0 H p L tas T st ∧ st.at_ < T.length ∧
  Res K H0 p L tas T (takeWord T wd st) Q E (retT tas T)
def spTakeKw (K : PySem.W.Frag) : Sp := fun vs H Q E => ∃ (H0 : Hp) (p : Addr) (L : PLoc) (tas : List Addr) (T : List Tk) (st : PSt) (b : Addr) (ws : List Cs), vs = [.ref p, .ref b] ∧ PA K H0 H p L tas T st ∧ st.at_ < T.length ∧
  SqT K H b (ws.map fun w => V.str (sx w)) ∧ Res K H0 p L tas T (takeKw T ws st) Q E (retT tas T)
theorem sc_take : FnScope ["self", "kind", "token"] ["self", "kind"] (defScope s_Parser_take) := ⟨rfl, rfl, rfl, by decide +kernel, rfl, by decide +kernel, by decide +kernel⟩
theorem sc_take_word : FnScope ["self", "word", "token"] ["self", "word"] (defScope s_Parser_take_word) := ⟨rfl, rfl, rfl, by decide +kernel, rfl, by decide +kernel, by decide +kernel⟩
theorem sc_take_keyword : FnScope ["self", "words", "token"] ["self", "words"] (defScope s_Parser_take_keyword) := ⟨rfl, rfl, rfl, by decide +kernel, rfl, by decide +kernel, by decide +kernel⟩
theorem ok_take (T : ParT K mg) : FnE P w K mg base (L2.CX P w) 4 ("Parser", some "take") ["self", "kind"] (spTake K) := by
  obtain ⟨fd, F⟩ := T.take.d
  obtain ⟨fdP, GP, bP, kP⟩ := ok_peek (P := P) (w := w) (base := base) T
  obtain ⟨fdS, GS, bS, kS⟩ := ok_fail (P := P) (w := w) (base := base) T
  refine ⟨fd, F.ok sc_take (fun vs H Q E h => ?_) (fun cdv A outer s H vs Q E hr h => ?_), F.bindsN fun _ _ _ _ _ _ us hl => match us, hl with | [_, _], _ => rfl, F.kp⟩
  · obtain ⟨H0, p, L, tas, Ts, st, kd, rfl, _⟩ := h
    rfl
  · obtain ⟨H0, p, L, tas, Ts, st, kd, rfl, hP, hi, R⟩ := h
    have hr1 : Room 1 _ := hr.mono (by decide)
    refine ⟨_, (pss_cons (ps_set (i := 2) sc_take.nd rfl (.inl rfl) (pe_meth0 (pv 0) T.par.c T.peek.m GP hr1 bP .nil pass0))
      (pss_cons (ps_if (pt_cmpR op_ne (pe_fld (pv 2) rfl) (pv 1) (nomark _)) (pss_one (ps_expr (pe_meth0 (pv 0) T.par.c T.fail.m GS hr bS .nil (passes_call (takes_of rfl rfl rfl rfl) (fun _ _ _ _ h => h))))) pss_nil)
      (pss_cons (ps_fldaug (pv 0) pe_int in_add) (pss_one (ps_ret (pv 2)))))), ?_⟩
    obtain ⟨dx, ob⟩ := hP.ob
    refine ⟨_, rfl, p, dx, _, rfl, ob, lp_no_peek, H0, p, L, tas, Ts, st, rfl, hP, hi, fun a hta => ?_⟩
    obtain ⟨dt, ht⟩ := hP.get hta
    refine ⟨_, rfl, a, _, dt, _, _, rfl, ht, T.l.tok.c, T.l.tok.n _ (by simp), lk_kind, _, rfl, rfl, _, rfl, ?_⟩
    refine ite2 (fun h => ?_) (fun h => ?_)
    · have h : (peek Ts st).kind ≠ kd := fun q => by
        rw [decide_eq_true (by rw [q])] at h
        exact absurd h (by decide)
      refine ⟨_, rfl, p, dx, _, rfl, ob, lp_no_fail, H0, p, L, tas, Ts, st, rfl, hP, hi, R.er _ _ ?_⟩
      unfold take
      rw [if_neg h]
    · have h : (peek Ts st).kind = kd := Decidable.byContradiction fun q => h (by
        rw [decide_eq_false fun z => q (kd_inj (V.str.inj z))]
        rfl)
      refine ⟨_, rfl, p, _, dx, _, _, rfl, ob, T.par.c, T.par.n _ (by simp), lp_at, _, _, rfl, rfl, dx, _, ob, (by show 9 < 1000; decide), ?_⟩
      rw [put_at (st.at_ + 1) (by simp)]
      refine ⟨_, rfl, R.ok _ _ (by unfold take; rw [if_pos h]; rfl) _ _ ⟨a, rfl, hta⟩ (hP.setAt T.ne ob)⟩
theorem ok_take_word (T : ParT K mg) : FnE P w K mg base (L2.CX P w) 4 ("Parser", some "take_word") ["self", "word"] (spTakeWord K) := by
  obtain ⟨fd, F⟩ := T.take_word.d
  obtain ⟨fdP, GP, bP, kP⟩ := ok_peek (P := P) (w := w) (base := base) T
  obtain ⟨fdS, GS, bS, kS⟩ := ok_fail (P := P) (w := w) (base := base) T
  refine ⟨fd, F.ok sc_take_word (fun vs H Q E h => ?_) (fun cdv A outer s H vs Q E hr h => ?_), F.bindsN fun _ _ _ _ _ _ us hl => match us, hl with | [_, _], _ => rfl, F.kp⟩
  · obtain ⟨H0, p, L, tas, Ts, st, kd, rfl, _⟩ := h
    rfl
  · obtain ⟨H0, p, L, tas, Ts, st, wd, rfl, hP, hi, R⟩ := h
    have hr1 : Room 1 _ := hr.mono (by decide)
    refine ⟨_, (pss_cons (ps_set (i := 2) sc_take_word.nd rfl (.inl rfl) (pe_meth0 (pv 0) T.par.c T.peek.m GP hr1 bP .nil pass0))
      (pss_cons (ps_if (pt_cmpR op_ne (pe_fld (pv 2) rfl) (pv 1) (nomark _)) (pss_one (ps_expr (pe_meth0 (pv 0) T.par.c T.fail.m GS hr bS .nil (passes_call (takes_of rfl rfl rfl rfl) (fun _ _ _ _ h => h))))) pss_nil)
      (pss_cons (ps_fldaug (pv 0) pe_int in_add) (pss_one (ps_ret (pv 2)))))), ?_⟩
    obtain ⟨dx, ob⟩ := hP.ob
    refine ⟨_, rfl, p, dx, _, rfl, ob, lp_no_peek, H0, p, L, tas, Ts, st, rfl, hP, hi, fun a hta => ?_⟩
    obtain ⟨dt, ht⟩ := hP.get hta
    refine ⟨_, rfl, a, _, dt, _, _, rfl, ht, T.l.tok.c, T.l.tok.n _ (by simp), lk_text, _, rfl, rfl, _, rfl, ?_⟩
    refine ite2 (fun h => ?_) (fun h => ?_)
    · have h : (peek Ts st).text ≠ wd := fun q => by
        rw [decide_eq_true (by rw [q])] at h
        exact absurd h (by decide)
      refine ⟨_, rfl, p, dx, _, rfl, ob, lp_no_fail, H0, p, L, tas, Ts, st, rfl, hP, hi, R.er _ _ ?_⟩
      unfold takeWord
      rw [if_neg h]
    · have h : (peek Ts st).text = wd := Decidable.byContradiction fun q => h (by
        rw [decide_eq_false fun z => q (sx_inj (V.str.inj z))]
        rfl)
      refine ⟨_, rfl, p, _, dx, _, _, rfl, ob, T.par.c, T.par.n _ (by simp), lp_at, _, _, rfl, rfl, dx, _, ob, (by show 9 < 1000; decide), ?_⟩
      rw [put_at (st.at_ + 1) (by simp)]
      refine ⟨_, rfl, R.ok _ _ (by unfold takeWord; rw [if_pos h]; rfl) _ _ ⟨a, rfl, hta⟩ (hP.setAt T.ne ob)⟩
theorem ok_take_keyword (T : ParT K mg) : FnE P w K mg base (L2.CX P w) 4 ("Parser", some "take_keyword") ["self", "words"] (spTakeKw K) := by
  obtain ⟨fd, F⟩ := T.take_keyword.d
  obtain ⟨fdP, GP, bP, kP⟩ := ok_peek (P := P) (w := w) (base := base) T
  obtain ⟨fdS, GS, bS, kS⟩ := ok_fail (P := P) (w := w) (base := base) T
  obtain ⟨t1, mKW⟩ := T.l.KEYWORD
  refine ⟨fd, F.ok sc_take_keyword (fun vs H Q E h => ?_) (fun cdv A outer s H vs Q E hr h => ?_), F.bindsN fun _ _ _ _ _ _ us hl => match us, hl with | [_, _], _ => rfl, F.kp⟩
  · obtain ⟨H0, p, L, tas, Ts, st, b, ws, rfl, _⟩ := h
    rfl
  · obtain ⟨H0, p, L, tas, Ts, st, b, ws, rfl, hP, hi, hb, R⟩ := h
    have hr1 : Room 1 _ := hr.mono (by decide)
    refine ⟨_, (pss_cons (ps_set (i := 2) sc_take_keyword.nd rfl (.inl rfl) (pe_meth0 (pv 0) T.par.c T.peek.m GP hr1 bP .nil pass0))
      (pss_cons (ps_if (PW.pt (pw_or (pt_cmpR op_ne (pe_fld (pv 2) rfl) (pe_glob (v := .str "keyword") rfl mKW ⟨_, rfl⟩) (nomark _)) (pw_or1 (pt_cmpR op_notIn_seq (pe_fld (pv 2) rfl) (pv 1) rfl))))
        (pss_one (ps_expr (pe_meth0 (pv 0) T.par.c T.fail.m GS hr bS .nil (passes_call (takes_of rfl rfl rfl rfl) (fun _ _ _ _ h => h))))) pss_nil)
      (pss_cons (ps_fldaug (pv 0) pe_int in_add) (pss_one (ps_ret (pv 2)))))), ?_⟩
    obtain ⟨dx, ob⟩ := hP.ob
    refine ⟨_, rfl, p, dx, _, rfl, ob, lp_no_peek, H0, p, L, tas, Ts, st, rfl, hP, hi, fun a hta => ?_⟩
    obtain ⟨dt, ht⟩ := hP.get hta
    have bad : ¬ ((peek Ts st).kind = .keyword ∧ (peek Ts st).text ∈ ws) → Syn K H0 E (failAt Ts st).1 (failAt Ts st).2 := fun q => R.er _ _ (by
      unfold takeKw
      rw [if_neg q])
    refine ⟨_, rfl, a, _, dt, _, _, rfl, ht, T.l.tok.c, T.l.tok.n _ (by simp), lk_kind, rfl, _, rfl, ?_⟩
    refine ite2 (fun h => ?_) (fun h => ?_)
    · have h : (peek Ts st).kind ≠ .keyword := fun q => by
        rw [decide_eq_true (by rw [q]; rfl)] at h
        exact absurd h (by decide)
      exact iteT ⟨_, rfl, p, dx, _, rfl, ob, lp_no_fail, H0, p, L, tas, Ts, st, rfl, hP, hi, bad fun q => h q.1⟩
    · have h : (peek Ts st).kind = .keyword := Decidable.byContradiction fun q => h (by
        show (!decide (V.str (peek Ts st).kind.str = V.str Kd.keyword.str)) = true
        rw [decide_eq_false fun z => q (kd_inj (b := .keyword) (V.str.inj z))]
        rfl)
      refine ⟨_, rfl, a, _, dt, _, _, rfl, ht, T.l.tok.c, T.l.tok.n _ (by simp), lk_text, _, rfl, b, _, rfl, .inr hb, rfl, flat_sx ws, _, rfl, ?_⟩
      rw [inV_sx]
      refine ite2 (fun h2 => ?_) (fun h2 => ?_)
      · have h2 : (peek Ts st).text ∉ ws := fun q => by
          rw [decide_eq_true q] at h2
          exact absurd h2 (by decide)
        exact ⟨_, rfl, p, dx, _, rfl, ob, lp_no_fail, H0, p, L, tas, Ts, st, rfl, hP, hi, bad fun q => h2 q.2⟩
      · have h2 : (peek Ts st).text ∈ ws := Decidable.byContradiction fun q => h2 (by
          rw [decide_eq_false q]
          rfl)
        refine ⟨_, rfl, p, _, dx, _, _, rfl, ob, T.par.c, T.par.n _ (by simp), lp_at, _, _, rfl, rfl, dx, _, ob, (by show 9 < 1000; decide), ?_⟩
        rw [put_at (st.at_ + 1) (by simp)]
        refine ⟨_, rfl, R.ok _ _ (by unfold takeKw; rw [if_pos ⟨h, h2⟩]; rfl) _ _ ⟨a, rfl, hta⟩ (hP.setAt T.ne ob)⟩
end
end Sw

end

section
set_option maxRecDepth 100000
set_option maxHeartbeats 4000000
/-! bounds along the mirror of the parser -/
namespace Sw
open PySem
structure GoodT (T : List Tk) : Prop where
  last : ∀ (i : Nat) t, T[i]? = some t → i + 1 = T.length → t.kind = .fin ∧ t.text = []
  ne : T ≠ []
  fin : ∀ (i : Nat) t, T[i]? = some t → t.kind = .fin → i + 1 = T.length
  num : ∀ t ∈ T, t.kind = .number → (1 ≤ t.text.length ∧ t.text.length ≤ 2) ∧ t.text.all isD = true
  len : T.length ≤ 100000
structure Bd (T : List Tk) (st : PSt) : Prop where
  at_ : st.at_ < T.length
  fa : st.faults.length ≤ 2 * st.at_
  si : st.signs.length ≤ 4
  mo : st.moods.length ≤ 6
  ro : st.robots.length ≤ st.at_
  ru : st.rules.length ≤ st.at_
  pr : st.pairs.length ≤ st.at_
  sp : st.spots.length ≤ st.at_
section
variable {T : List Tk} {st s1 : PSt}
theorem peek_get (h : st.at_ < T.length) : T[st.at_]? = some (peek T st) := by
  unfold peek
  rw [List.getD_eq_getElem?_getD, List.getElem?_eq_getElem h]
  rfl
theorem GoodT.more (G : GoodT T) (h : st.at_ < T.length) (hk : (peek T st).kind ≠ .fin) : st.at_ + 1 < T.length := by
  refine Nat.lt_of_le_of_ne h fun e => hk ?_
  exact (G.last _ _ (peek_get h) e).1
theorem take_ok {k : Kd} {t : Tk} (h : take T k st = .ok (t, s1)) : s1 = st.next ∧ t = peek T st ∧ t.kind = k := by
  unfold take at h
  split at h
  · rename_i q
    cases h
    exact ⟨rfl, rfl, q⟩
  · cases h
theorem takeWord_ok {wd : Cs} {t : Tk} (h : takeWord T wd st = .ok (t, s1)) : s1 = st.next ∧ t = peek T st ∧ t.text = wd := by
  unfold takeWord at h
  split at h
  · rename_i q
    cases h
    exact ⟨rfl, rfl, q⟩
  · cases h
theorem takeKw_ok {ws : List Cs} {t : Tk} (h : takeKw T ws st = .ok (t, s1)) : s1 = st.next ∧ t = peek T st ∧ t.kind = .keyword ∧ t.text ∈ ws := by
  unfold takeKw at h
  split at h
  · rename_i q
    cases h
    exact ⟨rfl, rfl, q.1, q.2⟩
  · cases h
theorem Bd.next (B : Bd T st) (h : st.at_ + 1 < T.length) : Bd T st.next := ⟨h, by have := B.fa; show st.faults.length ≤ 2 * (st.at_ + 1); omega, B.si, B.mo, by have := B.ro; show st.robots.length ≤ st.at_ + 1; omega, by have := B.ru; show st.rules.length ≤ st.at_ + 1; omega,
  by have := B.pr; show st.pairs.length ≤ st.at_ + 1; omega, by have := B.sp; show st.spots.length ≤ st.at_ + 1; omega⟩
/-- with room for one more fault -/
theorem Bd.next1 (B : Bd T st) (h : st.at_ + 1 < T.length) : Bd T st.next ∧ st.next.faults.length + 2 ≤ 2 * st.next.at_ := ⟨B.next h, by have := B.fa; show st.faults.length + 2 ≤ 2 * (st.at_ + 1); omega⟩
theorem Bd.found (B : Bd T st) {r : Cs} {t : Tk} (h : st.faults.length + 1 ≤ 2 * st.at_) : Bd T (st.found r t) := ⟨B.at_, by show (st.faults ++ [_]).length ≤ 2 * st.at_; simp; omega, B.si, B.mo, B.ro, B.ru, B.pr, B.sp⟩
theorem bd_take (G : GoodT T) (B : Bd T st) {k : Kd} {t : Tk} (h : take T k st = .ok (t, s1)) (hk : k ≠ .fin) : Bd T s1 ∧ s1.faults.length + 2 ≤ 2 * s1.at_ ∧ s1 = st.next ∧ t ∈ T := by
  obtain ⟨rfl, rfl, e⟩ := take_ok h
  have z := B.next1 (G.more B.at_ (by rw [e]; exact hk))
  exact ⟨z.1, z.2, rfl, List.mem_of_getElem? (peek_get B.at_)⟩
theorem bd_word (G : GoodT T) (B : Bd T st) {wd : Cs} {t : Tk} (h : takeWord T wd st = .ok (t, s1)) (hk : wd ≠ []) : Bd T s1 ∧ s1.faults.length + 2 ≤ 2 * s1.at_ ∧ s1 = st.next := by
  obtain ⟨rfl, rfl, e⟩ := takeWord_ok h
  have z := B.next1 (G.more B.at_ fun q => hk (by
    rw [← e]
    exact (G.last _ _ (peek_get B.at_) (G.fin _ _ (peek_get B.at_) q)).2))
  exact ⟨z.1, z.2, rfl⟩
theorem bd_kw (G : GoodT T) (B : Bd T st) {ws : List Cs} {t : Tk} (h : takeKw T ws st = .ok (t, s1)) : Bd T s1 ∧ s1.faults.length + 2 ≤ 2 * s1.at_ ∧ s1 = st.next := by
  obtain ⟨rfl, rfl, e, _⟩ := takeKw_ok h
  have z := B.next1 (G.more B.at_ (by rw [e]; decide))
  exact ⟨z.1, z.2, rfl⟩
theorem bd_number (B : Bd T st) {names : List Cs} {t : Tk} (h : st.faults.length + 1 ≤ 2 * st.at_) : Bd T (numberOf names t st).2 ∧ (numberOf names t st).2.at_ = st.at_ ∧ (numberOf names t st).2.faults.length ≤ st.faults.length + 1 := by
  unfold numberOf
  split
  · exact ⟨B, rfl, Nat.le_succ _⟩
  · exact ⟨B.found h, rfl, by show (st.faults ++ [_]).length ≤ _; simp⟩
theorem bd_tile (G : GoodT T) (B : Bd T st) {tiles n : Nat} (h : tileOf T tiles st = .ok (n, s1)) : Bd T s1 ∧ s1.faults.length + 1 ≤ 2 * s1.at_ ∧ s1.at_ = st.at_ + 1 ∧ s1.robots = st.robots ∧ s1.spots = st.spots := by
  unfold tileOf at h
  split at h
  · cases h
  · rename_i t s2 ht
    obtain ⟨B2, f2, rfl, hm⟩ := bd_take G B ht (by decide)
    cases h
    split
    · exact ⟨B2.found (by omega), by show (st.next.faults ++ [_]).length + 1 ≤ 2 * st.next.at_; simp; omega, rfl, rfl, rfl⟩
    · exact ⟨B2, by omega, rfl, rfl, rfl⟩
theorem more_spec (G : GoodT T) : ∀ (f : Nat) (st : PSt) (acc : List Tk), Bd T st → (∀ t ∈ acc, t.kind = .name) → acc.length + 1 ≤ st.at_ →
    Bd T (moreNames T f st acc).2 ∧ (∀ t ∈ (moreNames T f st acc).1, t.kind = .name) ∧ (moreNames T f st acc).1.length + 1 ≤ (moreNames T f st acc).2.at_ ∧ st.at_ ≤ (moreNames T f st acc).2.at_ ∧
    (moreNames T f st acc).2 = { st with at_ := (moreNames T f st acc).2.at_ } ∧ (moreNames T f st acc).1.length + st.at_ = acc.length + (moreNames T f st acc).2.at_
  | 0, st, acc, B, ha, hl => ⟨B, ha, hl, Nat.le_refl _, rfl, rfl⟩
  | f + 1, st, acc, B, ha, hl => by
    unfold moreNames
    split
    · rename_i hk
      have z := more_spec G f st.next (acc ++ [peek T st]) (B.next (G.more B.at_ (by rw [hk]; decide))) (by
        intro t ht
        rcases List.mem_append.mp ht with q | q
        · exact ha t q
        · have e : t = peek T st := by simpa using q
          rw [e]; exact hk) (by show (acc ++ [_]).length + 1 ≤ st.at_ + 1; simp; omega)
      obtain ⟨z1, z2, z3, z4, z5, z6⟩ := z
      refine ⟨z1, z2, z3, Nat.le_trans (Nat.le_succ _) z4, z5, ?_⟩
      have e : (acc ++ [peek T st]).length = acc.length + 1 := by simp
      have e2 : st.next.at_ = st.at_ + 1 := rfl
      rw [e, e2] at z6
      omega
    · exact ⟨B, ha, hl, Nat.le_refl _, rfl, rfl⟩
theorem add_spec (b : Bool) (st : PSt) (t : Tk) (hn : (st.names b).length ≤ mostOf b) : (addName b st t).at_ = st.at_ ∧ (addName b st t).faults.length ≤ st.faults.length + 1 ∧ ((addName b st t).names b).length ≤ mostOf b ∧
    (addName b st t).robots = st.robots ∧ (addName b st t).rules = st.rules ∧ (addName b st t).pairs = st.pairs ∧ (addName b st t).spots = st.spots ∧ (addName b st t).names (!b) = st.names (!b) := by
  unfold addName
  split
  · refine ⟨rfl, by simp [PSt.found], ?_, rfl, rfl, rfl, rfl, rfl⟩
    exact hn
  · split
    · refine ⟨rfl, by simp [PSt.found], ?_, rfl, rfl, rfl, rfl, rfl⟩
      exact hn
    · rename_i h
      cases b
      · refine ⟨rfl, Nat.le_succ _, ?_, rfl, rfl, rfl, rfl, rfl⟩
        have h2 : st.signs.length ≠ 4 := h
        have h3 : st.signs.length ≤ 4 := hn
        show (st.signs ++ [t.text]).length ≤ 4
        simp
        omega
      · refine ⟨rfl, Nat.le_succ _, ?_, rfl, rfl, rfl, rfl, rfl⟩
        have h2 : st.moods.length ≠ 6 := h
        have h3 : st.moods.length ≤ 6 := hn
        show (st.moods ++ [t.text]).length ≤ 6
        simp
        omega
theorem adds_spec (b : Bool) : ∀ (ts : List Tk) (st : PSt), (st.names b).length ≤ mostOf b → (ts.foldl (addName b) st).at_ = st.at_ ∧ (ts.foldl (addName b) st).faults.length ≤ st.faults.length + ts.length ∧
    ((ts.foldl (addName b) st).names b).length ≤ mostOf b ∧ (ts.foldl (addName b) st).robots = st.robots ∧ (ts.foldl (addName b) st).rules = st.rules ∧ (ts.foldl (addName b) st).pairs = st.pairs ∧
    (ts.foldl (addName b) st).spots = st.spots ∧ (ts.foldl (addName b) st).names (!b) = st.names (!b)
  | [], st, h => ⟨rfl, by simp, h, rfl, rfl, rfl, rfl, rfl⟩
  | t :: ts, st, h => by
    obtain ⟨a1, a2, a3, a4, a5, a6, a7, a8⟩ := add_spec b st t h
    obtain ⟨b1, b2, b3, b4, b5, b6, b7, b8⟩ := adds_spec b ts (addName b st t) a3
    rw [List.foldl_cons]
    refine ⟨b1.trans a1, ?_, b3, b4.trans a4, b5.trans a5, b6.trans a6, b7.trans a7, b8.trans a8⟩
    simp only [List.length_cons]
    omega
theorem wordOf_ne (b : Bool) : wordOf b ≠ [] := by cases b <;> decide
theorem Bd.names (B : Bd T st) (b : Bool) : (st.names b).length ≤ mostOf b := by
  cases b
  · exact B.si
  · exact B.mo
theorem bd_names (G : GoodT T) (B : Bd T st) {b : Bool} (h : parseNames T b st = .ok ((), s1)) : Bd T s1 := by
  unfold parseNames at h
  split at h
  · cases h
  · rename_i t0 s2 h2
    obtain ⟨B2, f2, rfl⟩ := bd_word G B h2 (wordOf_ne b)
    split at h
    · cases h
    · rename_i t s3 h3
      obtain ⟨B3, f3, rfl, _⟩ := bd_take G B2 h3 (by decide)
      have hk : t.kind = .name := (take_ok h3).2.2
      obtain ⟨z1, z2, z3, z4, z5, z6⟩ := more_spec G T.length st.next.next [t] B3 (by simp [hk]) (by show 1 + 1 ≤ st.at_ + 1 + 1; omega)
      split at h
      · cases h
      · rename_i t4 s4 h4
        cases h
        obtain ⟨B4, f4, rfl⟩ := bd_word G z1 h4 (by decide)
        obtain ⟨b1, b2, b3, b4, b5, b6, b7, b8⟩ := adds_spec b (moreNames T T.length st.next.next [t]).1 (moreNames T T.length st.next.next [t]).2.next (B4.names b)
        have e : (moreNames T T.length st.next.next [t]).2.next.at_ = (moreNames T T.length st.next.next [t]).2.at_ + 1 := rfl
        have e5 : (moreNames T T.length st.next.next [t]).2.next.faults = st.faults := by
          show (moreNames T T.length st.next.next [t]).2.faults = st.faults
          rw [z5]
          rfl
        have hf := B.fa
        have e6 : st.next.next.at_ = st.at_ + 2 := rfl
        refine ⟨by rw [b1]; exact B4.at_, ?_, ?_, ?_, by rw [b4, b1]; exact B4.ro, by rw [b5, b1]; exact B4.ru, by rw [b6, b1]; exact B4.pr, by rw [b7, b1]; exact B4.sp⟩
        · rw [b1, e]
          rw [e5] at b2
          rw [e6] at z6
          simp only [List.length_cons, List.length_nil] at z6
          omega
        · cases b
          · exact b3
          · rw [show (List.foldl (addName true) (moreNames T T.length st.next.next [t]).2.next (moreNames T T.length st.next.next [t]).1).signs = _ from b8]
            exact B4.si
        · cases b
          · rw [show (List.foldl (addName false) (moreNames T T.length st.next.next [t]).2.next (moreNames T T.length st.next.next [t]).1).moods = _ from b8]
            exact B4.mo
          · exact b3
theorem putA_len {κ α : Type} [DecidableEq κ] (l : List (κ × α)) (k : κ) (v : α) : (putA l k v).length ≤ l.length + 1 := by
  unfold putA
  split <;> simp
theorem bd_robot (G : GoodT T) (B : Bd T st) {tiles : Nat} (h : parseRobot T tiles st = .ok ((), s1)) : Bd T s1 ∧ st.at_ < s1.at_ := by
  unfold parseRobot at h
  split at h
  · cases h
  · rename_i kw s2 h2
    obtain ⟨B2, f2, rfl⟩ := bd_word G B h2 (by decide)
    have B3 : Bd T (if st.next.robots.length = 3 then st.next.found rRobots kw else st.next) := by
      split
      · exact B2.found (by omega)
      · exact B2
    have a3 : (if st.next.robots.length = 3 then st.next.found rRobots kw else st.next).at_ = st.at_ + 1 := by split <;> rfl
    have r3 : (if st.next.robots.length = 3 then st.next.found rRobots kw else st.next).robots = st.robots := by split <;> rfl
    split at h
    · cases h
    · rename_i n s4 h4
      obtain ⟨B4, f4, a4, r4, _⟩ := bd_tile G B3 h4
      split at h
      · cases h
      · rename_i wy s5 h5
        obtain ⟨B5, f5, rfl⟩ := bd_kw G B4 h5
        split at h
        · cases h
        · rename_i t6 s6 h6
          obtain ⟨B6, f6, rfl⟩ := bd_word G B5 h6 (by decide)
          cases h
          have e : s4.next.next.at_ = s4.at_ + 2 := rfl
          have hr : s4.next.next.robots = st.robots := r4.trans r3
          have hB := B.ro
          refine ⟨⟨B6.at_, B6.fa, B6.si, B6.mo, ?_, B6.ru, B6.pr, B6.sp⟩, ?_⟩
          · show (s4.next.next.robots ++ [_]).length ≤ s4.next.next.at_
            rw [hr, e]
            simp
            omega
          · show st.at_ < s4.next.next.at_
            omega
theorem bd_put (G : GoodT T) (B : Bd T st) {tiles : Nat} (h : parsePut T tiles st = .ok ((), s1)) : Bd T s1 ∧ st.at_ < s1.at_ := by
  unfold parsePut at h
  split at h
  · cases h
  · rename_i kw s2 h2
    obtain ⟨B2, f2, rfl⟩ := bd_word G B h2 (by decide)
    split at h
    · cases h
    · rename_i nm s3 h3
      obtain ⟨B3, f3, rfl, _⟩ := bd_take G B2 h3 (by decide)
      obtain ⟨B4, a4, f4⟩ := bd_number B3 (names := st.next.next.signs) (t := nm) (by omega)
      have sp4 : (numberOf st.next.next.signs nm st.next.next).2.spots = st.spots := by unfold numberOf; split <;> rfl
      split at h
      · cases h
      · rename_i n s5 h5
        obtain ⟨B5, f5, a5, r5, sp5⟩ := bd_tile G B4 h5
        split at h
        · cases h
        · rename_i t6 s6 h6
          obtain ⟨B6, f6, rfl⟩ := bd_word G B5 h6 (by decide)
          cases h
          have e : s5.next.at_ = s5.at_ + 1 := rfl
          have e2 : st.next.next.at_ = st.at_ + 2 := rfl
          have hs : s5.next.spots = st.spots := sp5.trans sp4
          have hB := B.sp
          have B7 : Bd T (if (s5.next.spots.any fun kv => decide (kv.1 = n)) = true then s5.next.found rAgain (peek T (numberOf st.next.next.signs nm st.next.next).2) else s5.next) := by
            split
            · exact B6.found (by omega)
            · exact B6
          have a7 : (if (s5.next.spots.any fun kv => decide (kv.1 = n)) = true then s5.next.found rAgain (peek T (numberOf st.next.next.signs nm st.next.next).2) else s5.next).at_ = s5.at_ + 1 := by split <;> rfl
          have s7 : (if (s5.next.spots.any fun kv => decide (kv.1 = n)) = true then s5.next.found rAgain (peek T (numberOf st.next.next.signs nm st.next.next).2) else s5.next).spots = st.spots := by split <;> exact hs
          refine ⟨⟨B7.at_, B7.fa, B7.si, B7.mo, B7.ro, B7.ru, B7.pr, ?_⟩, ?_⟩
          · refine Nat.le_trans (putA_len _ _ _) ?_
            rw [s7]
            show st.spots.length + 1 ≤ _
            rw [a7]
            omega
          · show st.at_ < _
            rw [a7]
            omega
theorem bd_rule (G : GoodT T) (B : Bd T st) (h : parseRule T st = .ok ((), s1)) : Bd T s1 ∧ st.at_ < s1.at_ := by
  unfold parseRule at h
  split at h
  · cases h
  rename_i kw s2 h2
  obtain ⟨B2, f2, rfl⟩ := bd_word G B h2 (by decide)
  split at h
  · cases h
  rename_i first s3 h3
  obtain ⟨B3, f3, rfl, _⟩ := bd_take G B2 h3 (by decide)
  obtain ⟨B3', a3', f3'⟩ := bd_number B3 (names := st.next.next.moods) (t := first) (by omega)
  have r3 : (numberOf st.next.next.moods first st.next.next).2.rules = st.rules ∧ (numberOf st.next.next.moods first st.next.next).2.pairs = st.pairs := by unfold numberOf; split <;> exact ⟨rfl, rfl⟩
  split at h
  · cases h
  rename_i second s4 h4
  obtain ⟨B4, f4, rfl, _⟩ := bd_take G B3' h4 (by decide)
  generalize hq4 : (numberOf st.next.next.moods first st.next.next).2.next = q4 at *
  have e4 : q4.at_ = st.at_ + 3 := by rw [← hq4]; show (numberOf st.next.next.moods first st.next.next).2.at_ + 1 = _; rw [a3']; rfl
  have r4 : q4.rules = st.rules ∧ q4.pairs = st.pairs := by rw [← hq4]; exact r3
  obtain ⟨B4', a4', f4'⟩ := bd_number B4 (names := q4.signs) (t := second) (by omega)
  have r4' : (numberOf q4.signs second q4).2.rules = st.rules ∧ (numberOf q4.signs second q4).2.pairs = st.pairs := by unfold numberOf; split <;> exact r4
  split at h
  · cases h
  rename_i t5 s5 h5
  obtain ⟨B5, f5, rfl⟩ := bd_word G B4' h5 (by decide)
  generalize hq5 : (numberOf q4.signs second q4).2.next = q5 at *
  have e5 : q5.at_ = st.at_ + 4 := by rw [← hq5]; show (numberOf q4.signs second q4).2.at_ + 1 = _; rw [a4', e4]
  have r5 : q5.rules = st.rules ∧ q5.pairs = st.pairs := by rw [← hq5]; exact r4'
  split at h
  · cases h
  rename_i lf s6 h6
  obtain ⟨B6, f6, rfl, _⟩ := bd_take G B5 h6 (by decide)
  obtain ⟨B6', a6', f6'⟩ := bd_number B6 (names := q5.next.signs) (t := lf) (by omega)
  have r6' : (numberOf q5.next.signs lf q5.next).2.rules = st.rules ∧ (numberOf q5.next.signs lf q5.next).2.pairs = st.pairs := by unfold numberOf; split <;> exact r5
  split at h
  · cases h
  rename_i mv s7 h7
  obtain ⟨B7, f7, rfl⟩ := bd_kw G B6' h7
  generalize hq7 : (numberOf q5.next.signs lf q5.next).2.next = q7 at *
  have e7 : q7.at_ = st.at_ + 6 := by rw [← hq7]; show (numberOf q5.next.signs lf q5.next).2.at_ + 1 = _; rw [a6']; show q5.at_ + 1 + 1 = _; rw [e5]
  have r7 : q7.rules = st.rules ∧ q7.pairs = st.pairs := by rw [← hq7]; exact r6'
  split at h
  · cases h
  rename_i la s8 h8
  obtain ⟨B8, f8, rfl, _⟩ := bd_take G B7 h8 (by decide)
  obtain ⟨B8', a8', f8'⟩ := bd_number B8 (names := q7.next.moods) (t := la) (by omega)
  have r8' : (numberOf q7.next.moods la q7.next).2.rules = st.rules ∧ (numberOf q7.next.moods la q7.next).2.pairs = st.pairs := by unfold numberOf; split <;> exact r7
  split at h
  · cases h
  rename_i t9 s9 h9
  obtain ⟨B9, f9, rfl⟩ := bd_word G B8' h9 (by decide)
  generalize hq9 : (numberOf q7.next.moods la q7.next).2.next = q9 at *
  have e9 : q9.at_ = st.at_ + 8 := by rw [← hq9]; show (numberOf q7.next.moods la q7.next).2.at_ + 1 = _; rw [a8']; show q7.at_ + 1 + 1 = _; rw [e7]
  have r9 : q9.rules = st.rules ∧ q9.pairs = st.pairs := by rw [← hq9]; exact r8'
  cases h
  have hB := B.ru
  have hB2 := B.pr
  generalize hz : (if (first.text, second.text) ∈ q9.pairs then q9.found rTwice kw else q9) = z
  have Bz : Bd T z := by
    rw [← hz]
    split
    · exact B9.found (by omega)
    · exact B9
  have az : z.at_ = st.at_ + 8 := by rw [← hz]; split <;> exact e9
  have rz : z.rules = st.rules ∧ z.pairs = st.pairs := by rw [← hz]; split <;> exact r9
  refine ⟨⟨Bz.at_, Bz.fa, Bz.si, Bz.mo, Bz.ro, ?_, ?_, Bz.sp⟩, by show st.at_ < z.at_; omega⟩
  · refine Nat.le_trans (putA_len _ _ _) ?_
    show z.rules.length + 1 ≤ z.at_
    rw [rz.1, az]
    omega
  · show (if (first.text, second.text) ∈ z.pairs then z.pairs else z.pairs ++ [(first.text, second.text)]).length ≤ z.at_
    rw [az]
    split
    · rw [rz.2]; omega
    · rw [rz.2]; simp; omega
theorem bd_stmt (G : GoodT T) (B : Bd T st) {tiles : Nat} (h : parseStmt T tiles st = .ok ((), s1)) : Bd T s1 ∧ st.at_ < s1.at_ := by
  unfold parseStmt at h
  split at h
  · exact bd_robot G B h
  split at h
  · exact bd_put G B h
  split at h
  · exact bd_rule G B h
  · cases h
end
end Sw

end

section
set_option maxRecDepth 100000
set_option maxHeartbeats 4000000
/-! number_of, tile_of, the names -/
namespace Sw
open PySem PySem.Spec PyProof.Rows L2 SwA
def PLoc.nm (L : PLoc) (b : Bool) : Addr := if b then L.ml else L.sl
theorem idx_spec : ∀ {l : List Cs} {w : Cs}, w ∈ l → l[l.idxOf w]? = some w ∧ ∀ (m : Nat) z, m < l.idxOf w → l[m]? = some z → z ≠ w
  | [], w, h => by cases h
  | a :: r, w, h => by
    by_cases e : a = w
    · subst e
      have z : (a :: r).idxOf a = 0 := by simp [List.idxOf_cons]
      rw [z]
      exact ⟨rfl, fun m z hm => absurd hm (Nat.not_lt_zero m)⟩
    · have z : (a :: r).idxOf w = r.idxOf w + 1 := by
        rw [List.idxOf_cons]
        have : (a == w) = false := by simpa using e
        rw [this]
        rfl
      have hr : w ∈ r := by
        rcases List.mem_cons.mp h with q | q
        · exact absurd q.symm e
        · exact q
      obtain ⟨h1, h2⟩ := idx_spec hr
      rw [z]
      refine ⟨by simpa using h1, fun m y hm hy => ?_⟩
      cases m with
      | zero =>
        have : a = y := by simpa using hy
        rw [← this]
        exact e
      | succ m => exact h2 m y (by omega) (by simpa using hy)
section
variable {K : PySem.W.Frag} {H0 H H' : Hp} {p : Addr} {L : PLoc} {tas : List Addr} {T : List Tk} {st : PSt}
theorem PA.nmH (h : PA K H0 H p L tas T st) (b : Bool) : H (L.nm b) = some (.lst ((st.names b).map sV)) := by
  cases b
  · exact h.si
  · exact h.mo
/-- an object beside the parser is kept in mind -/
theorem PA.frame (h : PA K H0 H p L tas T st) {q : Addr} {o : HO} (hq : H q = some o) (hne : q ∉ [p, L.tl, L.fl, L.sl, L.ml, L.rl, L.rd, L.pd, L.sd]) : PA K (upd H0 q o) H p L tas T st :=
  ⟨fun b u e => by
    by_cases hb : b = q
    · rw [hb, upd_same] at e
      cases e
      rw [hb]
      exact hq
    · rw [upd_ne hb] at e
      exact h.same _ _ e, h.ob, h.tk, h.tks, h.fa, h.si, h.mo, h.ro, h.ru, h.pr, h.sp, h.nd, fun a ha => by
    rw [upd_ne fun z => hne (by rw [← z]; exact ha)]
    exact h.new a ha⟩
theorem PA.unframe {q : Addr} {o : HO} (h : PA K (upd H0 q o) H p L tas T st) (nq : H0 q = none) : PA K H0 H p L tas T st ∧ H q = some o :=
  ⟨⟨(sameUpd (Same.refl H0) nq).trans h.same, h.ob, h.tk, h.tks, h.fa, h.si, h.mo, h.ro, h.ru, h.pr, h.sp, h.nd, fun a ha => (sameUpd (o := o) (Same.refl H0) nq).free (h.new a ha)⟩, h.same _ _ upd_same⟩
theorem PA.notin (h : PA K H0 H p L tas T st) {q : Addr} (hq : H q = none) : q ∉ [p, L.tl, L.fl, L.sl, L.ml, L.rl, L.rd, L.pd, L.sd] := by
  intro z
  simp only [List.mem_cons, List.not_mem_nil, or_false] at z
  obtain ⟨dx, ob⟩ := h.ob
  obtain ⟨fas, hf, _⟩ := h.fa
  obtain ⟨ras, hr, _⟩ := h.ro
  obtain ⟨kvs, hk, _⟩ := h.ru
  rcases z with z | z | z | z | z | z | z | z | z
  · rw [z, ob] at hq; cases hq
  · rw [z, h.tk] at hq; cases hq
  · rw [z, hf] at hq; cases hq
  · rw [z, h.si] at hq; cases hq
  · rw [z, h.mo] at hq; cases hq
  · rw [z, hr] at hq; cases hq
  · rw [z, hk] at hq; cases hq
  · rw [z, h.pr] at hq; cases hq
  · rw [z, h.sp] at hq; cases hq
/-- a list beside the parser is changed -/
theorem PA.updList (h : PA K H0 H p L tas T st) {q : Addr} {xs ys : List V} (hq : H q = some (.lst xs)) (nq : H0 q = none) (hne : q ∉ [p, L.tl, L.fl, L.sl, L.ml, L.rl, L.rd, L.pd, L.sd]) : PA K H0 (upd H q (.lst ys)) p L tas T st := by
  have ne : ∀ a ∈ [p, L.tl, L.fl, L.sl, L.ml, L.rl, L.rd, L.pd, L.sd], a ≠ q := fun a ha z => hne (by rw [← z]; exact ha)
  have kt := keepT (o' := .lst ys) hq (fun xs q => by cases q)
  have kk := keepK (K := K) (o' := .lst ys) hq (fun C d fs q => by cases q)
  exact ⟨sameUpd h.same nq, (let ⟨dx, e⟩ := h.ob; ⟨dx, (upd_ne (ne _ (by simp))).trans e⟩), (upd_ne (ne _ (by simp))).trans h.tk, Paired.mapP h.tks fun a t q => kk a t q,
    (let ⟨fas, e1, e2⟩ := h.fa; ⟨fas, (upd_ne (ne _ (by simp))).trans e1, e2.mono kt⟩), (upd_ne (ne _ (by simp))).trans h.si, (upd_ne (ne _ (by simp))).trans h.mo,
    (let ⟨ras, e1, e2⟩ := h.ro; ⟨ras, (upd_ne (ne _ (by simp))).trans e1, Paired.mapP e2 fun _ _ q => kt _ _ q⟩),
    (let ⟨kvs, e1, e2⟩ := h.ru; ⟨kvs, (upd_ne (ne _ (by simp))).trans e1, Paired.mapP e2 fun _ _ q => q.mono kt⟩), (upd_ne (ne _ (by simp))).trans h.pr, (upd_ne (ne _ (by simp))).trans h.sp, h.nd, h.new⟩
end
theorem lp_no_number_of {L : PLoc} {n : Nat} : (parF L n).lookup ("number_of" : Str) = none := by kernel_rfl
theorem lp_no_tile_of {L : PLoc} {n : Nat} : (parF L n).lookup ("tile_of" : Str) = none := by kernel_rfl
theorem e_unknown : ("unknown" : Str) = sx rUnknown := by decide +kernel
theorem e_tile : ("tile" : Str) = sx rTile := by decide +kernel
theorem e_duplicate : ("duplicate" : Str) = sx rDuplicate := by decide +kernel
theorem e_semi : (";" : Str) = sx wSemi := by decide +kernel
theorem e_robot : ("robot" : Str) = sx wRobot := by decide +kernel
theorem e_robots : ("robots" : Str) = sx rRobots := by decide +kernel
theorem e_right : ("right" : Str) = sx wRight := by decide +kernel
theorem e_put : ("put" : Str) = sx wPut := by decide +kernel
theorem e_again : ("again" : Str) = sx rAgain := by decide +kernel
theorem e_when : ("when" : Str) = sx wWhen := by decide +kernel
theorem e_leave : ("leave" : Str) = sx wLeave := by decide +kernel
theorem e_twice : ("twice" : Str) = sx rTwice := by decide +kernel
theorem e_corridor : ("corridor" : Str) = sx wCorridor := by decide +kernel
theorem e_signs : ("signs" : Str) = sx wSigns := by decide +kernel
theorem e_moods : ("moods" : Str) = sx wMoods := by decide +kernel
section
variable {P : Program} {w : World} {K : PySem.W.Frag} {mg : Str → Option Value} {base : Heap}
def spNumberOf (K : PySem.W.Frag) : Sp := fun vs H Q _ => ∃ (H0 : Hp) (p : Addr) (L : PLoc) (tas : List Addr) (T : List Tk) (st : PSt) (b : Bool) (a : Addr) (t : Tk), vs = [.ref p, .ref (L.nm b), .ref a] ∧ PA K H0 H p L tas T st ∧
  TI tas T a t ∧ st.faults.length ≤ 1000000 ∧ ∀ H', PA K H0 H' p L tas T (numberOf (st.names b) t st).2 → Q (.int (numberOf (st.names b) t st).1) H'
theorem sc_number_of : FnScope ["self", "names", "token"] ["self", "names", "token"] (defScope s_Parser_number_of) := ⟨rfl, rfl, rfl, by decide +kernel, rfl, by decide +kernel, by decide +kernel⟩
theorem ok_number_of (T : ParT K mg) : FnE P w K mg base CX0 2 ("Parser", some "number_of") ["self", "names", "token"] (spNumberOf K) := by
  obtain ⟨fd, F⟩ := T.number_of.d
  obtain ⟨fdF, GF, bF, kF⟩ := ok_found (P := P) (w := w) (base := base) T
  refine ⟨fd, F.ok sc_number_of (fun vs H Q E h => ?_) (fun cdv A outer s H vs Q E hr h => ?_), F.bindsN fun _ _ _ _ _ _ us hl => match us, hl with | [_, _, _], _ => rfl, F.kp⟩
  · obtain ⟨H0, p, L, tas, Ts, st, b, a, t, rfl, _⟩ := h
    rfl
  · obtain ⟨H0, p, L, tas, Ts, st, b, a, t, rfl, hP, hta, hz, k⟩ := h
    refine ⟨_, PSs.nox (pss_cons (ps_if (pt_cmpR op_in_seq (pe_fld (pv 2) rfl) (pv 1) rfl)
        (pss_one (ps_ret (pe_bm PySem.F.plainAttrs_list PySem.F.slot_list_index PySem.F.type_list_index mt_index (pv 1) (pa_cons (pe_fld (pv 2) rfl) pa_nil)))) pss_nil)
      (pss_cons (ps_expr (pe_meth (pv 0) T.par.c T.found.m GF hr bF .nil pass0 (pa_cons pe_str (pa_cons (pv 2) pa_nil)))) (pss_one (ps_ret pe_int)))), ?_⟩
    obtain ⟨dx, ob⟩ := hP.ob
    obtain ⟨dt, ht⟩ := hP.get hta
    have hn := hP.nmH b
    refine ⟨_, rfl, a, _, dt, _, _, rfl, ht, T.l.tok.c, T.l.tok.n _ (by simp), lk_text, _, rfl, L.nm b, _, rfl, .inl (SqL.of hn), rfl, flat_sx _, _, rfl, ?_⟩
    rw [inV_sx]
    refine ite2 (fun h => ?_) (fun h => ?_)
    · have h : t.text ∈ st.names b := of_decide_eq_true h
      obtain ⟨i1, i2⟩ := idx_spec h
      have k1 := k H (by unfold numberOf; rw [if_pos h]; exact hP)
      have e : (numberOf (st.names b) t st).1 = (st.names b).idxOf t.text := by unfold numberOf; rw [if_pos h]
      rw [e] at k1
      refine ⟨_, rfl, .inl ⟨rfl, _, SqL.of hn⟩, _, rfl, a, _, dt, _, _, rfl, ht, T.l.tok.c, T.l.tok.n _ (by simp), lk_text, L.nm b, _, _, (st.names b).idxOf t.text, sV t.text, rfl, rfl, SqL.of hn, rfl, flat_sx _, by rw [List.getElem?_map, i1]; rfl, by rw [eq_str_sx]; exact decide_eq_true rfl, fun m z' hm hz' => ?_, k1⟩
      rw [List.getElem?_map] at hz'
      cases q : (st.names b)[m]? with
      | none => rw [q] at hz'; cases hz'
      | some y =>
        rw [q] at hz'
        cases hz'
        rw [eq_str_sx]
        exact decide_eq_false (i2 m y hm q)
    · have h : t.text ∉ st.names b := fun q => h (decide_eq_true q)
      refine ⟨_, rfl, p, dx, _, rfl, ob, lp_no_found, _, rfl, H0, p, L, tas, Ts, st, rUnknown, a, t, by rw [e_unknown]; rfl, hP, hta, hz, fun H' hP' => ?_⟩
      have k1 := k H' (by unfold numberOf; rw [if_neg h]; exact hP')
      have e : (numberOf (st.names b) t st).1 = 0 := by unfold numberOf; rw [if_neg h]
      rw [e] at k1
      exact k1
def spTileOf (K : PySem.W.Frag) : Sp := fun vs H Q E => ∃ (H0 : Hp) (p : Addr) (L : PLoc) (tas : List Addr) (T : List Tk) (st : PSt) (tiles : Nat), vs = [.ref p, .int tiles] ∧ PA K H0 H p L tas T st ∧ GoodT T ∧ st.at_ < T.length ∧ st.faults.length ≤ 1000000 ∧
  Res K H0 p L tas T (tileOf T tiles st) Q E retN
theorem sc_tile_of : FnScope ["self", "tiles", "token"] ["self", "tiles"] (defScope s_Parser_tile_of) := ⟨rfl, rfl, rfl, by decide +kernel, rfl, by decide +kernel, by decide +kernel⟩
theorem TI.mem {tas : List Addr} {T : List Tk} {a : Addr} {t : Tk} (h : TI tas T a t) : t ∈ T := let ⟨_, _, e⟩ := h; List.mem_of_getElem? e
theorem int_sx {w : Cs} (h : w.all isD = true) (h1 : 1 ≤ w.length) (h2 : w.length ≤ 2) : intText? (sx w) = some (numVal w : Int) := by
  have e : (sx w).cps.toList = w := rfl
  have z := PySem.intText_digits (x := sx w) (by
    rw [e]
    intro c hc
    have q := List.all_eq_true.mp h c hc
    unfold isD at q
    rw [Bool.and_eq_true] at q
    exact ⟨Nat.le_of_ble_eq_true q.1, Nat.le_of_ble_eq_true q.2⟩) (by rw [e]; intro q; rw [q] at h1; simp at h1) (by rw [len_sx]; omega)
  rw [e] at z
  exact z
theorem ok_tile_of (T : ParT K mg) : FnE P w K mg base (L2.CX P w) 5 ("Parser", some "tile_of") ["self", "tiles"] (spTileOf K) := by
  obtain ⟨fd, F⟩ := T.tile_of.d
  obtain ⟨fdF, GF, bF, kF⟩ := ok_found (P := P) (w := w) (base := base) T
  obtain ⟨fdT, GT, bT, kT⟩ := ok_take (P := P) (w := w) (base := base) T
  obtain ⟨t1, mNUM⟩ := T.l.NUMBER
  refine ⟨fd, F.ok sc_tile_of (fun vs H Q E h => ?_) (fun cdv A outer s H vs Q E hr h => ?_), F.bindsN fun _ _ _ _ _ _ us hl => match us, hl with | [_, _], _ => rfl, F.kp⟩
  · obtain ⟨H0, p, L, tas, Ts, st, tiles, rfl, _⟩ := h
    rfl
  · obtain ⟨H0, p, L, tas, Ts, st, tiles, rfl, hP, hG, hi, hz, R⟩ := h
    have hr1 : Room 1 _ := hr.mono (by decide)
    refine ⟨_, (pss_cons (ps_set (i := 2) sc_tile_of.nd rfl (.inl rfl) (pe_meth (pv 0) T.par.c T.take.m GT hr bT .nil (passes_call (takes_of rfl rfl rfl rfl) (fun _ _ _ _ h => h)) (pa_cons (pe_glob (v := .str "number") rfl mNUM ⟨_, rfl⟩) pa_nil)))
      (pss_cons (ps_if (pt_cmpR op_ge (pe_callTy call_int_str (by rfl) T.int (by decide +kernel) (pa_cons (pe_fld (pv 2) rfl) pa_nil)) (pv 1) (nomark _))
        (pss_one (ps_expr (pe_meth (pv 0) T.par.c T.found.m GF hr1 bF .nil pass0 (pa_cons pe_str (pa_cons (pv 2) pa_nil))))) pss_nil)
      (pss_one (ps_ret (pe_callTy call_int_str (by rfl) T.int (by decide +kernel) (pa_cons (pe_fld (pv 2) rfl) pa_nil)))))), ?_⟩
    obtain ⟨dx, ob⟩ := hP.ob
    refine ⟨_, rfl, p, dx, _, rfl, ob, lp_no_take, H0, p, L, tas, Ts, st, .number, rfl, hP, hi, ⟨fun t s1 ht v H1 hv hP1 => ?_, fun l c he => R.er l c (by simp only [tileOf, he])⟩⟩
    obtain ⟨a, rfl, hta⟩ := hv
    have hk := (take_ok ht).2.2
    have hs1 := (take_ok ht).1
    obtain ⟨⟨n1, n2⟩, n3⟩ := hG.num t hta.mem hk
    have hint := int_sx n3 n1 n2
    obtain ⟨dt, htk⟩ := hP1.get hta
    obtain ⟨dx1, ob1⟩ := hP1.ob
    refine ⟨_, rfl, a, _, dt, _, _, rfl, htk, T.l.tok.c, T.l.tok.n _ (by simp), lk_text, _, _, rfl, hint, by rw [len_sx]; omega, _, rfl, _, _, rfl, rfl, _, rfl, ?_⟩
    refine ite2 (fun h => ?_) (fun h => ?_)
    · have h := of_decide_eq_true h
      refine ⟨_, rfl, p, dx1, _, rfl, ob1, lp_no_found, _, rfl, H0, p, L, tas, Ts, s1, rTile, a, t, by rw [e_tile]; rfl, hP1, hta, by rw [hs1]; exact hz, fun H2 hP2 => ?_⟩
      obtain ⟨dt2, htk2⟩ := hP2.get hta
      refine ⟨_, rfl, a, _, dt2, _, _, rfl, htk2, T.l.tok.c, T.l.tok.n _ (by simp), lk_text, _, _, rfl, hint, by rw [len_sx]; omega, ?_⟩
      exact R.ok (numVal t.text) _ (by simp only [tileOf, ht, if_pos (show tiles ≤ numVal t.text by omega)]) _ _ rfl hP2
    · have h : ¬ (tiles : Int) ≤ (numVal t.text : Nat) := fun q => h (decide_eq_true q)
      refine ⟨_, rfl, a, _, dt, _, _, rfl, htk, T.l.tok.c, T.l.tok.n _ (by simp), lk_text, _, _, rfl, hint, by rw [len_sx]; omega, ?_⟩
      exact R.ok (numVal t.text) _ (by simp only [tileOf, ht, if_neg (show ¬ tiles ≤ numVal t.text by omega)]) _ _ rfl hP1
end
end Sw

end

section
set_option maxRecDepth 100000
set_option maxHeartbeats 4000000
/-! parse_names -/
namespace Sw
open PySem PySem.Spec PyProof.Rows L2 SwA
theorem Paired_idx {α β : Type} {F : α → β → Prop} : ∀ {l : List α} {m : List β} {i : Nat} {a : α}, Paired F l m → l[i]? = some a → ∃ b, m[i]? = some b ∧ F a b
  | _, _, i, _, .nil, h => by simp at h
  | _, _, 0, _, .cons x r, h => by simp at h; subst h; exact ⟨_, rfl, x⟩
  | _, _, i + 1, _, .cons x r, h => by
    obtain ⟨b, e, f⟩ := Paired_idx r (i := i) (by simpa using h)
    exact ⟨b, by simpa using e, f⟩
section
variable {P : Program} {w : World} {K : PySem.W.Frag} {mg : Str → Option Value} {base : Heap}
def spParseNames (K : PySem.W.Frag) : Sp := fun vs H Q E => ∃ (H0 : Hp) (p : Addr) (L : PLoc) (tas : List Addr) (T : List Tk) (st : PSt) (b : Bool), vs = [.ref p, sV (wordOf b), .ref (L.nm b), .int (mostOf b)] ∧ PA K H0 H p L tas T st ∧ GoodT T ∧ Bd T st ∧
  Res K H0 p L tas T (parseNames T b st) Q E retU
theorem sc_parse_names : FnScope ["self", "word", "names", "most", "tokens", "token"] ["self", "word", "names", "most"] (defScope s_Parser_parse_names) := ⟨rfl, rfl, rfl, by decide +kernel, rfl, by decide +kernel, by decide +kernel⟩
theorem ok_parse_names (T : ParT K mg) : FnE P w K mg base (L2.CX P w) 5 ("Parser", some "parse_names") ["self", "word", "names", "most"] (spParseNames K) := by
  obtain ⟨fd, F⟩ := T.parse_names.d
  obtain ⟨fdP, GP, bP, kP⟩ := ok_peek (P := P) (w := w) (base := base) T
  obtain ⟨fdF, GF, bF, kF⟩ := ok_found (P := P) (w := w) (base := base) T
  obtain ⟨fdT, GT, bT, kT⟩ := ok_take (P := P) (w := w) (base := base) T
  obtain ⟨fdW, GW, bW, kW⟩ := ok_take_word (P := P) (w := w) (base := base) T
  obtain ⟨t1, mNAME⟩ := T.l.NAME
  refine ⟨fd, F.ok sc_parse_names (fun vs H Q E h => ?_) (fun cdv A outer s H vs Q E hr h => ?_), F.bindsN fun _ _ _ _ _ _ us hl => match us, hl with | [_, _, _, _], _ => rfl, F.kp⟩
  · obtain ⟨H0, p, L, tas, Ts, st, b, rfl, _⟩ := h
    rfl
  · obtain ⟨H0, p, L, tas, Ts, st, b, rfl, hP, hG, hB, R⟩ := h
    have hr1 : Room 1 _ := hr.mono (by decide)
    refine ⟨_, (pss_cons (ps_expr (pe_meth (pv 0) T.par.c T.take_word.m GW hr bW .nil (passes_call (takes_of rfl rfl rfl rfl) (fun _ _ _ _ h => h)) (pa_cons (pv 1) pa_nil)))
      (pss_cons (ps_set (i := 4) sc_parse_names.nd rfl (.inl rfl) (pe_lst (pa_cons (pe_meth (pv 0) T.par.c T.take.m GT hr bT .nil (passes_call (takes_of rfl rfl rfl rfl) (fun _ _ _ _ h => h)) (pa_cons (pe_glob (v := .str "name") rfl mNAME ⟨_, rfl⟩) pa_nil)) pa_nil)))
      (pss_cons (ps_while (passes_of rfl) (pt_cmpR op_eq (pe_fld (pe_meth0 (pv 0) T.par.c T.peek.m GP hr1 bP .nil pass0) rfl) (pe_glob (v := .str "name") rfl mNAME ⟨_, rfl⟩) (nomark _))
        (pss_one (ps_expr (pe_bm PySem.F.plainAttrs_list PySem.F.slot_list_append PySem.F.type_list_append mt_append (pv 4) (pa_cons (pe_meth (pv 0) T.par.c T.take.m GT hr bT .nil (passes_call (takes_of rfl rfl rfl rfl) (fun _ _ _ _ h => h)) (pa_cons (pe_glob (v := .str "name") rfl mNAME ⟨_, rfl⟩) pa_nil)) pa_nil)))))
      (pss_cons (ps_expr (pe_meth (pv 0) T.par.c T.take_word.m GW hr bW .nil (passes_call (takes_of rfl rfl rfl rfl) (fun _ _ _ _ h => h)) (pa_cons pe_str pa_nil)))
      (pss_one (ps_for (passes_of rfl) rfl (pi_list (pv 4)) (pg_name (i := 5) sc_parse_names.nd rfl (.inl rfl))
        (pss_one (ps_if (pt_cmpR op_in_seq (pe_fld (pv 5) rfl) (pv 2) rfl)
          (pss_one (ps_expr (pe_meth (pv 0) T.par.c T.found.m GF hr1 bF .nil pass0 (pa_cons pe_str (pa_cons (pv 5) pa_nil)))))
          (pss_one (ps_if (pt_cmpR op_eq (pe_callB call_len_seq (by rfl) T.l.len boot_len (pa_cons (pv 2) pa_nil)) (pv 3) (nomark _))
            (pss_one (ps_expr (pe_meth (pv 0) T.par.c T.found.m GF hr1 bF .nil pass0 (pa_cons (pv 1) (pa_cons (pv 5) pa_nil)))))
            (pss_one (ps_expr (pe_bm PySem.F.plainAttrs_list PySem.F.slot_list_append PySem.F.type_list_append mt_append (pv 2) (pa_cons (pe_fld (pv 5) rfl) pa_nil)))))))))))))), ?_⟩
    obtain ⟨dx, ob⟩ := hP.ob
    refine ⟨_, rfl, p, dx, _, rfl, ob, lp_no_take_word, _, rfl, H0, p, L, tas, Ts, st, wordOf b, rfl, hP, hB.at_, ⟨fun t0 s1 h1 v H1 hv hP1 => ?_, fun l c he => R.er l c (by simp only [parseNames, he])⟩⟩
    clear hv
    obtain ⟨B1, f1, e1⟩ := bd_word hG hB h1 (wordOf_ne b)
    obtain ⟨dx1, ob1⟩ := hP1.ob
    refine ⟨_, rfl, p, dx1, _, rfl, ob1, lp_no_take, H0, p, L, tas, Ts, s1, .name, rfl, hP1, B1.at_, ⟨fun t s2 h2 v H2 hv hP2 => ?_, fun l c he => R.er l c (by simp only [parseNames, h1, he])⟩⟩
    obtain ⟨a, rfl, hta⟩ := hv
    obtain ⟨B2, f2, e2, _⟩ := bd_take hG B1 h2 (by decide)
    have hk2 := (take_ok h2).2.2
    refine ⟨(by show 1 ≤ sizeLine; decide), fun q nq => ?_⟩
    have hne := hP2.notin nq
    have nq0 : H0 q = none := hP2.same.free nq
    have hP2' := hP2.mono (sameUpd (o := .lst [.ref a]) (Same.refl H2) nq)
    have as2 : 2 ≤ s2.at_ := by
      rw [e2, e1]
      show 2 ≤ st.at_ + 1 + 1
      omega
    refine ⟨fun m σ H => ∃ (f : Nat) (acc : List Tk) (aas : List Addr) (s : PSt), m + s.at_ = Ts.length ∧ σ = [some (.ref p), some (sV (wordOf b)), some (.ref (L.nm b)), some (.int (mostOf b)), some (.ref q), none] ∧
      H q = some (.lst (aas.map V.ref)) ∧ Paired (TI tas Ts) aas acc ∧ PA K H0 H p L tas Ts s ∧ Bd Ts s ∧ Ts.length ≤ f + s.at_ ∧ moreNames Ts Ts.length s2 [t] = moreNames Ts f s acc ∧ acc.length + 1 ≤ s.at_,
      ⟨Ts.length - s2.at_, Ts.length, [t], [a], s2, Nat.sub_add_cancel (Nat.le_of_lt B2.at_), rfl, upd_same, .cons hta .nil, hP2', B2, Nat.le_add_right _ _, rfl, as2⟩, ?_⟩
    rintro m σ H3 ⟨f, acc, aas, s, hm, rfl, hq, hpa, hP3, B3, hf, hmn, hac⟩
    obtain ⟨dx3, ob3⟩ := hP3.ob
    have hlen := hG.len
    have B3at := B3.at_
    refine ⟨_, rfl, p, dx3, _, rfl, ob3, lp_no_peek, H0, p, L, tas, Ts, s, rfl, hP3, B3.at_, fun a3 hta3 => ?_⟩
    obtain ⟨dt3, ht3⟩ := hP3.get hta3
    refine ⟨a3, _, dt3, _, _, rfl, ht3, T.l.tok.c, T.l.tok.n _ (by simp), lk_kind, rfl, _, rfl, ?_⟩
    obtain ⟨f', rfl⟩ : ∃ f', f = f' + 1 := ⟨f - 1, by omega⟩
    refine ite2 (fun h => ?_) (fun h => ?_)
    · have h : (peek Ts s).kind = .name := kd_inj (b := .name) (V.str.inj (of_decide_eq_true h))
      refine ⟨_, fun _ _ n => n, ?_⟩
      refine ⟨_, rfl, .inl ⟨rfl, _, SqL.of hq⟩, _, rfl, p, dx3, _, rfl, ob3, lp_no_take, upd H0 q (.lst (aas.map V.ref)), p, L, tas, Ts, s, .name, rfl, hP3.frame hq hne, B3.at_, ⟨fun t' s' h' v H' hv hP' => ?_, fun l c he => ?_⟩⟩
      · obtain ⟨a', rfl, hta'⟩ := hv
        obtain ⟨hP'', hq'⟩ := hP'.unframe nq0
        obtain ⟨B', f'', e', _⟩ := bd_take hG B3 h' (by decide)
        have ht' := (take_ok h').2.1
        have hlt : (aas.map V.ref).length < sizeLine := by
          rw [List.length_map, hpa.length, sizeLine_eq]
          omega
        have ea : s'.at_ = s.at_ + 1 := by rw [e']; rfl
        refine ⟨q, _, _, rfl, rfl, hq', hlt, m - 1, by omega, f', acc ++ [t'], aas ++ [a'], s', by omega, rfl, by rw [upd_same, List.map_append]; rfl, Paired_snoc hpa hta', hP''.updList hq' nq0 hne, B', by omega, ?_, by simp; omega⟩
        rw [hmn]
        conv => lhs; unfold moreNames
        rw [if_pos h, e', ht']
      · exfalso
        unfold take at he
        rw [if_pos h] at he
        cases he
    · have h : ¬ (peek Ts s).kind = .name := fun q => h (decide_eq_true (by rw [q]; rfl))
      have hmn2 : moreNames Ts Ts.length s2 [t] = (acc, s) := by
        rw [hmn]
        unfold moreNames
        rw [if_neg h]
      have em1 : (moreNames Ts Ts.length s2 [t]).1 = acc := by rw [hmn2]
      have em2 : (moreNames Ts Ts.length s2 [t]).2 = s := by rw [hmn2]
      refine ⟨_, rfl, p, dx3, _, rfl, ob3, lp_no_take_word, upd H0 q (.lst (aas.map V.ref)), p, L, tas, Ts, s, wSemi, by rw [e_semi]; rfl, hP3.frame hq hne, B3.at_, ⟨fun t4 s4 h4 v H4 hv hP4 => ?_, fun l c he => ?_⟩⟩
      · clear hv
        obtain ⟨hP4', hq4⟩ := hP4.unframe nq0
        obtain ⟨B4, f4, e4⟩ := bd_word hG B3 h4 (by decide)
        have hfin : parseNames Ts b st = .ok ((), acc.foldl (addName b) s4) := by
          simp only [parseNames, h1, h2, em1, em2, h4]
        refine ⟨_, rfl, q, rfl, ⟨_, SqL.of hq4⟩, for_list (K := K) (a := q) (xs := aas.map V.ref) (fun i σ H => ∃ o5 : Option V, σ = [some (.ref p), some (sV (wordOf b)), some (.ref (L.nm b)), some (.int (mostOf b)), some (.ref q), o5] ∧
          H q = some (.lst (aas.map V.ref)) ∧ PA K H0 H p L tas Ts ((acc.take i).foldl (addName b) s4)) ⟨none, rfl, hq4, hP4'⟩ (fun i σ H _ hh => ?_) ?_ ?_⟩
        · obtain ⟨o5, rfl, hq5, _⟩ := hh
          exact SqL.of hq5
        · rintro i x σ H5 hx ⟨o5, rfl, hq5, hP5⟩
          rw [List.getElem?_map] at hx
          cases hai : aas[i]? with
          | none => rw [hai] at hx; cases hx
          | some ai =>
            rw [hai] at hx
            cases hx
            obtain ⟨ti, hti, hTI⟩ := Paired_idx hpa hai
            have hstep : (acc.take (i + 1)).foldl (addName b) s4 = addName b ((acc.take i).foldl (addName b) s4) ti := by
              rw [List.take_succ, hti, List.foldl_append]
              rfl
            rw [hstep]
            obtain ⟨c1, c2, c3, _⟩ := adds_spec b (acc.take i) s4 (B4.names b)
            generalize hs5 : (acc.take i).foldl (addName b) s4 = s5 at *
            have hfl : s5.faults.length ≤ 1000000 := by
              have z1 := B4.fa
              have z2 := B4.at_
              have z3 : (acc.take i).length ≤ acc.length := by rw [List.length_take]; omega
              omega
            obtain ⟨dx5, ob5⟩ := hP5.ob
            obtain ⟨dt5, ht5⟩ := hP5.get hTI
            have hn5 := hP5.nmH b
            refine ⟨_, rfl, ai, _, dt5, _, _, rfl, ht5, T.l.tok.c, T.l.tok.n _ (by simp), lk_text, _, rfl, L.nm b, _, rfl, .inl (SqL.of hn5), rfl, flat_sx _, _, rfl, ?_⟩
            rw [inV_sx]
            refine ite2 (fun h => ?_) (fun h => ?_)
            · have h : ti.text ∈ s5.names b := of_decide_eq_true h
              refine ⟨_, rfl, p, dx5, _, rfl, ob5, lp_no_found, _, rfl, upd H0 q (.lst (aas.map V.ref)), p, L, tas, Ts, s5, rDuplicate, ai, ti, by rw [e_duplicate]; rfl, hP5.frame hq5 hne, hTI, hfl, fun H6 hP6 => ?_⟩
              obtain ⟨hP6', hq6⟩ := hP6.unframe nq0
              refine ⟨_, rfl, hq6, ?_⟩
              unfold addName
              rw [if_pos h]
              exact hP6'
            · have h : ti.text ∉ s5.names b := fun q => h (decide_eq_true q)
              refine ⟨_, rfl, L.nm b, _, rfl, .inl (SqL.of hn5), _, rfl, rfl, _, rfl, ?_⟩
              rw [List.length_map]
              refine ite2 (fun h2 => ?_) (fun h2 => ?_)
              · have h2 : (s5.names b).length = mostOf b := by
                  have z := V.int.inj (of_decide_eq_true h2)
                  exact Int.ofNat_inj.mp z
                refine ⟨_, rfl, p, dx5, _, rfl, ob5, lp_no_found, _, rfl, _, rfl, upd H0 q (.lst (aas.map V.ref)), p, L, tas, Ts, s5, wordOf b, ai, ti, rfl, hP5.frame hq5 hne, hTI, hfl, fun H6 hP6 => ?_⟩
                obtain ⟨hP6', hq6⟩ := hP6.unframe nq0
                refine ⟨_, rfl, hq6, ?_⟩
                unfold addName
                rw [if_neg h, if_pos h2]
                exact hP6'
              · have h2 : ¬ (s5.names b).length = mostOf b := fun q => h2 (decide_eq_true (by rw [q]))
                have hlt : ((s5.names b).map sV).length < sizeLine := by
                  rw [List.length_map, sizeLine_eq]
                  have : mostOf b ≤ 6 := by cases b <;> decide
                  omega
                have hqn : q ≠ L.nm b := fun z => hne (by
                  rw [z]
                  cases b
                  · simp [PLoc.nm]
                  · simp [PLoc.nm])
                refine ⟨_, rfl, .inl ⟨rfl, _, SqL.of hn5⟩, _, rfl, ai, _, dt5, _, _, rfl, ht5, T.l.tok.c, T.l.tok.n _ (by simp), lk_text, L.nm b, _, _, rfl, rfl, hn5, hlt, ?_⟩
                have em : ((s5.names b).map sV ++ [sV ti.text]) = (s5.names b ++ [ti.text]).map sV := by rw [List.map_append]; rfl
                refine ⟨_, rfl, by rw [upd_ne hqn]; exact hq5, ?_⟩
                rw [em]
                unfold addName
                rw [if_neg h, if_neg h2]
                cases b
                · exact hP5.set_sl hn5 trivial
                · exact hP5.set_ml hn5 trivial
        · rintro σ H6 ⟨o5, rfl, hq6, hP6⟩
          rw [List.length_map] at hP6
          have ea : aas.length = acc.length := hpa.length
          rw [ea, List.take_length] at hP6
          exact R.ok () _ hfin _ _ rfl hP6
      · refine (R.er l c ?_).mono (sameUpd (Same.refl H0) nq0)
        simp only [parseNames, h1, h2, em2, he]
end
end Sw

end

section
set_option maxRecDepth 100000
set_option maxHeartbeats 4000000
/-! parse_robot, parse_put, parse_rule -/
namespace Sw
open PySem PySem.Spec PyProof.Rows L2 SwA
/-! ### the dicts -/
theorem key_inl {a b : Nat} : ((.inl (a : Int) : Key) = .inl (b : Int)) ↔ a = b := ⟨fun h => by injection h with h; omega, fun h => by rw [h]⟩
theorem keyT_inj {a b : Nat × Nat} : keyT a = keyT b ↔ a = b := by
  constructor
  · intro h
    unfold keyT at h
    injection h with h1 h2
    injection h2 with h2 _
    have e1 := key_inl.mp h1
    have e2 := key_inl.mp h2
    exact Prod.ext e1 e2
  · intro h; rw [h]
theorem pairK_inj {a b : Cs × Cs} : (pairK a).1 = (pairK b).1 ↔ a = b := by
  constructor
  · intro h
    unfold pairK at h
    injection h with h1 h2
    injection h2 with h2 _
    injection h1 with h1
    injection h2 with h2
    exact Prod.ext (sx_inj h1) (sx_inj h2)
  · intro h; rw [h]
theorem spots_any (l : List (Nat × Nat)) (n : Nat) : (valV (l.map spotK) (.inl (n : Int) : Key)).isSome = l.any fun kv => decide (kv.1 = n) := by
  rw [← valV_any]
  rw [List.any_map]
  congr 1
  funext kv
  show decide ((.inl (kv.1 : Int) : Key) = .inl (n : Int)) = decide (kv.1 = n)
  rw [Bool.eq_iff_iff, decide_eq_true_iff, decide_eq_true_iff, key_inl]
theorem spots_put (l : List (Nat × Nat)) (n v : Nat) : putK (l.map spotK) (.inl (n : Int) : Key) (.int v) = (putA l n v).map spotK := by
  unfold putK putA
  rw [valV_any, spots_any]
  split
  · rw [List.map_map, List.map_map]
    refine List.map_congr_left fun kv _ => ?_
    show (if (spotK kv).1 = .inl (n : Int) then ((spotK kv).1, V.int v) else spotK kv) = spotK (if kv.1 = n then (kv.1, v) else kv)
    by_cases e : kv.1 = n
    · rw [if_pos e, if_pos (by show (.inl (kv.1 : Int) : Key) = _; rw [e])]
      rfl
    · rw [if_neg e, if_neg (show ¬ (spotK kv).1 = .inl (n : Int) from fun q => e (key_inl.mp q))]
  · rw [List.map_append]
    rfl
theorem pairs_some (l : List (Cs × Cs)) (q : Cs × Cs) : (valV (l.map pairK) (pairK q).1).isSome = decide (q ∈ l) := by
  rw [← valV_any, List.any_map]
  rw [Bool.eq_iff_iff, List.any_eq_true, decide_eq_true_iff]
  constructor
  · rintro ⟨x, hx, e⟩
    have e := of_decide_eq_true e
    have e2 : (pairK x).1 = (pairK q).1 := e
    rw [pairK_inj] at e2
    rw [← e2]
    exact hx
  · intro h
    exact ⟨q, h, decide_eq_true rfl⟩
theorem pairs_put (l : List (Cs × Cs)) (q : Cs × Cs) : putK (l.map pairK) (pairK q).1 (.bl true) = (if q ∈ l then l else l ++ [q]).map pairK := by
  unfold putK
  rw [valV_any, pairs_some]
  by_cases h : q ∈ l
  · rw [if_pos (decide_eq_true h), if_pos h, List.map_map]
    refine List.map_congr_left fun x _ => ?_
    show (if (pairK x).1 = (pairK q).1 then ((pairK x).1, V.bl true) else pairK x) = pairK x
    split <;> rfl
  · rw [if_neg (fun z => h (of_decide_eq_true z)), if_neg h, List.map_append]
    rfl
theorem rules_any {H : Hp} {k : Nat × Nat} : ∀ {rs : List ((Nat × Nat) × Rule)} {kvs : List (List Key × V)}, Paired (RuleAt H) rs kvs → (kvs.any fun kv => decide (kv.1 = keyT k)) = rs.any fun kv => decide (kv.1 = k)
  | _, _, .nil => rfl
  | _, _, .cons (a := r) (b := kv) h t => by
    rw [List.any_cons, List.any_cons, rules_any t]
    congr 1
    rw [h.1, Bool.eq_iff_iff, decide_eq_true_iff, decide_eq_true_iff, keyT_inj]
theorem rules_put {H : Hp} {k : Nat × Nat} {r : Rule} {t : Addr} (ht : H t = some (.tup [.int r.left, sV r.move, .int r.later])) {rs : List ((Nat × Nat) × Rule)} {kvs : List (List Key × V)} (h : Paired (RuleAt H) rs kvs) :
    Paired (RuleAt H) (putA rs k r) (putK kvs (keyT k) (.ref t)) := by
  unfold putA putK
  rw [rules_any h]
  split
  · rename_i hany
    clear hany
    induction h with
    | nil => exact .nil
    | @cons r0 kv l m h t ih =>
      refine .cons ?_ ih
      dsimp only
      by_cases e : r0.1 = k
      · rw [if_pos e, if_pos (by rw [h.1, e])]
        exact ⟨h.1, _, rfl, ht⟩
      · rw [if_neg e, if_neg (by rw [h.1]; exact fun q => e (keyT_inj.mp q))]
        exact h
  · exact Paired_snoc h ⟨rfl, t, rfl, ht⟩
theorem Paired_len {α β : Type} {F : α → β → Prop} {l : List α} {m : List β} (h : Paired F l m) : l.length = m.length := h.length
theorem lp_no_parse_names {L : PLoc} {n : Nat} : (parF L n).lookup ("parse_names" : Str) = none := by kernel_rfl
theorem lp_no_parse_robot {L : PLoc} {n : Nat} : (parF L n).lookup ("parse_robot" : Str) = none := by kernel_rfl
theorem lp_no_parse_put {L : PLoc} {n : Nat} : (parF L n).lookup ("parse_put" : Str) = none := by kernel_rfl
theorem lp_no_parse_rule {L : PLoc} {n : Nat} : (parF L n).lookup ("parse_rule" : Str) = none := by kernel_rfl
theorem lp_no_parse_plan {L : PLoc} {n : Nat} : (parF L n).lookup ("parse_plan" : Str) = none := by kernel_rfl
section
variable {P : Program} {w : World} {K : PySem.W.Frag} {mg : Str → Option Value} {base : Heap}
def spParseRobot (K : PySem.W.Frag) : Sp := fun vs H Q E => ∃ (H0 : Hp) (p : Addr) (L : PLoc) (tas : List Addr) (T : List Tk) (st : PSt) (tiles : Nat), vs = [.ref p, .int tiles] ∧ PA K H0 H p L tas T st ∧ GoodT T ∧ Bd T st ∧
  Res K H0 p L tas T (parseRobot T tiles st) Q E retU
theorem sc_parse_robot : FnScope ["self", "tiles", "keyword", "tile", "way"] ["self", "tiles"] (defScope s_Parser_parse_robot) := ⟨rfl, rfl, rfl, by decide +kernel, rfl, by decide +kernel, by decide +kernel⟩
theorem ok_parse_robot (T : ParT K mg) : FnE P w K mg base (L2.CX P w) 6 ("Parser", some "parse_robot") ["self", "tiles"] (spParseRobot K) := by
  obtain ⟨fd, F⟩ := T.parse_robot.d
  obtain ⟨fdF, GF, bF, kF⟩ := ok_found (P := P) (w := w) (base := base) T
  obtain ⟨fdT, GT, bT, kT⟩ := ok_tile_of (P := P) (w := w) (base := base) T
  obtain ⟨fdW, GW, bW, kW⟩ := ok_take_word (P := P) (w := w) (base := base) T
  obtain ⟨fdK, GK, bK, kK⟩ := ok_take_keyword (P := P) (w := w) (base := base) T
  obtain ⟨t1, mMAX⟩ := T.MAX_ROBOTS
  refine ⟨fd, F.ok sc_parse_robot (fun vs H Q E h => ?_) (fun cdv A outer s H vs Q E hr h => ?_), F.bindsN fun _ _ _ _ _ _ us hl => match us, hl with | [_, _], _ => rfl, F.kp⟩
  · obtain ⟨H0, p, L, tas, Ts, st, tiles, rfl, _⟩ := h
    rfl
  · obtain ⟨H0, p, L, tas, Ts, st, tiles, rfl, hP, hG, hB, R⟩ := h
    have hr1 : Room 1 _ := hr.mono (by decide)
    have hr4 : Room 4 _ := hr.mono (by decide)
    refine ⟨_, (pss_cons (ps_set (i := 2) sc_parse_robot.nd rfl (.inl rfl) (pe_meth (pv 0) T.par.c T.take_word.m GW hr4 bW .nil (passes_call (takes_of rfl rfl rfl rfl) (fun _ _ _ _ h => h)) (pa_cons pe_str pa_nil)))
      (C8.pss_cut (ps_if (pt_cmpR op_eq (pe_callB call_len_seq (by rfl) T.l.len boot_len (pa_cons (pe_fld (pv 0) rfl) pa_nil)) (pe_glob (v := .int 3) rfl mMAX ⟨_, rfl⟩) (nomark _))
        (pss_one (ps_expr (pe_meth (pv 0) T.par.c T.found.m GF hr1 bF .nil pass0 (pa_cons pe_str (pa_cons (pv 2) pa_nil))))) pss_nil)
      (pss_cons (ps_set (i := 3) sc_parse_robot.nd rfl (.inl rfl) (pe_meth (pv 0) T.par.c T.tile_of.m GT hr bT .nil (passes_call (takes_of rfl rfl rfl rfl) (fun _ _ _ _ h => h)) (pa_cons (pv 1) pa_nil)))
      (pss_cons (ps_set (i := 4) sc_parse_robot.nd rfl (.inl rfl) (pe_meth (pv 0) T.par.c T.take_keyword.m GK hr4 bK .nil (passes_call (takes_of rfl rfl rfl rfl) (fun _ _ _ _ h => h)) (pa_cons (pe_glob (v := .ref (He.ga K nWays)) rfl T.WAYS rfl) pa_nil)))
      (pss_cons (ps_expr (pe_meth (pv 0) T.par.c T.take_word.m GW hr4 bW .nil (passes_call (takes_of rfl rfl rfl rfl) (fun _ _ _ _ h => h)) (pa_cons pe_str pa_nil)))
      (pss_one (ps_expr (pe_bm PySem.F.plainAttrs_list PySem.F.slot_list_append PySem.F.type_list_append mt_append (pe_fld (pv 0) rfl)
        (pa_cons (pe_tup (pa_cons (pv 3) (pa_cons (pe_cmpR op_eq (pe_fld (pv 4) rfl) pe_str (nomark _)) pa_nil))) pa_nil))))))))), ?_⟩
    obtain ⟨dx, ob⟩ := hP.ob
    refine ⟨_, rfl, p, dx, _, rfl, ob, lp_no_take_word, H0, p, L, tas, Ts, st, wRobot, by rw [e_robot]; rfl, hP, hB.at_, ⟨fun kw s1 h1 v H1 hv hP1 => ?_, fun l c he => R.er l c (by simp only [parseRobot, he])⟩⟩
    obtain ⟨a1, rfl, hta1⟩ := hv
    obtain ⟨B1, f1, e1⟩ := bd_word hG hB h1 (by decide)
    have hlen := hG.len
    have hat := B1.at_
    have hB1f := B1.fa
    obtain ⟨ras, hra, hras⟩ := hP1.ro
    obtain ⟨dx1, ob1⟩ := hP1.ob
    have B2 : Bd Ts (if s1.robots.length = 3 then s1.found rRobots kw else s1) := by
      split
      · exact B1.found (by omega)
      · exact B1
    refine ⟨fun σ' H' => σ' = [some (.ref p), some (.int tiles), some (.ref a1), none, none] ∧ PA K H0 H' p L tas Ts (if s1.robots.length = 3 then s1.found rRobots kw else s1), ?_, ?_⟩
    · refine ⟨_, rfl, p, _, dx1, _, _, rfl, ob1, T.par.c, T.par.n _ (by simp), lp_robots, L.rl, _, rfl, .inl (SqL.of hra), rfl, _, rfl, ?_⟩
      rw [List.length_map, hras.length]
      refine ite2 (fun h => ?_) (fun h => ?_)
      · have h : s1.robots.length = 3 := Int.ofNat_inj.mp (V.int.inj (of_decide_eq_true h))
        refine ⟨_, rfl, p, dx1, _, rfl, ob1, lp_no_found, _, rfl, H0, p, L, tas, Ts, s1, rRobots, a1, kw, by rw [e_robots]; rfl, hP1, hta1, by omega, fun H2 hP2 => ⟨rfl, ?_⟩⟩
        rw [if_pos h]
        exact hP2
      · have h : ¬ s1.robots.length = 3 := fun q => h (decide_eq_true (by rw [q]; rfl))
        refine ⟨rfl, ?_⟩
        rw [if_neg h]
        exact hP1
    · rintro σ' H2 ⟨rfl, hP2⟩
      generalize hs2 : (if s1.robots.length = 3 then s1.found rRobots kw else s1) = s2 at *
      obtain ⟨dx2, ob2⟩ := hP2.ob
      have B2f := B2.fa
      have B2a := B2.at_
      refine ⟨_, rfl, p, dx2, _, rfl, ob2, lp_no_tile_of, _, rfl, H0, p, L, tas, Ts, s2, tiles, rfl, hP2, hG, B2.at_, by omega, ⟨fun n s3 h3 v H3 hv hP3 => ?_, fun l c he => R.er l c (by simp only [parseRobot, h1, hs2, he])⟩⟩
      obtain rfl : v = .int n := hv
      obtain ⟨B3, f3, a3, r3, _⟩ := bd_tile hG B2 h3
      obtain ⟨dx3, ob3⟩ := hP3.ob
      refine ⟨_, rfl, p, dx3, _, rfl, ob3, lp_no_take_keyword, H0, p, L, tas, Ts, s3, He.ga K nWays, ways, rfl, hP3, B3.at_, T.ways H3, ⟨fun wy s4 h4 v H4 hv hP4 => ?_, fun l c he => R.er l c (by simp only [parseRobot, h1, hs2, h3, he])⟩⟩
      obtain ⟨a4, rfl, hta4⟩ := hv
      obtain ⟨B4, f4, e4⟩ := bd_kw hG B3 h4
      obtain ⟨dx4, ob4⟩ := hP4.ob
      refine ⟨_, rfl, p, dx4, _, rfl, ob4, lp_no_take_word, H0, p, L, tas, Ts, s4, wSemi, by rw [e_semi]; rfl, hP4, B4.at_, ⟨fun t5 s5 h5 v H5 hv hP5 => ?_, fun l c he => R.er l c (by simp only [parseRobot, h1, hs2, h3, h4, he])⟩⟩
      clear hv
      obtain ⟨B5, f5, e5⟩ := bd_word hG B4 h5 (by decide)
      obtain ⟨dx5, ob5⟩ := hP5.ob
      obtain ⟨dt, ht⟩ := hP5.get hta4
      obtain ⟨ras5, hra5, hras5⟩ := hP5.ro
      have B5r := B5.ro
      have B5a := B5.at_
      refine ⟨_, rfl, p, _, dx5, _, _, rfl, ob5, T.par.c, T.par.n _ (by simp), lp_robots, .inl ⟨rfl, _, SqL.of hra5⟩, _, rfl, _, rfl, a4, _, dt, _, _, rfl, ht, T.l.tok.c, T.l.tok.n _ (by simp), lk_text, rfl, (by show 2 ≤ sizeLine; decide), fun tu ntu => ?_⟩
      have nrl : L.rl ≠ tu := ne_of_none hra5 ntu
      have ed : decide (V.str (sx wy.text) = V.str "right") = decide (wy.text = wRight) := by
        rw [e_right, Bool.eq_iff_iff, decide_eq_true_iff, decide_eq_true_iff]
        exact ⟨fun q => sx_inj (V.str.inj q), fun q => by rw [q]⟩
      rw [ed]
      refine ⟨L.rl, _, _, rfl, rfl, by rw [upd_ne nrl]; exact hra5, by rw [List.length_map, hras5.length, sizeLine_eq]; omega, ?_⟩
      have sm := sameUpd (o := .tup [.int n, .bl (decide (wy.text = wRight))]) (Same.refl H5) ntu
      have hP6 := hP5.mono sm
      have em : (ras5.map V.ref ++ [V.ref tu]) = (ras5 ++ [tu]).map V.ref := by rw [List.map_append]; rfl
      rw [em]
      have hP7 := hP6.set_rl (ras := ras5 ++ [tu]) (rs := s5.robots ++ [(n, decide (wy.text = wRight))]) (sm _ _ hra5) (Paired_snoc (Paired.mapP hras5 fun a r q => keepT (sm _ _ hra5) (fun xs q => by cases q) _ _ (sm _ _ q)) (by
        show (upd _ L.rl _) tu = _
        rw [upd_ne (Ne.symm nrl), upd_same]))
      exact R.ok () _ (by simp only [parseRobot, h1, hs2, h3, h4, h5]) _ _ rfl hP7
end
end Sw

end

section
set_option maxRecDepth 100000
set_option maxHeartbeats 4000000
/-! parse_put, parse_rule -/
namespace Sw
open PySem PySem.Spec PyProof.Rows L2 SwA
section
variable {P : Program} {w : World} {K : PySem.W.Frag} {mg : Str → Option Value} {base : Heap}
def spParsePut (K : PySem.W.Frag) : Sp := fun vs H Q E => ∃ (H0 : Hp) (p : Addr) (L : PLoc) (tas : List Addr) (T : List Tk) (st : PSt) (tiles : Nat), vs = [.ref p, .int tiles] ∧ PA K H0 H p L tas T st ∧ GoodT T ∧ Bd T st ∧
  Res K H0 p L tas T (parsePut T tiles st) Q E retU
theorem sc_parse_put : FnScope ["self", "tiles", "sign", "token", "tile"] ["self", "tiles"] (defScope s_Parser_parse_put) := ⟨rfl, rfl, rfl, by decide +kernel, rfl, by decide +kernel, by decide +kernel⟩
theorem ok_parse_put (T : ParT K mg) : FnE P w K mg base (L2.CX P w) 6 ("Parser", some "parse_put") ["self", "tiles"] (spParsePut K) := by
  obtain ⟨fd, F⟩ := T.parse_put.d
  obtain ⟨fdP, GP, bP, kP⟩ := ok_peek (P := P) (w := w) (base := base) T
  obtain ⟨fdF, GF, bF, kF⟩ := ok_found (P := P) (w := w) (base := base) T
  obtain ⟨fdN, GN, bN, kN⟩ := ok_number_of (P := P) (w := w) (base := base) T
  obtain ⟨fdA, GA, bA, kA⟩ := ok_take (P := P) (w := w) (base := base) T
  obtain ⟨fdT, GT, bT, kT⟩ := ok_tile_of (P := P) (w := w) (base := base) T
  obtain ⟨fdW, GW, bW, kW⟩ := ok_take_word (P := P) (w := w) (base := base) T
  obtain ⟨t1, mNAME⟩ := T.l.NAME
  refine ⟨fd, F.ok sc_parse_put (fun vs H Q E h => ?_) (fun cdv A outer s H vs Q E hr h => ?_), F.bindsN fun _ _ _ _ _ _ us hl => match us, hl with | [_, _], _ => rfl, F.kp⟩
  · obtain ⟨H0, p, L, tas, Ts, st, tiles, rfl, _⟩ := h
    rfl
  · obtain ⟨H0, p, L, tas, Ts, st, tiles, rfl, hP, hG, hB, R⟩ := h
    have hr1 : Room 1 _ := hr.mono (by decide)
    have hr2 : Room 2 _ := hr.mono (by decide)
    have hr4 : Room 4 _ := hr.mono (by decide)
    have hu := hu_of hr
    refine ⟨_, (pss_cons (ps_expr (pe_meth (pv 0) T.par.c T.take_word.m GW hr4 bW .nil (passes_call (takes_of rfl rfl rfl rfl) (fun _ _ _ _ h => h)) (pa_cons pe_str pa_nil)))
      (pss_cons (ps_set (i := 2) sc_parse_put.nd rfl (.inl rfl) (pe_meth (pv 0) T.par.c T.number_of.m GN hr2 bN .nil pass0 (pa_cons (pe_fld (pv 0) rfl)
        (pa_cons (pe_meth (pv 0) T.par.c T.take.m GA hr4 bA .nil (passes_call (takes_of rfl rfl rfl rfl) (fun _ _ _ _ h => h)) (pa_cons (pe_glob (v := .str "name") rfl mNAME ⟨_, rfl⟩) pa_nil)) pa_nil))))
      (pss_cons (ps_set (i := 3) sc_parse_put.nd rfl (.inl rfl) (pe_meth0 (pv 0) T.par.c T.peek.m GP hr1 bP .nil pass0))
      (pss_cons (ps_set (i := 4) sc_parse_put.nd rfl (.inl rfl) (pe_meth (pv 0) T.par.c T.tile_of.m GT hr bT .nil (passes_call (takes_of rfl rfl rfl rfl) (fun _ _ _ _ h => h)) (pa_cons (pv 1) pa_nil)))
      (pss_cons (ps_expr (pe_meth (pv 0) T.par.c T.take_word.m GW hr4 bW .nil (passes_call (takes_of rfl rfl rfl rfl) (fun _ _ _ _ h => h)) (pa_cons pe_str pa_nil)))
      (C8.pss_cut (ps_if (pt_cmp (pc_din hu (pv 4) (pe_fld (pv 0) rfl)))
        (pss_one (ps_expr (pe_meth (pv 0) T.par.c T.found.m GF hr1 bF .nil pass0 (pa_cons pe_str (pa_cons (pv 3) pa_nil))))) pss_nil)
      (pss_one (ps_dput hu (pe_fld (pv 0) rfl) (pv 4) (pv 2) rfl)))))))), ?_⟩
    obtain ⟨dx, ob⟩ := hP.ob
    have hlen := hG.len
    refine ⟨_, rfl, p, dx, _, rfl, ob, lp_no_take_word, H0, p, L, tas, Ts, st, wPut, by rw [e_put]; rfl, hP, hB.at_, ⟨fun kw s1 h1 v H1 hv hP1 => ?_, fun l c he => R.er l c (by simp only [parsePut, he])⟩⟩
    clear hv
    obtain ⟨B1, f1, e1⟩ := bd_word hG hB h1 (by decide)
    obtain ⟨dx1, ob1⟩ := hP1.ob
    have B1a := B1.at_
    refine ⟨_, rfl, p, dx1, _, rfl, ob1, lp_no_number_of, _, rfl, p, _, dx1, _, _, rfl, ob1, T.par.c, T.par.n _ (by simp), lp_signs, _, rfl, p, dx1, _, rfl, ob1, lp_no_take, H0, p, L, tas, Ts, s1, .name, rfl, hP1, B1.at_,
      ⟨fun nm s2 h2 v H2 hv hP2 => ?_, fun l c he => R.er l c (by simp only [parsePut, h1, he])⟩⟩
    obtain ⟨a2, rfl, hta2⟩ := hv
    obtain ⟨B2, f2, e2, _⟩ := bd_take hG B1 h2 (by decide)
    have B2f := B2.fa
    have B2a := B2.at_
    refine ⟨H0, p, L, tas, Ts, s2, false, a2, nm, rfl, hP2, hta2, by omega, fun H3 hP3 => ?_⟩
    have en : (s2.names false) = s2.signs := rfl
    rw [en] at hP3
    rw [en]
    obtain ⟨B3, a3, f3⟩ := bd_number B2 (names := s2.signs) (t := nm) (by omega)
    generalize hs3 : (numberOf s2.signs nm s2).2 = s3 at *
    generalize hn3 : (numberOf s2.signs nm s2).1 = n3 at *
    obtain ⟨dx3, ob3⟩ := hP3.ob
    refine ⟨_, rfl, p, dx3, _, rfl, ob3, lp_no_peek, H0, p, L, tas, Ts, s3, rfl, hP3, B3.at_, fun a4 hta4 => ?_⟩
    have B3f := B3.fa
    have B3a := B3.at_
    refine ⟨_, rfl, p, dx3, _, rfl, ob3, lp_no_tile_of, _, rfl, H0, p, L, tas, Ts, s3, tiles, rfl, hP3, hG, B3.at_, by omega, ⟨fun n s5 h5 v H5 hv hP5 => ?_, fun l c he => R.er l c (by simp only [parsePut, h1, h2, hs3, he])⟩⟩
    obtain rfl : v = .int n := hv
    obtain ⟨B5, f5, a5, r5, sp5⟩ := bd_tile hG B3 h5
    obtain ⟨dx5, ob5⟩ := hP5.ob
    refine ⟨_, rfl, p, dx5, _, rfl, ob5, lp_no_take_word, H0, p, L, tas, Ts, s5, wSemi, by rw [e_semi]; rfl, hP5, B5.at_, ⟨fun t6 s6 h6 v H6 hv hP6 => ?_, fun l c he => R.er l c (by simp only [parsePut, h1, h2, hs3, h5, he])⟩⟩
    clear hv
    obtain ⟨B6, f6, e6⟩ := bd_word hG B5 h6 (by decide)
    obtain ⟨dx6, ob6⟩ := hP6.ob
    have B6f := B6.fa
    have B6a := B6.at_
    have hfin : parsePut Ts tiles st = .ok ((), { (if (s6.spots.any fun kv => decide (kv.1 = n)) = true then s6.found rAgain (peek Ts s3) else s6) with
        spots := putA (if (s6.spots.any fun kv => decide (kv.1 = n)) = true then s6.found rAgain (peek Ts s3) else s6).spots n n3 }) := by
      simp only [parsePut, h1, h2, hs3, h5, h6, hn3]
    refine ⟨fun σ' H' => σ' = [some (.ref p), some (.int tiles), some (.int n3), some (.ref a4), some (.int n)] ∧ PA K H0 H' p L tas Ts (if (s6.spots.any fun kv => decide (kv.1 = n)) = true then s6.found rAgain (peek Ts s3) else s6), ?_, ?_⟩
    · refine ⟨_, rfl, _, rfl, p, _, dx6, _, _, rfl, ob6, T.par.c, T.par.n _ (by simp), lp_spots, L.sd, _, rfl, DGet.k (k := Sum.inl (n : Int)) hP6.sp, _, rfl, ?_⟩
      rw [spots_any]
      refine ite2 (fun h => ?_) (fun h => ?_)
      · refine ⟨_, rfl, p, dx6, _, rfl, ob6, lp_no_found, _, rfl, H0, p, L, tas, Ts, s6, rAgain, a4, _, by rw [e_again]; rfl, hP6, hta4, by omega, fun H7 hP7 => ⟨rfl, ?_⟩⟩
        rw [if_pos h]
        exact hP7
      · refine ⟨rfl, ?_⟩
        rw [if_neg h]
        exact hP6
    · rintro σ' H7 ⟨rfl, hP7⟩
      have hsp : (if (s6.spots.any fun kv => decide (kv.1 = n)) = true then s6.found rAgain (peek Ts s3) else s6).spots = s6.spots := by split <;> rfl
      generalize hs7 : (if (s6.spots.any fun kv => decide (kv.1 = n)) = true then s6.found rAgain (peek Ts s3) else s6) = s7 at *
      obtain ⟨dx7, ob7⟩ := hP7.ob
      have B6s := B6.sp
      refine ⟨_, rfl, _, rfl, p, _, dx7, _, _, rfl, ob7, T.par.c, T.par.n _ (by simp), lp_spots, _, rfl, L.sd, _, rfl, DPut.k (k := Sum.inl (n : Int)) hP7.sp (by rw [List.length_map, hsp, sizeLine_eq]; omega), ?_⟩
      rw [spots_put]
      exact R.ok () _ hfin _ _ rfl (hP7.set_sd hP7.sp trivial)
def spParseRule (K : PySem.W.Frag) : Sp := fun vs H Q E => ∃ (H0 : Hp) (p : Addr) (L : PLoc) (tas : List Addr) (T : List Tk) (st : PSt), vs = [.ref p] ∧ PA K H0 H p L tas T st ∧ GoodT T ∧ Bd T st ∧
  Res K H0 p L tas T (parseRule T st) Q E retU
theorem sc_parse_rule : FnScope ["self", "keyword", "first", "mood", "second", "sign", "left", "move", "later"] ["self"] (defScope s_Parser_parse_rule) := ⟨rfl, rfl, rfl, by decide +kernel, rfl, by decide +kernel, by decide +kernel⟩
theorem ok_parse_rule (T : ParT K mg) : FnE P w K mg base (L2.CX P w) 6 ("Parser", some "parse_rule") ["self"] (spParseRule K) := by
  obtain ⟨fd, F⟩ := T.parse_rule.d
  obtain ⟨fdF, GF, bF, kF⟩ := ok_found (P := P) (w := w) (base := base) T
  obtain ⟨fdN, GN, bN, kN⟩ := ok_number_of (P := P) (w := w) (base := base) T
  obtain ⟨fdA, GA, bA, kA⟩ := ok_take (P := P) (w := w) (base := base) T
  obtain ⟨fdW, GW, bW, kW⟩ := ok_take_word (P := P) (w := w) (base := base) T
  obtain ⟨fdK, GK, bK, kK⟩ := ok_take_keyword (P := P) (w := w) (base := base) T
  obtain ⟨t1, mNAME⟩ := T.l.NAME
  refine ⟨fd, F.ok sc_parse_rule (fun vs H Q E h => ?_) (fun cdv A outer s H vs Q E hr h => ?_), F.bindsN fun _ _ _ _ _ _ us hl => match us, hl with | [_], _ => rfl, F.kp⟩
  · obtain ⟨H0, p, L, tas, Ts, st, rfl, _⟩ := h
    rfl
  · obtain ⟨H0, p, L, tas, Ts, st, rfl, hP, hG, hB, R⟩ := h
    have hr1 : Room 1 _ := hr.mono (by decide)
    have hr2 : Room 2 _ := hr.mono (by decide)
    have hr4 : Room 4 _ := hr.mono (by decide)
    have hu := hu_of hr
    refine ⟨_, (pss_cons (ps_set (i := 1) sc_parse_rule.nd rfl (.inl rfl) (pe_meth (pv 0) T.par.c T.take_word.m GW hr4 bW .nil (passes_call (takes_of rfl rfl rfl rfl) (fun _ _ _ _ h => h)) (pa_cons pe_str pa_nil)))
      (pss_cons (ps_set (i := 2) sc_parse_rule.nd rfl (.inl rfl) (pe_meth (pv 0) T.par.c T.take.m GA hr4 bA .nil (passes_call (takes_of rfl rfl rfl rfl) (fun _ _ _ _ h => h)) (pa_cons (pe_glob (v := .str "name") rfl mNAME ⟨_, rfl⟩) pa_nil)))
      (pss_cons (ps_set (i := 3) sc_parse_rule.nd rfl (.inl rfl) (pe_meth (pv 0) T.par.c T.number_of.m GN hr2 bN .nil pass0 (pa_cons (pe_fld (pv 0) rfl) (pa_cons (pv 2) pa_nil))))
      (pss_cons (ps_set (i := 4) sc_parse_rule.nd rfl (.inl rfl) (pe_meth (pv 0) T.par.c T.take.m GA hr4 bA .nil (passes_call (takes_of rfl rfl rfl rfl) (fun _ _ _ _ h => h)) (pa_cons (pe_glob (v := .str "name") rfl mNAME ⟨_, rfl⟩) pa_nil)))
      (pss_cons (ps_set (i := 5) sc_parse_rule.nd rfl (.inl rfl) (pe_meth (pv 0) T.par.c T.number_of.m GN hr2 bN .nil pass0 (pa_cons (pe_fld (pv 0) rfl) (pa_cons (pv 4) pa_nil))))
      (pss_cons (ps_expr (pe_meth (pv 0) T.par.c T.take_word.m GW hr4 bW .nil (passes_call (takes_of rfl rfl rfl rfl) (fun _ _ _ _ h => h)) (pa_cons pe_str pa_nil)))
      (pss_cons (ps_set (i := 6) sc_parse_rule.nd rfl (.inl rfl) (pe_meth (pv 0) T.par.c T.number_of.m GN hr2 bN .nil pass0 (pa_cons (pe_fld (pv 0) rfl)
        (pa_cons (pe_meth (pv 0) T.par.c T.take.m GA hr4 bA .nil (passes_call (takes_of rfl rfl rfl rfl) (fun _ _ _ _ h => h)) (pa_cons (pe_glob (v := .str "name") rfl mNAME ⟨_, rfl⟩) pa_nil)) pa_nil))))
      (pss_cons (ps_set (i := 7) sc_parse_rule.nd rfl (.inl rfl) (pe_meth (pv 0) T.par.c T.take_keyword.m GK hr4 bK .nil (passes_call (takes_of rfl rfl rfl rfl) (fun _ _ _ _ h => h)) (pa_cons (pe_glob (v := .ref (He.ga K "MOVES")) rfl T.MOVES rfl) pa_nil)))
      (pss_cons (ps_set (i := 8) sc_parse_rule.nd rfl (.inl rfl) (pe_meth (pv 0) T.par.c T.number_of.m GN hr2 bN .nil pass0 (pa_cons (pe_fld (pv 0) rfl)
        (pa_cons (pe_meth (pv 0) T.par.c T.take.m GA hr4 bA .nil (passes_call (takes_of rfl rfl rfl rfl) (fun _ _ _ _ h => h)) (pa_cons (pe_glob (v := .str "name") rfl mNAME ⟨_, rfl⟩) pa_nil)) pa_nil))))
      (pss_cons (ps_expr (pe_meth (pv 0) T.par.c T.take_word.m GW hr4 bW .nil (passes_call (takes_of rfl rfl rfl rfl) (fun _ _ _ _ h => h)) (pa_cons pe_str pa_nil)))
      (C8.pss_cut (ps_if (pt_cmp (pc_din hu (pe_tup (pa_cons (pe_fld (pv 2) rfl) (pa_cons (pe_fld (pv 4) rfl) pa_nil))) (pe_fld (pv 0) rfl)))
        (pss_one (ps_expr (pe_meth (pv 0) T.par.c T.found.m GF hr1 bF .nil pass0 (pa_cons pe_str (pa_cons (pv 1) pa_nil))))) pss_nil)
      (pss_cons (ps_dput hu (pe_fld (pv 0) rfl) (pe_tup (pa_cons (pe_fld (pv 2) rfl) (pa_cons (pe_fld (pv 4) rfl) pa_nil))) pe_bl rfl)
      (pss_one (ps_dput hu (pe_fld (pv 0) rfl) (pe_tup (pa_cons (pv 3) (pa_cons (pv 5) pa_nil))) (pe_tup (pa_cons (pv 6) (pa_cons (pe_fld (pv 7) rfl) (pa_cons (pv 8) pa_nil)))) rfl)))))))))))))), ?_⟩
    obtain ⟨dx, ob⟩ := hP.ob
    have hlen := hG.len
    refine ⟨_, rfl, p, dx, _, rfl, ob, lp_no_take_word, H0, p, L, tas, Ts, st, wWhen, by rw [e_when]; rfl, hP, hB.at_, ⟨fun kw s1 h1 v H1 hv hP1 => ?_, fun l c he => R.er l c (by simp only [parseRule, he])⟩⟩
    obtain ⟨akw, rfl, htakw⟩ := hv
    obtain ⟨B1, f1, e1⟩ := bd_word hG hB h1 (by decide)
    obtain ⟨dx1, ob1⟩ := hP1.ob
    refine ⟨_, rfl, p, dx1, _, rfl, ob1, lp_no_take, H0, p, L, tas, Ts, s1, .name, rfl, hP1, B1.at_, ⟨fun first s2 h2 v H2 hv hP2 => ?_, fun l c he => R.er l c (by simp only [parseRule, h1, he])⟩⟩
    obtain ⟨af, rfl, htaf⟩ := hv
    obtain ⟨B2, f2, e2, _⟩ := bd_take hG B1 h2 (by decide)
    obtain ⟨dx2, ob2⟩ := hP2.ob
    have B2f := B2.fa
    have B2a := B2.at_
    refine ⟨_, rfl, p, dx2, _, rfl, ob2, lp_no_number_of, _, rfl, p, _, dx2, _, _, rfl, ob2, T.par.c, T.par.n _ (by simp), lp_moods, _, rfl, H0, p, L, tas, Ts, s2, true, af, first, rfl, hP2, htaf, by omega, fun H3 hP3 => ?_⟩
    have en2 : (s2.names true) = s2.moods := rfl
    rw [en2] at hP3
    rw [en2]
    obtain ⟨B3, a3, f3⟩ := bd_number B2 (names := s2.moods) (t := first) (by omega)
    generalize hs3 : (numberOf s2.moods first s2).2 = s3 at *
    generalize hmood : (numberOf s2.moods first s2).1 = mood at *
    obtain ⟨dx3, ob3⟩ := hP3.ob
    refine ⟨_, rfl, p, dx3, _, rfl, ob3, lp_no_take, H0, p, L, tas, Ts, s3, .name, rfl, hP3, B3.at_, ⟨fun second s4 h4 v H4 hv hP4 => ?_, fun l c he => R.er l c (by simp only [parseRule, h1, h2, hs3, he])⟩⟩
    obtain ⟨as, rfl, htas⟩ := hv
    obtain ⟨B4, f4, e4, _⟩ := bd_take hG B3 h4 (by decide)
    obtain ⟨dx4, ob4⟩ := hP4.ob
    have B4f := B4.fa
    have B4a := B4.at_
    refine ⟨_, rfl, p, dx4, _, rfl, ob4, lp_no_number_of, _, rfl, p, _, dx4, _, _, rfl, ob4, T.par.c, T.par.n _ (by simp), lp_signs, _, rfl, H0, p, L, tas, Ts, s4, false, as, second, rfl, hP4, htas, by omega, fun H5 hP5 => ?_⟩
    have en4 : (s4.names false) = s4.signs := rfl
    rw [en4] at hP5
    rw [en4]
    obtain ⟨B5, a5, f5⟩ := bd_number B4 (names := s4.signs) (t := second) (by omega)
    generalize hs5 : (numberOf s4.signs second s4).2 = s5 at *
    generalize hsign : (numberOf s4.signs second s4).1 = sign at *
    obtain ⟨dx5, ob5⟩ := hP5.ob
    refine ⟨_, rfl, p, dx5, _, rfl, ob5, lp_no_take_word, H0, p, L, tas, Ts, s5, wLeave, by rw [e_leave]; rfl, hP5, B5.at_, ⟨fun t6 s6 h6 v H6 hv hP6 => ?_, fun l c he => R.er l c (by simp only [parseRule, h1, h2, hs3, h4, hs5, he])⟩⟩
    clear hv
    obtain ⟨B6, f6, e6⟩ := bd_word hG B5 h6 (by decide)
    obtain ⟨dx6, ob6⟩ := hP6.ob
    refine ⟨_, rfl, p, dx6, _, rfl, ob6, lp_no_number_of, _, rfl, p, _, dx6, _, _, rfl, ob6, T.par.c, T.par.n _ (by simp), lp_signs, _, rfl, p, dx6, _, rfl, ob6, lp_no_take, H0, p, L, tas, Ts, s6, .name, rfl, hP6, B6.at_,
      ⟨fun lf s7 h7 v H7 hv hP7 => ?_, fun l c he => R.er l c (by simp only [parseRule, h1, h2, hs3, h4, hs5, h6, he])⟩⟩
    obtain ⟨alf, rfl, htalf⟩ := hv
    obtain ⟨B7, f7, e7, _⟩ := bd_take hG B6 h7 (by decide)
    have B7f := B7.fa
    have B7a := B7.at_
    refine ⟨H0, p, L, tas, Ts, s7, false, alf, lf, rfl, hP7, htalf, by omega, fun H8 hP8 => ?_⟩
    have en7 : (s7.names false) = s7.signs := rfl
    rw [en7] at hP8
    rw [en7]
    obtain ⟨B8, a8, f8⟩ := bd_number B7 (names := s7.signs) (t := lf) (by omega)
    generalize hs8 : (numberOf s7.signs lf s7).2 = s8 at *
    generalize hleft : (numberOf s7.signs lf s7).1 = left at *
    obtain ⟨dx8, ob8⟩ := hP8.ob
    refine ⟨_, rfl, p, dx8, _, rfl, ob8, lp_no_take_keyword, H0, p, L, tas, Ts, s8, He.ga K "MOVES", moves, rfl, hP8, B8.at_, T.moves H8, ⟨fun mv s9 h9 v H9 hv hP9 => ?_, fun l c he => R.er l c (by simp only [parseRule, h1, h2, hs3, h4, hs5, h6, h7, hs8, he])⟩⟩
    obtain ⟨amv, rfl, htamv⟩ := hv
    obtain ⟨B9, f9, e9⟩ := bd_kw hG B8 h9
    obtain ⟨dx9, ob9⟩ := hP9.ob
    refine ⟨_, rfl, p, dx9, _, rfl, ob9, lp_no_number_of, _, rfl, p, _, dx9, _, _, rfl, ob9, T.par.c, T.par.n _ (by simp), lp_moods, _, rfl, p, dx9, _, rfl, ob9, lp_no_take, H0, p, L, tas, Ts, s9, .name, rfl, hP9, B9.at_,
      ⟨fun la s10 h10 v H10 hv hP10 => ?_, fun l c he => R.er l c (by simp only [parseRule, h1, h2, hs3, h4, hs5, h6, h7, hs8, h9, he])⟩⟩
    obtain ⟨ala, rfl, htala⟩ := hv
    obtain ⟨B10, f10, e10, _⟩ := bd_take hG B9 h10 (by decide)
    have B10f := B10.fa
    have B10a := B10.at_
    refine ⟨H0, p, L, tas, Ts, s10, true, ala, la, rfl, hP10, htala, by omega, fun H11 hP11 => ?_⟩
    have en10 : (s10.names true) = s10.moods := rfl
    rw [en10] at hP11
    rw [en10]
    obtain ⟨B11, a11, f11⟩ := bd_number B10 (names := s10.moods) (t := la) (by omega)
    generalize hs11 : (numberOf s10.moods la s10).2 = s11 at *
    generalize hlater : (numberOf s10.moods la s10).1 = later at *
    obtain ⟨dx11, ob11⟩ := hP11.ob
    refine ⟨_, rfl, p, dx11, _, rfl, ob11, lp_no_take_word, H0, p, L, tas, Ts, s11, wSemi, by rw [e_semi]; rfl, hP11, B11.at_, ⟨fun t12 s12 h12 v H12 hv hP12 => ?_, fun l c he => R.er l c (by simp only [parseRule, h1, h2, hs3, h4, hs5, h6, h7, hs8, h9, h10, hs11, he])⟩⟩
    clear hv
    obtain ⟨B12, f12, e12⟩ := bd_word hG B11 h12 (by decide)
    have B12f := B12.fa
    have B12a := B12.at_
    have B12p := B12.pr
    have B12r := B12.ru
    have hfin := fun (r : PR Unit) (e : parseRule Ts st = r) => e
    obtain ⟨dx12, ob12⟩ := hP12.ob
    obtain ⟨dtf, htf⟩ := hP12.get htaf
    obtain ⟨dts, hts⟩ := hP12.get htas
    generalize hz : (if (first.text, second.text) ∈ s12.pairs then s12.found rTwice kw else s12) = z
    have hfin : parseRule Ts st = .ok ((), { ({ z with pairs := if (first.text, second.text) ∈ z.pairs then z.pairs else z.pairs ++ [(first.text, second.text)] } : PSt) with
        rules := putA z.rules (mood, sign) ⟨left, mv.text, later⟩ }) := by
      simp only [parseRule, h1, h2, hs3, h4, hs5, h6, h7, hs8, h9, h10, hs11, h12, hmood, hsign, hleft, hlater, hz]
    have zp : z.pairs = s12.pairs ∧ z.rules = s12.rules := by rw [← hz]; split <;> exact ⟨rfl, rfl⟩
    refine ⟨fun σ' H' => σ' = [some (.ref p), some (.ref akw), some (.ref af), some (.int mood), some (.ref as), some (.int sign), some (.int left), some (.ref amv), some (.int later)] ∧ PA K H0 H' p L tas Ts z, ?_, ?_⟩
    · refine ⟨_, rfl, af, _, dtf, _, _, rfl, htf, T.l.tok.c, T.l.tok.n _ (by simp), lk_text, _, rfl, as, _, dts, _, _, rfl, hts, T.l.tok.c, T.l.tok.n _ (by simp), lk_text, (by show 2 ≤ sizeLine; decide), fun tu ntu => ?_⟩
      have sm := sameUpd (o := .tup [sV first.text, sV second.text]) (Same.refl H12) ntu
      have hP13 := hP12.mono sm
      refine ⟨_, rfl, p, _, dx12, _, _, rfl, sm _ _ ob12, T.par.c, T.par.n _ (by simp), lp_pairs, L.pd, _, rfl, DGet.t (k := (pairK (first.text, second.text)).1) hP13.pr upd_same, _, rfl, ?_⟩
      rw [pairs_some]
      refine ite2 (fun h => ?_) (fun h => ?_)
      · have h := of_decide_eq_true h
        refine ⟨_, rfl, p, dx12, _, rfl, sm _ _ ob12, lp_no_found, _, rfl, H0, p, L, tas, Ts, s12, rTwice, akw, kw, by rw [e_twice]; rfl, hP13, htakw, by omega, fun H14 hP14 => ⟨rfl, ?_⟩⟩
        rw [← hz, if_pos h]
        exact hP14
      · have h : ¬ (first.text, second.text) ∈ s12.pairs := fun q => h (decide_eq_true q)
        refine ⟨rfl, ?_⟩
        rw [← hz, if_neg h]
        exact hP13
    · rintro σ' H13 ⟨rfl, hP13⟩
      obtain ⟨dx13, ob13⟩ := hP13.ob
      obtain ⟨dtf, htf⟩ := hP13.get htaf
      obtain ⟨dts, hts⟩ := hP13.get htas
      refine ⟨_, rfl, p, _, dx13, _, _, rfl, ob13, T.par.c, T.par.n _ (by simp), lp_pairs, _, rfl, af, _, dtf, _, _, rfl, htf, T.l.tok.c, T.l.tok.n _ (by simp), lk_text, _, rfl, as, _, dts, _, _, rfl, hts, T.l.tok.c, T.l.tok.n _ (by simp), lk_text, (by show 2 ≤ sizeLine; decide), fun tu ntu => ?_⟩
      have sm := sameUpd (o := .tup [sV first.text, sV second.text]) (Same.refl H13) ntu
      have hP14 := hP13.mono sm
      refine ⟨L.pd, _, rfl, DPut.t (k := (pairK (first.text, second.text)).1) hP14.pr upd_same (by rw [List.length_map, zp.1, sizeLine_eq]; omega), ?_⟩
      rw [pairs_put]
      have hP15 := hP14.set_pd (ps := if (first.text, second.text) ∈ z.pairs then z.pairs else z.pairs ++ [(first.text, second.text)]) hP14.pr trivial
      generalize hH15 : upd (upd H13 tu (.tup [sV first.text, sV second.text])) L.pd (.dT ((if (first.text, second.text) ∈ z.pairs then z.pairs else z.pairs ++ [(first.text, second.text)]).map pairK)) = H15 at *
      obtain ⟨dx15, ob15⟩ := hP15.ob
      obtain ⟨dtm, htm⟩ := hP15.get htamv
      refine ⟨_, rfl, _, rfl, amv, _, dtm, _, _, rfl, htm, T.l.tok.c, T.l.tok.n _ (by simp), lk_text, _, rfl, (by show 3 ≤ sizeLine; decide), fun tv ntv => ?_⟩
      have sm2 := sameUpd (o := .tup [.int left, sV mv.text, .int later]) (Same.refl H15) ntv
      refine ⟨_, rfl, p, _, dx15, _, _, rfl, sm2 _ _ ob15, T.par.c, T.par.n _ (by simp), lp_rules, _, rfl, _, rfl, (by show 2 ≤ sizeLine; decide), fun tk ntk => ?_⟩
      have sm3 := sm2.trans (sameUpd (o := .tup [.int mood, .int sign]) (Same.refl _) ntk)
      have hP16 := hP15.mono sm3
      obtain ⟨kvs, hkv, hkvs⟩ := hP16.ru
      have htv : (upd (upd H15 tv (.tup [.int left, sV mv.text, .int later])) tk (.tup [.int mood, .int sign])) tv = some (.tup [.int left, sV mv.text, .int later]) := by
        rw [upd_ne (ne_of_none upd_same ntk), upd_same]
      have hkl : z.rules.length = kvs.length := hkvs.length
      refine ⟨L.rd, _, rfl, DPut.t (k := keyT (mood, sign)) hkv upd_same (by rw [← hkl, zp.2, sizeLine_eq]; omega), ?_⟩
      refine R.ok () _ hfin _ _ rfl (hP16.set_rd hkv ?_)
      have z1 := rules_put (k := (mood, sign)) (r := ⟨left, mv.text, later⟩) htv hkvs
      exact Paired.mapP z1 fun r kv q => q.mono (keepT hkv fun xs q => by cases q)
end
end Sw

end

section
set_option maxRecDepth 100000
set_option maxHeartbeats 4000000
/-! Parser.__init__ -/
namespace Sw
open PySem PySem.Spec PyProof.Rows L2 SwA
theorem put_par (L : PLoc) : putF "spots" (.ref L.sd) (putF "pairs" (.ref L.pd) (putF "rules" (.ref L.rd) (putF "robots" (.ref L.rl) (putF "moods" (.ref L.ml) (putF "signs" (.ref L.sl) (putF "faults" (.ref L.fl) (putF "at" (.int 0) (putF "tokens" (.ref L.tl) [])))))))) = parF L 0 := by kernel_rfl
section
variable {P : Program} {w : World} {K : PySem.W.Frag} {mg : Str → Option Value} {base : Heap}
def spParInit (K : PySem.W.Frag) : Sp := fun vs H Q _ => ∃ (H0 : Hp) (p dx tl : Addr) (tas : List Addr) (T : List Tk), vs = [.ref p, .ref tl] ∧ H p = some (.ins (He.ga K "Parser") dx []) ∧ H tl = some (.lst (tas.map V.ref)) ∧ TksAt K H tas T ∧
  Same H0 H ∧ H0 p = none ∧ H0 tl = none ∧ ∀ (L : PLoc) (H' : Hp), PA K H0 H' p L tas T st0 → Q .non H'
theorem sc_par_init : FnScope ["self", "tokens"] ["self", "tokens"] (defScope s_Parser_init) := ⟨rfl, rfl, rfl, by decide +kernel, rfl, by decide +kernel, by decide +kernel⟩
theorem ok_par_init (T : ParT K mg) : FnE P w K mg base CX0 1 ("Parser", some "__init__") ["self", "tokens"] (spParInit K) := by
  obtain ⟨fd, F⟩ := T.init
  refine ⟨fd, F.ok sc_par_init (fun vs H Q E h => ?_) (fun cdv A outer s H vs Q E hr h => ?_), F.bindsN fun _ _ _ _ _ _ us hl => match us, hl with | [_, _], _ => rfl, F.kp⟩
  · obtain ⟨H0, p, dx, tl, tas, Ts, rfl, _⟩ := h
    rfl
  · obtain ⟨H0, p, dx, tl, tas, Ts, rfl, hp, htl, htk, sm, n0p, n0t, k⟩ := h
    refine ⟨_, PSs.nox (pss_cons (ps_fld (pv 0) (pv 1) rfl) (pss_cons (ps_fld (pv 0) pe_int rfl) (pss_cons (ps_fld (pv 0) (pe_lst pa_nil) rfl) (pss_cons (ps_fld (pv 0) (pe_lst pa_nil) rfl) (pss_cons (ps_fld (pv 0) (pe_lst pa_nil) rfl)
      (pss_cons (ps_fld (pv 0) (pe_lst pa_nil) rfl) (pss_cons (ps_fld (pv 0) pe_dnewT rfl) (pss_cons (ps_fld (pv 0) pe_dnewT rfl) (pss_one (ps_fld (pv 0) pe_dnewK rfl)))))))))), ?_⟩
    have kk0 : ∀ (Hc : Hp) (fs fs' : List (Str × V)), Hc p = some (.ins (He.ga K "Parser") dx fs) → TksAt K Hc tas Ts → TksAt K (upd Hc p (.ins (He.ga K "Parser") dx fs')) tas Ts := fun Hc fs fs' e h => Paired.mapP h fun a t q => keepK (K := K) e (fun C d gs z => by cases z; exact T.ne) a t q
    have ptl : tl ≠ p := ne_of htl hp (by intro z; cases z)
    refine ⟨_, rfl, _, rfl, p, _, dx, _, rfl, hp, T.par.c, T.par.n _ (by simp), lnZ ln0, ?_⟩
    refine ⟨_, rfl, p, _, dx, _, rfl, upd_same, T.par.c, T.par.n _ (by simp), lnZ (lnS ln0), ?_⟩
    rw [upd_upd]
    have at_p := @upd_same H p (.ins (He.ga K "Parser") dx (putF "at" (.int 0) (putF "tokens" (.ref tl) [])))
    have at_tl : (upd H p (.ins (He.ga K "Parser") dx (putF "at" (.int 0) (putF "tokens" (.ref tl) [])))) tl = some (.lst (tas.map V.ref)) := by rw [upd_ne ptl]; exact htl
    have tks := kk0 H _ (putF "at" (.int 0) (putF "tokens" (.ref tl) [])) hp htk
    have sm1 : Same H0 (upd H p (.ins (He.ga K "Parser") dx (putF "at" (.int 0) (putF "tokens" (.ref tl) [])))) := sameUpd sm n0p
    generalize upd H p (.ins (He.ga K "Parser") dx (putF "at" (.int 0) (putF "tokens" (.ref tl) []))) = H2 at *
    refine ⟨(by show 0 ≤ sizeLine; decide), fun fl n_fl => ?_⟩
    have n0_fl : H0 fl = none := sm1.free n_fl
    have p_fl : p ≠ fl := ne_of_none at_p n_fl
    have tl_fl : tl ≠ fl := ne_of_none at_tl n_fl
    refine ⟨_, rfl, p, _, dx, _, rfl, (upd_ne p_fl).trans at_p, T.par.c, T.par.n _ (by simp), lnZ (lnS (lnS ln0)), ?_⟩
    replace tks := kk0 _ _ (putF "faults" (.ref fl) (putF "at" (.int 0) (putF "tokens" (.ref tl) []))) ((upd_ne (o := .lst []) p_fl).trans at_p) (tks.same (sameUpd (o := .lst []) (Same.refl _) n_fl))
    replace at_p := @upd_same (upd H2 fl (.lst [])) p (.ins (He.ga K "Parser") dx (putF "faults" (.ref fl) (putF "at" (.int 0) (putF "tokens" (.ref tl) []))))
    replace at_tl := ((upd_ne (H := upd H2 fl (.lst [])) (o := .ins (He.ga K "Parser") dx (putF "faults" (.ref fl) (putF "at" (.int 0) (putF "tokens" (.ref tl) [])))) ptl).trans (upd_ne (o := .lst []) tl_fl)).trans at_tl
    have at_fl : (upd (upd H2 fl (.lst [])) p (.ins (He.ga K "Parser") dx (putF "faults" (.ref fl) (putF "at" (.int 0) (putF "tokens" (.ref tl) []))))) fl = some (.lst []) := (upd_ne (Ne.symm p_fl)).trans upd_same
    replace sm1 : Same H0 (upd (upd H2 fl (.lst [])) p (.ins (He.ga K "Parser") dx (putF "faults" (.ref fl) (putF "at" (.int 0) (putF "tokens" (.ref tl) []))))) := sameUpd (sameUpd sm1 n0_fl) n0p
    generalize upd (upd H2 fl (.lst [])) p (.ins (He.ga K "Parser") dx (putF "faults" (.ref fl) (putF "at" (.int 0) (putF "tokens" (.ref tl) [])))) = H3 at *
    refine ⟨(by show 0 ≤ sizeLine; decide), fun sl n_sl => ?_⟩
    have n0_sl : H0 sl = none := sm1.free n_sl
    have p_sl : p ≠ sl := ne_of_none at_p n_sl
    have tl_sl : tl ≠ sl := ne_of_none at_tl n_sl
    have fl_sl : fl ≠ sl := ne_of_none at_fl n_sl
    refine ⟨_, rfl, p, _, dx, _, rfl, (upd_ne p_sl).trans at_p, T.par.c, T.par.n _ (by simp), lnZ (lnS (lnS (lnS ln0))), ?_⟩
    replace tks := kk0 _ _ (putF "signs" (.ref sl) (putF "faults" (.ref fl) (putF "at" (.int 0) (putF "tokens" (.ref tl) [])))) ((upd_ne (o := .lst []) p_sl).trans at_p) (tks.same (sameUpd (o := .lst []) (Same.refl _) n_sl))
    replace at_p := @upd_same (upd H3 sl (.lst [])) p (.ins (He.ga K "Parser") dx (putF "signs" (.ref sl) (putF "faults" (.ref fl) (putF "at" (.int 0) (putF "tokens" (.ref tl) [])))))
    replace at_tl := ((upd_ne (H := upd H3 sl (.lst [])) (o := .ins (He.ga K "Parser") dx (putF "signs" (.ref sl) (putF "faults" (.ref fl) (putF "at" (.int 0) (putF "tokens" (.ref tl) []))))) ptl).trans (upd_ne (o := .lst []) tl_sl)).trans at_tl
    replace at_fl := ((upd_ne (H := upd H3 sl (.lst [])) (o := .ins (He.ga K "Parser") dx (putF "signs" (.ref sl) (putF "faults" (.ref fl) (putF "at" (.int 0) (putF "tokens" (.ref tl) []))))) (Ne.symm p_fl)).trans (upd_ne (o := .lst []) fl_sl)).trans at_fl
    have at_sl : (upd (upd H3 sl (.lst [])) p (.ins (He.ga K "Parser") dx (putF "signs" (.ref sl) (putF "faults" (.ref fl) (putF "at" (.int 0) (putF "tokens" (.ref tl) [])))))) sl = some (.lst []) := (upd_ne (Ne.symm p_sl)).trans upd_same
    replace sm1 : Same H0 (upd (upd H3 sl (.lst [])) p (.ins (He.ga K "Parser") dx (putF "signs" (.ref sl) (putF "faults" (.ref fl) (putF "at" (.int 0) (putF "tokens" (.ref tl) [])))))) := sameUpd (sameUpd sm1 n0_sl) n0p
    generalize upd (upd H3 sl (.lst [])) p (.ins (He.ga K "Parser") dx (putF "signs" (.ref sl) (putF "faults" (.ref fl) (putF "at" (.int 0) (putF "tokens" (.ref tl) []))))) = H4 at *
    refine ⟨(by show 0 ≤ sizeLine; decide), fun ml n_ml => ?_⟩
    have n0_ml : H0 ml = none := sm1.free n_ml
    have p_ml : p ≠ ml := ne_of_none at_p n_ml
    have tl_ml : tl ≠ ml := ne_of_none at_tl n_ml
    have fl_ml : fl ≠ ml := ne_of_none at_fl n_ml
    have sl_ml : sl ≠ ml := ne_of_none at_sl n_ml
    refine ⟨_, rfl, p, _, dx, _, rfl, (upd_ne p_ml).trans at_p, T.par.c, T.par.n _ (by simp), lnZ (lnS (lnS (lnS (lnS ln0)))), ?_⟩
    replace tks := kk0 _ _ (putF "moods" (.ref ml) (putF "signs" (.ref sl) (putF "faults" (.ref fl) (putF "at" (.int 0) (putF "tokens" (.ref tl) []))))) ((upd_ne (o := .lst []) p_ml).trans at_p) (tks.same (sameUpd (o := .lst []) (Same.refl _) n_ml))
    replace at_p := @upd_same (upd H4 ml (.lst [])) p (.ins (He.ga K "Parser") dx (putF "moods" (.ref ml) (putF "signs" (.ref sl) (putF "faults" (.ref fl) (putF "at" (.int 0) (putF "tokens" (.ref tl) []))))))
    replace at_tl := ((upd_ne (H := upd H4 ml (.lst [])) (o := .ins (He.ga K "Parser") dx (putF "moods" (.ref ml) (putF "signs" (.ref sl) (putF "faults" (.ref fl) (putF "at" (.int 0) (putF "tokens" (.ref tl) [])))))) ptl).trans (upd_ne (o := .lst []) tl_ml)).trans at_tl
    replace at_fl := ((upd_ne (H := upd H4 ml (.lst [])) (o := .ins (He.ga K "Parser") dx (putF "moods" (.ref ml) (putF "signs" (.ref sl) (putF "faults" (.ref fl) (putF "at" (.int 0) (putF "tokens" (.ref tl) [])))))) (Ne.symm p_fl)).trans (upd_ne (o := .lst []) fl_ml)).trans at_fl
    replace at_sl := ((upd_ne (H := upd H4 ml (.lst [])) (o := .ins (He.ga K "Parser") dx (putF "moods" (.ref ml) (putF "signs" (.ref sl) (putF "faults" (.ref fl) (putF "at" (.int 0) (putF "tokens" (.ref tl) [])))))) (Ne.symm p_sl)).trans (upd_ne (o := .lst []) sl_ml)).trans at_sl
    have at_ml : (upd (upd H4 ml (.lst [])) p (.ins (He.ga K "Parser") dx (putF "moods" (.ref ml) (putF "signs" (.ref sl) (putF "faults" (.ref fl) (putF "at" (.int 0) (putF "tokens" (.ref tl) []))))))) ml = some (.lst []) := (upd_ne (Ne.symm p_ml)).trans upd_same
    replace sm1 : Same H0 (upd (upd H4 ml (.lst [])) p (.ins (He.ga K "Parser") dx (putF "moods" (.ref ml) (putF "signs" (.ref sl) (putF "faults" (.ref fl) (putF "at" (.int 0) (putF "tokens" (.ref tl) []))))))) := sameUpd (sameUpd sm1 n0_ml) n0p
    generalize upd (upd H4 ml (.lst [])) p (.ins (He.ga K "Parser") dx (putF "moods" (.ref ml) (putF "signs" (.ref sl) (putF "faults" (.ref fl) (putF "at" (.int 0) (putF "tokens" (.ref tl) [])))))) = H5 at *
    refine ⟨(by show 0 ≤ sizeLine; decide), fun rl n_rl => ?_⟩
    have n0_rl : H0 rl = none := sm1.free n_rl
    have p_rl : p ≠ rl := ne_of_none at_p n_rl
    have tl_rl : tl ≠ rl := ne_of_none at_tl n_rl
    have fl_rl : fl ≠ rl := ne_of_none at_fl n_rl
    have sl_rl : sl ≠ rl := ne_of_none at_sl n_rl
    have ml_rl : ml ≠ rl := ne_of_none at_ml n_rl
    refine ⟨_, rfl, p, _, dx, _, rfl, (upd_ne p_rl).trans at_p, T.par.c, T.par.n _ (by simp), lnZ (lnS (lnS (lnS (lnS (lnS ln0))))), ?_⟩
    replace tks := kk0 _ _ (putF "robots" (.ref rl) (putF "moods" (.ref ml) (putF "signs" (.ref sl) (putF "faults" (.ref fl) (putF "at" (.int 0) (putF "tokens" (.ref tl) [])))))) ((upd_ne (o := .lst []) p_rl).trans at_p) (tks.same (sameUpd (o := .lst []) (Same.refl _) n_rl))
    replace at_p := @upd_same (upd H5 rl (.lst [])) p (.ins (He.ga K "Parser") dx (putF "robots" (.ref rl) (putF "moods" (.ref ml) (putF "signs" (.ref sl) (putF "faults" (.ref fl) (putF "at" (.int 0) (putF "tokens" (.ref tl) [])))))))
    replace at_tl := ((upd_ne (H := upd H5 rl (.lst [])) (o := .ins (He.ga K "Parser") dx (putF "robots" (.ref rl) (putF "moods" (.ref ml) (putF "signs" (.ref sl) (putF "faults" (.ref fl) (putF "at" (.int 0) (putF "tokens" (.ref tl) []))))))) ptl).trans (upd_ne (o := .lst []) tl_rl)).trans at_tl
    replace at_fl := ((upd_ne (H := upd H5 rl (.lst [])) (o := .ins (He.ga K "Parser") dx (putF "robots" (.ref rl) (putF "moods" (.ref ml) (putF "signs" (.ref sl) (putF "faults" (.ref fl) (putF "at" (.int 0) (putF "tokens" (.ref tl) []))))))) (Ne.symm p_fl)).trans (upd_ne (o := .lst []) fl_rl)).trans at_fl
    replace at_sl := ((upd_ne (H := upd H5 rl (.lst [])) (o := .ins (He.ga K "Parser") dx (putF "robots" (.ref rl) (putF "moods" (.ref ml) (putF "signs" (.ref sl) (putF "faults" (.ref fl) (putF "at" (.int 0) (putF "tokens" (.ref tl) []))))))) (Ne.symm p_sl)).trans (upd_ne (o := .lst []) sl_rl)).trans at_sl
    replace at_ml := ((upd_ne (H := upd H5 rl (.lst [])) (o := .ins (He.ga K "Parser") dx (putF "robots" (.ref rl) (putF "moods" (.ref ml) (putF "signs" (.ref sl) (putF "faults" (.ref fl) (putF "at" (.int 0) (putF "tokens" (.ref tl) []))))))) (Ne.symm p_ml)).trans (upd_ne (o := .lst []) ml_rl)).trans at_ml
    have at_rl : (upd (upd H5 rl (.lst [])) p (.ins (He.ga K "Parser") dx (putF "robots" (.ref rl) (putF "moods" (.ref ml) (putF "signs" (.ref sl) (putF "faults" (.ref fl) (putF "at" (.int 0) (putF "tokens" (.ref tl) [])))))))) rl = some (.lst []) := (upd_ne (Ne.symm p_rl)).trans upd_same
    replace sm1 : Same H0 (upd (upd H5 rl (.lst [])) p (.ins (He.ga K "Parser") dx (putF "robots" (.ref rl) (putF "moods" (.ref ml) (putF "signs" (.ref sl) (putF "faults" (.ref fl) (putF "at" (.int 0) (putF "tokens" (.ref tl) [])))))))) := sameUpd (sameUpd sm1 n0_rl) n0p
    generalize upd (upd H5 rl (.lst [])) p (.ins (He.ga K "Parser") dx (putF "robots" (.ref rl) (putF "moods" (.ref ml) (putF "signs" (.ref sl) (putF "faults" (.ref fl) (putF "at" (.int 0) (putF "tokens" (.ref tl) []))))))) = H6 at *
    intro rd n_rd
    have n0_rd : H0 rd = none := sm1.free n_rd
    have p_rd : p ≠ rd := ne_of_none at_p n_rd
    have tl_rd : tl ≠ rd := ne_of_none at_tl n_rd
    have fl_rd : fl ≠ rd := ne_of_none at_fl n_rd
    have sl_rd : sl ≠ rd := ne_of_none at_sl n_rd
    have ml_rd : ml ≠ rd := ne_of_none at_ml n_rd
    have rl_rd : rl ≠ rd := ne_of_none at_rl n_rd
    refine ⟨_, rfl, p, _, dx, _, rfl, (upd_ne p_rd).trans at_p, T.par.c, T.par.n _ (by simp), lnZ (lnS (lnS (lnS (lnS (lnS (lnS ln0)))))), ?_⟩
    replace tks := kk0 _ _ (putF "rules" (.ref rd) (putF "robots" (.ref rl) (putF "moods" (.ref ml) (putF "signs" (.ref sl) (putF "faults" (.ref fl) (putF "at" (.int 0) (putF "tokens" (.ref tl) []))))))) ((upd_ne (o := .dT []) p_rd).trans at_p) (tks.same (sameUpd (o := .dT []) (Same.refl _) n_rd))
    replace at_p := @upd_same (upd H6 rd (.dT [])) p (.ins (He.ga K "Parser") dx (putF "rules" (.ref rd) (putF "robots" (.ref rl) (putF "moods" (.ref ml) (putF "signs" (.ref sl) (putF "faults" (.ref fl) (putF "at" (.int 0) (putF "tokens" (.ref tl) []))))))))
    replace at_tl := ((upd_ne (H := upd H6 rd (.dT [])) (o := .ins (He.ga K "Parser") dx (putF "rules" (.ref rd) (putF "robots" (.ref rl) (putF "moods" (.ref ml) (putF "signs" (.ref sl) (putF "faults" (.ref fl) (putF "at" (.int 0) (putF "tokens" (.ref tl) [])))))))) ptl).trans (upd_ne (o := .dT []) tl_rd)).trans at_tl
    replace at_fl := ((upd_ne (H := upd H6 rd (.dT [])) (o := .ins (He.ga K "Parser") dx (putF "rules" (.ref rd) (putF "robots" (.ref rl) (putF "moods" (.ref ml) (putF "signs" (.ref sl) (putF "faults" (.ref fl) (putF "at" (.int 0) (putF "tokens" (.ref tl) [])))))))) (Ne.symm p_fl)).trans (upd_ne (o := .dT []) fl_rd)).trans at_fl
    replace at_sl := ((upd_ne (H := upd H6 rd (.dT [])) (o := .ins (He.ga K "Parser") dx (putF "rules" (.ref rd) (putF "robots" (.ref rl) (putF "moods" (.ref ml) (putF "signs" (.ref sl) (putF "faults" (.ref fl) (putF "at" (.int 0) (putF "tokens" (.ref tl) [])))))))) (Ne.symm p_sl)).trans (upd_ne (o := .dT []) sl_rd)).trans at_sl
    replace at_ml := ((upd_ne (H := upd H6 rd (.dT [])) (o := .ins (He.ga K "Parser") dx (putF "rules" (.ref rd) (putF "robots" (.ref rl) (putF "moods" (.ref ml) (putF "signs" (.ref sl) (putF "faults" (.ref fl) (putF "at" (.int 0) (putF "tokens" (.ref tl) [])))))))) (Ne.symm p_ml)).trans (upd_ne (o := .dT []) ml_rd)).trans at_ml
    replace at_rl := ((upd_ne (H := upd H6 rd (.dT [])) (o := .ins (He.ga K "Parser") dx (putF "rules" (.ref rd) (putF "robots" (.ref rl) (putF "moods" (.ref ml) (putF "signs" (.ref sl) (putF "faults" (.ref fl) (putF "at" (.int 0) (putF "tokens" (.ref tl) [])))))))) (Ne.symm p_rl)).trans (upd_ne (o := .dT []) rl_rd)).trans at_rl
    have at_rd : (upd (upd H6 rd (.dT [])) p (.ins (He.ga K "Parser") dx (putF "rules" (.ref rd) (putF "robots" (.ref rl) (putF "moods" (.ref ml) (putF "signs" (.ref sl) (putF "faults" (.ref fl) (putF "at" (.int 0) (putF "tokens" (.ref tl) []))))))))) rd = some (.dT []) := (upd_ne (Ne.symm p_rd)).trans upd_same
    replace sm1 : Same H0 (upd (upd H6 rd (.dT [])) p (.ins (He.ga K "Parser") dx (putF "rules" (.ref rd) (putF "robots" (.ref rl) (putF "moods" (.ref ml) (putF "signs" (.ref sl) (putF "faults" (.ref fl) (putF "at" (.int 0) (putF "tokens" (.ref tl) []))))))))) := sameUpd (sameUpd sm1 n0_rd) n0p
    generalize upd (upd H6 rd (.dT [])) p (.ins (He.ga K "Parser") dx (putF "rules" (.ref rd) (putF "robots" (.ref rl) (putF "moods" (.ref ml) (putF "signs" (.ref sl) (putF "faults" (.ref fl) (putF "at" (.int 0) (putF "tokens" (.ref tl) [])))))))) = H7 at *
    intro pd n_pd
    have n0_pd : H0 pd = none := sm1.free n_pd
    have p_pd : p ≠ pd := ne_of_none at_p n_pd
    have tl_pd : tl ≠ pd := ne_of_none at_tl n_pd
    have fl_pd : fl ≠ pd := ne_of_none at_fl n_pd
    have sl_pd : sl ≠ pd := ne_of_none at_sl n_pd
    have ml_pd : ml ≠ pd := ne_of_none at_ml n_pd
    have rl_pd : rl ≠ pd := ne_of_none at_rl n_pd
    have rd_pd : rd ≠ pd := ne_of_none at_rd n_pd
    refine ⟨_, rfl, p, _, dx, _, rfl, (upd_ne p_pd).trans at_p, T.par.c, T.par.n _ (by simp), lnZ (lnS (lnS (lnS (lnS (lnS (lnS (lnS ln0))))))), ?_⟩
    replace tks := kk0 _ _ (putF "pairs" (.ref pd) (putF "rules" (.ref rd) (putF "robots" (.ref rl) (putF "moods" (.ref ml) (putF "signs" (.ref sl) (putF "faults" (.ref fl) (putF "at" (.int 0) (putF "tokens" (.ref tl) [])))))))) ((upd_ne (o := .dT []) p_pd).trans at_p) (tks.same (sameUpd (o := .dT []) (Same.refl _) n_pd))
    replace at_p := @upd_same (upd H7 pd (.dT [])) p (.ins (He.ga K "Parser") dx (putF "pairs" (.ref pd) (putF "rules" (.ref rd) (putF "robots" (.ref rl) (putF "moods" (.ref ml) (putF "signs" (.ref sl) (putF "faults" (.ref fl) (putF "at" (.int 0) (putF "tokens" (.ref tl) [])))))))))
    replace at_tl := ((upd_ne (H := upd H7 pd (.dT [])) (o := .ins (He.ga K "Parser") dx (putF "pairs" (.ref pd) (putF "rules" (.ref rd) (putF "robots" (.ref rl) (putF "moods" (.ref ml) (putF "signs" (.ref sl) (putF "faults" (.ref fl) (putF "at" (.int 0) (putF "tokens" (.ref tl) []))))))))) ptl).trans (upd_ne (o := .dT []) tl_pd)).trans at_tl
    replace at_fl := ((upd_ne (H := upd H7 pd (.dT [])) (o := .ins (He.ga K "Parser") dx (putF "pairs" (.ref pd) (putF "rules" (.ref rd) (putF "robots" (.ref rl) (putF "moods" (.ref ml) (putF "signs" (.ref sl) (putF "faults" (.ref fl) (putF "at" (.int 0) (putF "tokens" (.ref tl) []))))))))) (Ne.symm p_fl)).trans (upd_ne (o := .dT []) fl_pd)).trans at_fl
    replace at_sl := ((upd_ne (H := upd H7 pd (.dT [])) (o := .ins (He.ga K "Parser") dx (putF "pairs" (.ref pd) (putF "rules" (.ref rd) (putF "robots" (.ref rl) (putF "moods" (.ref ml) (putF "signs" (.ref sl) (putF "faults" (.ref fl) (putF "at" (.int 0) (putF "tokens" (.ref tl) []))))))))) (Ne.symm p_sl)).trans (upd_ne (o := .dT []) sl_pd)).trans at_sl
    replace at_ml := ((upd_ne (H := upd H7 pd (.dT [])) (o := .ins (He.ga K "Parser") dx (putF "pairs" (.ref pd) (putF "rules" (.ref rd) (putF "robots" (.ref rl) (putF "moods" (.ref ml) (putF "signs" (.ref sl) (putF "faults" (.ref fl) (putF "at" (.int 0) (putF "tokens" (.ref tl) []))))))))) (Ne.symm p_ml)).trans (upd_ne (o := .dT []) ml_pd)).trans at_ml
    replace at_rl := ((upd_ne (H := upd H7 pd (.dT [])) (o := .ins (He.ga K "Parser") dx (putF "pairs" (.ref pd) (putF "rules" (.ref rd) (putF "robots" (.ref rl) (putF "moods" (.ref ml) (putF "signs" (.ref sl) (putF "faults" (.ref fl) (putF "at" (.int 0) (putF "tokens" (.ref tl) []))))))))) (Ne.symm p_rl)).trans (upd_ne (o := .dT []) rl_pd)).trans at_rl
    replace at_rd := ((upd_ne (H := upd H7 pd (.dT [])) (o := .ins (He.ga K "Parser") dx (putF "pairs" (.ref pd) (putF "rules" (.ref rd) (putF "robots" (.ref rl) (putF "moods" (.ref ml) (putF "signs" (.ref sl) (putF "faults" (.ref fl) (putF "at" (.int 0) (putF "tokens" (.ref tl) []))))))))) (Ne.symm p_rd)).trans (upd_ne (o := .dT []) rd_pd)).trans at_rd
    have at_pd : (upd (upd H7 pd (.dT [])) p (.ins (He.ga K "Parser") dx (putF "pairs" (.ref pd) (putF "rules" (.ref rd) (putF "robots" (.ref rl) (putF "moods" (.ref ml) (putF "signs" (.ref sl) (putF "faults" (.ref fl) (putF "at" (.int 0) (putF "tokens" (.ref tl) [])))))))))) pd = some (.dT []) := (upd_ne (Ne.symm p_pd)).trans upd_same
    replace sm1 : Same H0 (upd (upd H7 pd (.dT [])) p (.ins (He.ga K "Parser") dx (putF "pairs" (.ref pd) (putF "rules" (.ref rd) (putF "robots" (.ref rl) (putF "moods" (.ref ml) (putF "signs" (.ref sl) (putF "faults" (.ref fl) (putF "at" (.int 0) (putF "tokens" (.ref tl) [])))))))))) := sameUpd (sameUpd sm1 n0_pd) n0p
    generalize upd (upd H7 pd (.dT [])) p (.ins (He.ga K "Parser") dx (putF "pairs" (.ref pd) (putF "rules" (.ref rd) (putF "robots" (.ref rl) (putF "moods" (.ref ml) (putF "signs" (.ref sl) (putF "faults" (.ref fl) (putF "at" (.int 0) (putF "tokens" (.ref tl) []))))))))) = H8 at *
    intro sd n_sd
    have n0_sd : H0 sd = none := sm1.free n_sd
    have p_sd : p ≠ sd := ne_of_none at_p n_sd
    have tl_sd : tl ≠ sd := ne_of_none at_tl n_sd
    have fl_sd : fl ≠ sd := ne_of_none at_fl n_sd
    have sl_sd : sl ≠ sd := ne_of_none at_sl n_sd
    have ml_sd : ml ≠ sd := ne_of_none at_ml n_sd
    have rl_sd : rl ≠ sd := ne_of_none at_rl n_sd
    have rd_sd : rd ≠ sd := ne_of_none at_rd n_sd
    have pd_sd : pd ≠ sd := ne_of_none at_pd n_sd
    refine ⟨_, rfl, p, _, dx, _, rfl, (upd_ne p_sd).trans at_p, T.par.c, T.par.n _ (by simp), lnZ (lnS (lnS (lnS (lnS (lnS (lnS (lnS (lnS ln0)))))))), ?_⟩
    replace tks := kk0 _ _ (putF "spots" (.ref sd) (putF "pairs" (.ref pd) (putF "rules" (.ref rd) (putF "robots" (.ref rl) (putF "moods" (.ref ml) (putF "signs" (.ref sl) (putF "faults" (.ref fl) (putF "at" (.int 0) (putF "tokens" (.ref tl) []))))))))) ((upd_ne (o := .dK []) p_sd).trans at_p) (tks.same (sameUpd (o := .dK []) (Same.refl _) n_sd))
    replace at_p := @upd_same (upd H8 sd (.dK [])) p (.ins (He.ga K "Parser") dx (putF "spots" (.ref sd) (putF "pairs" (.ref pd) (putF "rules" (.ref rd) (putF "robots" (.ref rl) (putF "moods" (.ref ml) (putF "signs" (.ref sl) (putF "faults" (.ref fl) (putF "at" (.int 0) (putF "tokens" (.ref tl) []))))))))))
    replace at_tl := ((upd_ne (H := upd H8 sd (.dK [])) (o := .ins (He.ga K "Parser") dx (putF "spots" (.ref sd) (putF "pairs" (.ref pd) (putF "rules" (.ref rd) (putF "robots" (.ref rl) (putF "moods" (.ref ml) (putF "signs" (.ref sl) (putF "faults" (.ref fl) (putF "at" (.int 0) (putF "tokens" (.ref tl) [])))))))))) ptl).trans (upd_ne (o := .dK []) tl_sd)).trans at_tl
    replace at_fl := ((upd_ne (H := upd H8 sd (.dK [])) (o := .ins (He.ga K "Parser") dx (putF "spots" (.ref sd) (putF "pairs" (.ref pd) (putF "rules" (.ref rd) (putF "robots" (.ref rl) (putF "moods" (.ref ml) (putF "signs" (.ref sl) (putF "faults" (.ref fl) (putF "at" (.int 0) (putF "tokens" (.ref tl) [])))))))))) (Ne.symm p_fl)).trans (upd_ne (o := .dK []) fl_sd)).trans at_fl
    replace at_sl := ((upd_ne (H := upd H8 sd (.dK [])) (o := .ins (He.ga K "Parser") dx (putF "spots" (.ref sd) (putF "pairs" (.ref pd) (putF "rules" (.ref rd) (putF "robots" (.ref rl) (putF "moods" (.ref ml) (putF "signs" (.ref sl) (putF "faults" (.ref fl) (putF "at" (.int 0) (putF "tokens" (.ref tl) [])))))))))) (Ne.symm p_sl)).trans (upd_ne (o := .dK []) sl_sd)).trans at_sl
    replace at_ml := ((upd_ne (H := upd H8 sd (.dK [])) (o := .ins (He.ga K "Parser") dx (putF "spots" (.ref sd) (putF "pairs" (.ref pd) (putF "rules" (.ref rd) (putF "robots" (.ref rl) (putF "moods" (.ref ml) (putF "signs" (.ref sl) (putF "faults" (.ref fl) (putF "at" (.int 0) (putF "tokens" (.ref tl) [])))))))))) (Ne.symm p_ml)).trans (upd_ne (o := .dK []) ml_sd)).trans at_ml
    replace at_rl := ((upd_ne (H := upd H8 sd (.dK [])) (o := .ins (He.ga K "Parser") dx (putF "spots" (.ref sd) (putF "pairs" (.ref pd) (putF "rules" (.ref rd) (putF "robots" (.ref rl) (putF "moods" (.ref ml) (putF "signs" (.ref sl) (putF "faults" (.ref fl) (putF "at" (.int 0) (putF "tokens" (.ref tl) [])))))))))) (Ne.symm p_rl)).trans (upd_ne (o := .dK []) rl_sd)).trans at_rl
    replace at_rd := ((upd_ne (H := upd H8 sd (.dK [])) (o := .ins (He.ga K "Parser") dx (putF "spots" (.ref sd) (putF "pairs" (.ref pd) (putF "rules" (.ref rd) (putF "robots" (.ref rl) (putF "moods" (.ref ml) (putF "signs" (.ref sl) (putF "faults" (.ref fl) (putF "at" (.int 0) (putF "tokens" (.ref tl) [])))))))))) (Ne.symm p_rd)).trans (upd_ne (o := .dK []) rd_sd)).trans at_rd
    replace at_pd := ((upd_ne (H := upd H8 sd (.dK [])) (o := .ins (He.ga K "Parser") dx (putF "spots" (.ref sd) (putF "pairs" (.ref pd) (putF "rules" (.ref rd) (putF "robots" (.ref rl) (putF "moods" (.ref ml) (putF "signs" (.ref sl) (putF "faults" (.ref fl) (putF "at" (.int 0) (putF "tokens" (.ref tl) [])))))))))) (Ne.symm p_pd)).trans (upd_ne (o := .dK []) pd_sd)).trans at_pd
    have at_sd : (upd (upd H8 sd (.dK [])) p (.ins (He.ga K "Parser") dx (putF "spots" (.ref sd) (putF "pairs" (.ref pd) (putF "rules" (.ref rd) (putF "robots" (.ref rl) (putF "moods" (.ref ml) (putF "signs" (.ref sl) (putF "faults" (.ref fl) (putF "at" (.int 0) (putF "tokens" (.ref tl) []))))))))))) sd = some (.dK []) := (upd_ne (Ne.symm p_sd)).trans upd_same
    replace sm1 : Same H0 (upd (upd H8 sd (.dK [])) p (.ins (He.ga K "Parser") dx (putF "spots" (.ref sd) (putF "pairs" (.ref pd) (putF "rules" (.ref rd) (putF "robots" (.ref rl) (putF "moods" (.ref ml) (putF "signs" (.ref sl) (putF "faults" (.ref fl) (putF "at" (.int 0) (putF "tokens" (.ref tl) []))))))))))) := sameUpd (sameUpd sm1 n0_sd) n0p
    generalize upd (upd H8 sd (.dK [])) p (.ins (He.ga K "Parser") dx (putF "spots" (.ref sd) (putF "pairs" (.ref pd) (putF "rules" (.ref rd) (putF "robots" (.ref rl) (putF "moods" (.ref ml) (putF "signs" (.ref sl) (putF "faults" (.ref fl) (putF "at" (.int 0) (putF "tokens" (.ref tl) [])))))))))) = H9 at *
    refine k ⟨tl, fl, sl, ml, rl, rd, pd, sd⟩ H9 ⟨sm1, ⟨dx, at_p.trans (congrArg (fun z => some (HO.ins (He.ga K "Parser") dx z)) (put_par ⟨tl, fl, sl, ml, rl, rd, pd, sd⟩))⟩, at_tl, tks, ⟨[], at_fl, trivial⟩, at_sl, at_ml, ⟨[], at_rl, .nil⟩, ⟨[], at_rd, .nil⟩, at_pd, at_sd, ?_, ?_⟩
    · simp only [List.nodup_cons, List.mem_cons, List.not_mem_nil, or_false, not_or]
      exact ⟨⟨Ne.symm ptl, p_fl, p_sl, p_ml, p_rl, p_rd, p_pd, p_sd⟩, ⟨tl_fl, tl_sl, tl_ml, tl_rl, tl_rd, tl_pd, tl_sd⟩, ⟨fl_sl, fl_ml, fl_rl, fl_rd, fl_pd, fl_sd⟩, ⟨sl_ml, sl_rl, sl_rd, sl_pd, sl_sd⟩, ⟨ml_rl, ml_rd, ml_pd, ml_sd⟩, ⟨rl_rd, rl_pd, rl_sd⟩, ⟨rd_pd, rd_sd⟩, pd_sd, not_false, List.nodup_nil⟩
    · intro a ha
      simp only [List.mem_cons, List.not_mem_nil, or_false] at ha
      rcases ha with rfl | rfl | rfl | rfl | rfl | rfl | rfl | rfl | rfl <;> assumption
end
end Sw

end

section
set_option maxRecDepth 100000
set_option maxHeartbeats 4000000
/-! parse_plan, load -/
namespace Sw
open PySem PySem.Spec PyProof.Rows L2 SwA
structure LoadT (K : PySem.W.Frag) (mg : Str → Option Value) : Prop where
  p : ParT K mg
  plan : MkC K mg "Plan" planF
  d_plan : FD K ("Plan", some "__init__") "__init__" "Plan.__init__" s_Plan_init
  d_load : FD K ("load", none) "load" "load" s_load
  g_load : mg "load" = some (.ref (He.ga K "load"))
/-- a plan's object -/
def PlanAt (K : PySem.W.Frag) (H : Hp) (a : Addr) (pl : Plan) : Prop := ∃ (dx sa ma fa ra rd : Addr) (ras : List Addr),
  H a = some (.ins (He.ga K "Plan") dx [("signs", .ref sa), ("moods", .ref ma), ("floor", .ref fa), ("robots", .ref ra), ("rules", .ref rd)]) ∧ TupN H sa (pl.signs.map sV) ∧ TupN H ma (pl.moods.map sV) ∧
  H fa = some (.tup (pl.floor.map fun n : Nat => V.int n)) ∧ H ra = some (.tup (ras.map V.ref)) ∧ Paired (RobAt H) ras pl.robots ∧ RulesAt H rd pl.rules
theorem PlanAt.same {K : PySem.W.Frag} {H H' : Hp} {a : Addr} {pl : Plan} (s : Same H H') (h : PlanAt K H a pl) : PlanAt K H' a pl := by
  obtain ⟨dx, sa, ma, fa, ra, rd, ras, e1, e2, e3, e4, e5, e6, kvs, e7, e8⟩ := h
  exact ⟨dx, sa, ma, fa, ra, rd, ras, s _ _ e1, e2.mono fun _ z => s _ _ z, e3.mono fun _ z => s _ _ z, s _ _ e4, s _ _ e5, Paired.mapP e6 fun _ _ q => s _ _ q, kvs, s _ _ e7, Paired.mapP e8 fun _ _ q => q.mono fun _ _ z => s _ _ z⟩
theorem put_plan (a b c d e : V) : putF "rules" e (putF "robots" d (putF "floor" c (putF "moods" b (putF "signs" a [])))) = ([("signs", a), ("moods", b), ("floor", c), ("robots", d), ("rules", e)] : List (Str × V)) := by kernel_rfl
theorem spots_get (l : List (Nat × Nat)) (i : Nat) : (valV (l.map spotK) (.inl ((0 : Int) + (i : Nat)) : Key)).getD (.int 0) = .int ((getA l i).getD 0 : Nat) := by
  rw [Int.zero_add]
  induction l with
  | nil => rfl
  | cons a r ih =>
    by_cases e : a.1 = i
    · rw [List.map_cons, valV_pos (show (spotK a).1 = .inl (i : Int) by show (.inl (a.1 : Int) : Key) = _; rw [e])]
      unfold getA
      rw [List.find?_cons, decide_eq_true e]
      rfl
    · rw [List.map_cons, valV_neg (show ¬ (spotK a).1 = .inl (i : Int) from fun q => e (key_inl.mp q)), ih]
      unfold getA
      rw [List.find?_cons, decide_eq_false e]
/-! ### the tokens are good -/
theorem mem_tw {p : Nat → Bool} {x : Nat} : ∀ {l : Cs}, x ∈ l.takeWhile p → p x = true
  | [], h => by cases h
  | c :: r, h => by
    cases e : p c with
    | false => rw [List.takeWhile_cons, e] at h; cases h
    | true =>
      rw [List.takeWhile_cons, e] at h
      rcases List.mem_cons.mp h with q | q
      · rw [q]; exact e
      · exact mem_tw q
theorem readTok_kind {line col : Nat} {rest : Cs} {t : Tk} (h : readTok line col rest = some t) : t.kind ≠ .fin ∧ (t.kind = .number → (1 ≤ t.text.length ∧ t.text.length ≤ 2) ∧ t.text.all isD = true) := by
  unfold readTok at h
  split at h
  · cases h
  · rename_i c r
    split at h
    · cases h
      exact ⟨(fun q => by cases q), (fun q => by cases q)⟩
    · split at h
      · rename_i hd
        split at h
        · cases h
        · rename_i hn
          cases h
          refine ⟨(fun q => by cases q), fun _ => ⟨⟨?_, by show ((c :: r).takeWhile isD).length ≤ 2; omega⟩, ?_⟩⟩
          · simp [List.takeWhile_cons, hd]
          · rw [List.all_eq_true]
            intro x hx
            exact mem_tw hx
      · split at h
        · cases h
          exact ⟨(fun q => by cases q), (fun q => by cases q)⟩
        · split at h
          · cases h
            exact ⟨(fun q => by cases q), (fun q => by cases q)⟩
          · cases h
def TkG (t : Tk) : Prop := t.kind ≠ .fin ∧ (t.kind = .number → (1 ≤ t.text.length ∧ t.text.length ≤ 2) ∧ t.text.all isD = true)
theorem lexRow_good (line : Nat) : ∀ (f col : Nat) (rest : Cs) (ts : List Tk), lexRow line f col rest = .ok ts → (∀ t ∈ ts, TkG t) ∧ ts.length ≤ rest.length
  | f, col, [], ts, h => by
    have e : ts = [] := by cases f <;> (injection h with h; exact h.symm)
    subst e
    exact ⟨by simp, Nat.le_refl _⟩
  | 0, col, c :: r, ts, h => by
    injection h with h
    subst h
    exact ⟨by simp, Nat.zero_le _⟩
  | f + 1, col, c :: r, ts, h => by
    unfold lexRow at h
    split at h
    · have z := lexRow_good line f (col + 1) r ts h
      exact ⟨z.1, Nat.le_succ_of_le z.2⟩
    · split at h
      · cases h
      · rename_i t ht
        split at h
        · cases h
        · rename_i us hu
          cases h
          have z := lexRow_good line f _ _ us hu
          have l := readTok_len ht
          rw [List.length_drop] at z
          refine ⟨fun x hx => ?_, ?_⟩
          · rcases List.mem_cons.mp hx with q | q
            · rw [q]; exact readTok_kind ht
            · exact z.1 x q
          · simp only [List.length_cons] at z l ⊢
            omega
theorem lexRows_good : ∀ (rows : List Cs) (line : Nat) (ts : List Tk), lexRows line rows = .ok ts → (∀ t ∈ ts, TkG t) ∧ ts.length ≤ (rows.map List.length).sum
  | [], line, ts, h => by
    injection h with h
    subst h
    exact ⟨by simp, by simp⟩
  | row :: rest, line, ts, h => by
    unfold lexRows at h
    split at h
    · cases h
    · rename_i us hu
      split at h
      · cases h
      · rename_i vs hv
        cases h
        have z1 := lexRow_good line _ _ _ us hu
        have z2 := lexRows_good rest (line + 1) vs hv
        refine ⟨fun x hx => ?_, ?_⟩
        · rcases List.mem_append.mp hx with q | q
          · exact z1.1 x q
          · exact z2.1 x q
        · rw [List.length_append, List.map_cons, List.sum_cons]
          omega
theorem tokenize_good {text : Cs} {T : List Tk} (hl : text.length ≤ 90000) (h : tokenize text = .ok T) : GoodT T := by
  unfold tokenize at h
  split at h
  · cases h
  · rename_i ts ht
    cases h
    obtain ⟨g, gl⟩ := lexRows_good _ _ _ ht
    have gl2 := Nat.le_trans gl (rows_sum text)
    have get : ∀ (i : Nat) t, (ts ++ [(⟨.fin, [], (rowsOf text).length, 0⟩ : Tk)])[i]? = some t → (i < ts.length ∧ t ∈ ts) ∨ (i = ts.length ∧ t = ⟨.fin, [], (rowsOf text).length, 0⟩) := by
      intro i t e
      by_cases hi : i < ts.length
      · rw [List.getElem?_append_left hi] at e
        exact .inl ⟨hi, List.mem_of_getElem? e⟩
      · rw [List.getElem?_append_right (Nat.le_of_not_lt hi)] at e
        cases hd : i - ts.length with
        | zero =>
          rw [hd] at e
          exact .inr ⟨by omega, (Option.some.inj e).symm⟩
        | succ n =>
          rw [hd] at e
          simp at e
    refine ⟨fun i t e hi => ?_, by simp, fun i t e hk => ?_, fun t ht hk => ?_, by simp; omega⟩
    · rw [List.length_append] at hi
      rcases get i t e with q | q
      · have : [(⟨.fin, [], (rowsOf text).length, 0⟩ : Tk)].length = 1 := rfl
        omega
      · rw [q.2]
        exact ⟨rfl, rfl⟩
    · rcases get i t e with q | q
      · exact absurd hk (g t q.2).1
      · rw [q.1, List.length_append]
        rfl
    · rcases List.mem_append.mp ht with q | q
      · exact (g t q).2 hk
      · have e : t = ⟨.fin, [], (rowsOf text).length, 0⟩ := by simpa using q
        rw [e] at hk
        cases hk
theorem numVal_le {w : Cs} (h : w.all isD = true) (h2 : w.length ≤ 2) : numVal w ≤ 99 := by
  have d : ∀ c, isD c = true → c - 48 ≤ 9 := fun c hc => by
    unfold isD at hc
    rw [Bool.and_eq_true] at hc
    have := Nat.le_of_ble_eq_true hc.2
    omega
  match w, h, h2 with
  | [], _, _ => simp [numVal]
  | [a], h, _ =>
    simp only [List.all_cons, List.all_nil, Bool.and_true] at h
    have := d a h
    simp [numVal]
    omega
  | [a, b], h, _ =>
    simp only [List.all_cons, List.all_nil, Bool.and_true, Bool.and_eq_true] at h
    have h1 := d a h.1
    have h2 := d b h.2
    simp [numVal]
    omega
section
variable {P : Program} {w : World} {K : PySem.W.Frag} {mg : Str → Option Value} {base : Heap}
theorem sc_plan : FnScope ["self", "signs", "moods", "floor", "robots", "rules"] ["self", "signs", "moods", "floor", "robots", "rules"] (defScope s_Plan_init) := ⟨rfl, rfl, rfl, by decide +kernel, rfl, by decide +kernel, by decide +kernel⟩
theorem ok_plan (T : LoadT K mg) : FnE P w K mg base CX0 1 ("Plan", some "__init__") ["self", "signs", "moods", "floor", "robots", "rules"] (spInit (He.ga K "Plan") planF) := by
  obtain ⟨fd, F⟩ := T.d_plan
  refine ⟨fd, F.ok sc_plan (fun vs H Q E h => ?_) (fun cdv A outer s H vs Q E hr h => ?_), F.bindsN fun _ _ _ _ _ _ us hl => match us, hl with | [_, _, _, _, _, _], _ => rfl, F.kp⟩
  · obtain ⟨a, dx, args, rfl, e, _⟩ := h
    simp [e]
  · obtain ⟨p, dx, args, rfl, e, hp, k⟩ := h
    obtain ⟨v1, v2, v3, v4, v5, rfl⟩ : ∃ v1 v2 v3 v4 v5, args = [v1, v2, v3, v4, v5] := by
      match args, e with
      | [v1, v2, v3, v4, v5], _ => exact ⟨v1, v2, v3, v4, v5, rfl⟩
    refine ⟨_, PSs.nox (pss_cons (ps_fld (pv 0) (pv 1) rfl) (pss_cons (ps_fld (pv 0) (pv 2) rfl) (pss_cons (ps_fld (pv 0) (pv 3) rfl) (pss_cons (ps_fld (pv 0) (pv 4) rfl) (pss_one (ps_fld (pv 0) (pv 5) rfl)))))), ?_⟩
    refine ⟨_, rfl, _, rfl, p, _, dx, _, rfl, hp, T.plan.c, T.plan.n _ (by simp), lnZ ln0, ?_⟩
    refine ⟨_, rfl, _, rfl, p, _, dx, _, rfl, upd_same, T.plan.c, T.plan.n _ (by simp), lnZ (lnS ln0), ?_⟩
    refine ⟨_, rfl, _, rfl, p, _, dx, _, rfl, upd_same, T.plan.c, T.plan.n _ (by simp), lnZ (lnS (lnS ln0)), ?_⟩
    refine ⟨_, rfl, _, rfl, p, _, dx, _, rfl, upd_same, T.plan.c, T.plan.n _ (by simp), lnZ (lnS (lnS (lnS ln0))), ?_⟩
    refine ⟨_, rfl, _, rfl, p, _, dx, _, rfl, upd_same, T.plan.c, T.plan.n _ (by simp), lnZ (lnS (lnS (lnS (lnS ln0)))), ?_⟩
    refine k _ ?_ fun b hb => by rw [upd_ne hb, upd_ne hb, upd_ne hb, upd_ne hb, upd_ne hb]
    rw [upd_same, put_plan]
    rfl
def spParsePlan (K : PySem.W.Frag) : Sp := fun vs H Q E => ∃ (H0 : Hp) (p : Addr) (L : PLoc) (tas : List Addr) (T : List Tk), vs = [.ref p] ∧ PA K H0 H p L tas T st0 ∧ GoodT T ∧
  (∀ n s, parsePlan T = .ok (n, s) → s.faults = [] ∧ ∀ (a : Addr) (H' : Hp), H0 a = none → Same H0 H' → PlanAt K H' a (planOf n s) → Q (.ref a) H') ∧ (∀ l c, parsePlan T = .error (l, c) → Syn K H0 E l c)
abbrev ppN : List Str := ["self", "token", "tiles", "line", "column", "number", "reason", "floor", "tile"]
theorem sc_parse_plan : FnScope ppN ["self"] (defScope s_Parser_parse_plan) := ⟨rfl, rfl, rfl, by decide +kernel, rfl, by decide +kernel, by decide +kernel⟩
theorem ok_parse_plan (T : LoadT K mg) : FnE P w K mg base (L2.CX P w) 7 ("Parser", some "parse_plan") ["self"] (spParsePlan K) := by
  obtain ⟨fd, F⟩ := T.p.parse_plan.d
  obtain ⟨fdP, GP, bP, kP⟩ := ok_peek (P := P) (w := w) (base := base) T.p
  obtain ⟨fdF, GF, bF, kF⟩ := ok_found (P := P) (w := w) (base := base) T.p
  obtain ⟨fdX, GX, bX, kX⟩ := ok_fail (P := P) (w := w) (base := base) T.p
  obtain ⟨fdA, GA, bA, kA⟩ := ok_take (P := P) (w := w) (base := base) T.p
  obtain ⟨fdW, GW, bW, kW⟩ := ok_take_word (P := P) (w := w) (base := base) T.p
  obtain ⟨fdN, GN, bN, kN⟩ := ok_parse_names (P := P) (w := w) (base := base) T.p
  obtain ⟨fdR, GR, bR, kR⟩ := ok_parse_robot (P := P) (w := w) (base := base) T.p
  obtain ⟨fdU, GU, bU, kU⟩ := ok_parse_put (P := P) (w := w) (base := base) T.p
  obtain ⟨fdL, GL, bL, kL⟩ := ok_parse_rule (P := P) (w := w) (base := base) T.p
  obtain ⟨fdI, GI, bI, kI⟩ := ok_plan (P := P) (w := w) (base := base) T
  obtain ⟨t1, mNUM⟩ := T.p.l.NUMBER
  obtain ⟨t2, mEND⟩ := T.p.l.END
  obtain ⟨t3, mMT⟩ := T.p.MAX_TILES
  obtain ⟨t4, mMS⟩ := T.p.MAX_SIGNS
  obtain ⟨t5, mMM⟩ := T.p.MAX_MOODS
  refine ⟨fd, F.ok sc_parse_plan (fun vs H Q E h => ?_) (fun cdv A outer s H vs Q E hr h => ?_), F.bindsN fun _ _ _ _ _ _ us hl => match us, hl with | [_], _ => rfl, F.kp⟩
  · obtain ⟨H0, p, L, tas, Ts, rfl, _⟩ := h
    rfl
  · obtain ⟨H0, p, L, tas, Ts, rfl, hP, hG, hok, her⟩ := h
    have hr1 : Room 1 _ := hr.mono (by decide)
    have hr2 : Room 2 _ := hr.mono (by decide)
    have hr3 : Room 3 _ := hr.mono (by decide)
    have hr4 : Room 4 _ := hr.mono (by decide)
    have hr5 : Room 5 _ := hr.mono (by decide)
    have hu := hu_of hr
    refine ⟨_, (pss_cons (ps_expr (pe_meth (pv 0) T.p.par.c T.p.take_word.m GW hr4 bW .nil (passes_call (takes_of rfl rfl rfl rfl) (fun _ _ _ _ h => h)) (pa_cons pe_str pa_nil)))
      (pss_cons (ps_set (i := 1) sc_parse_plan.nd rfl (.inl rfl) (pe_meth (pv 0) T.p.par.c T.p.take.m GA hr4 bA .nil (passes_call (takes_of rfl rfl rfl rfl) (fun _ _ _ _ h => h)) (pa_cons (pe_glob (v := .str "number") rfl mNUM ⟨_, rfl⟩) pa_nil)))
      (pss_cons (ps_set (i := 2) sc_parse_plan.nd rfl (.inl rfl) (pe_callTy call_int_str (by rfl) T.p.int (by decide +kernel) (pa_cons (pe_fld (pv 1) rfl) pa_nil)))
      (pss_cons (ps_expr (pe_meth (pv 0) T.p.par.c T.p.take_word.m GW hr4 bW .nil (passes_call (takes_of rfl rfl rfl rfl) (fun _ _ _ _ h => h)) (pa_cons pe_str pa_nil)))
      (C8.pss_cut (ps_if (pt_not (pt_chain op_le op_le pe_int (pv 2) (pe_glob (v := .int 16) rfl mMT ⟨_, rfl⟩)))
        (pss_one (ps_expr (pe_meth (pv 0) T.p.par.c T.p.found.m GF hr1 bF .nil pass0 (pa_cons pe_str (pa_cons (pv 1) pa_nil))))) pss_nil)
      (pss_cons (ps_expr (pe_meth (pv 0) T.p.par.c T.p.parse_names.m GN hr5 bN .nil (passes_call (takes_of rfl rfl rfl rfl) (fun _ _ _ _ h => h)) (pa_cons pe_str (pa_cons (pe_fld (pv 0) rfl) (pa_cons (pe_glob (v := .int 4) rfl mMS ⟨_, rfl⟩) pa_nil)))))
      (pss_cons (ps_expr (pe_meth (pv 0) T.p.par.c T.p.parse_names.m GN hr5 bN .nil (passes_call (takes_of rfl rfl rfl rfl) (fun _ _ _ _ h => h)) (pa_cons pe_str (pa_cons (pe_fld (pv 0) rfl) (pa_cons (pe_glob (v := .int 6) rfl mMM ⟨_, rfl⟩) pa_nil)))))
      (pss_cons (ps_expr (pe_meth (pv 0) T.p.par.c T.p.parse_robot.m GR hr bR .nil (passes_call (takes_of rfl rfl rfl rfl) (fun _ _ _ _ h => h)) (pa_cons (pv 2) pa_nil)))
      (pss_cons (ps_while (passes_of rfl) (pt_cmpR op_ne (pe_fld (pe_meth0 (pv 0) T.p.par.c T.p.peek.m GP hr1 bP .nil pass0) rfl) (pe_glob (v := .str "end") rfl mEND ⟨_, rfl⟩) (nomark _))
        (pss_one (ps_match (pe_fld (pe_meth0 (pv 0) T.p.par.c T.p.peek.m GP hr1 bP .nil pass0) rfl)
          (pms_str (pss_one (ps_expr (pe_meth (pv 0) T.p.par.c T.p.parse_robot.m GR hr bR .nil (passes_call (takes_of rfl rfl rfl rfl) (fun _ _ _ _ h => h)) (pa_cons (pv 2) pa_nil))))
          (pms_str (pss_one (ps_expr (pe_meth (pv 0) T.p.par.c T.p.parse_put.m GU hr bU .nil (passes_call (takes_of rfl rfl rfl rfl) (fun _ _ _ _ h => h)) (pa_cons (pv 2) pa_nil))))
          (pms_str (pss_one (ps_expr (pe_meth0 (pv 0) T.p.par.c T.p.parse_rule.m GL hr bL .nil (passes_call (takes_of rfl rfl rfl rfl) (fun _ _ _ _ h => h)))))
          (pms_any (pss_one (ps_expr (pe_meth0 (pv 0) T.p.par.c T.p.fail.m GX hr3 bX .nil (passes_call (takes_of rfl rfl rfl rfl) (fun _ _ _ _ h => h))))))))))))
      (pss_cons (ps_if (pt_cmpR (op_neD hr.units) (pe_fld (pv 0) rfl) (pe_lst pa_nil) (nomark _)) pss_never pss_nil)
      (pss_cons (ps_set (i := 7) sc_parse_plan.nd rfl (.inl rfl) (pe_callTy call_tuple_of (by rfl) T.p.tuple (by decide +kernel) (pa_cons
        (pe_lc (own := [("tile", 8)]) (g := gName 8) (tt := tYes) (te := tDGet2 (tFld K (tVar 0) "spots") (tVar 8) (tC (.int 0))) rfl sc_parse_plan.nd (pi_range1 (by rfl) T.p.range (pa_cons (pv 2) pa_nil)) (blkOk_by (own := [("tile", 8)]) (N := ppN) (sc := defScope s_Parser_parse_plan) (by decide +kernel))
          (fun _ _ _ _ _ => pg_name (i := 8) sc_parse_plan.nd rfl (Or.inl rfl)) (fun _ _ _ _ _ => pts_nil) (fun _ _ _ _ _ => pe_dget2 hu (pe_fld (pv 0) rfl) (pv 8) pe_int ⟨rfl, rfl, rfl, rfl⟩)) pa_nil)))
      (pss_one (ps_ret (pe_make T.plan.m GI hr2 rfl T.plan.g bI .nil pass0 (pa_cons (pe_tupleOfN (by rfl) T.p.tuple (pe_fld (pv 0) rfl))
        (pa_cons (pe_tupleOfN (by rfl) T.p.tuple (pe_fld (pv 0) rfl)) (pa_cons (pv 7)
        (pa_cons (pe_callTy call_tuple_of (by rfl) T.p.tuple (by decide +kernel) (pa_cons (pe_fld (pv 0) rfl) pa_nil)) (pa_cons (pe_fld (pv 0) rfl) pa_nil))))))))))))))))))), ?_⟩
    obtain ⟨dx, ob⟩ := hP.ob
    have hlen := hG.len
    have hB0 : Bd Ts st0 := ⟨by
      show 0 < Ts.length
      exact List.length_pos_iff.mpr hG.ne, Nat.le_refl _, Nat.zero_le _, Nat.zero_le _, Nat.le_refl _, Nat.le_refl _, Nat.le_refl _, Nat.le_refl _⟩
    refine ⟨_, rfl, p, dx, _, rfl, ob, lp_no_take_word, H0, p, L, tas, Ts, st0, wCorridor, by rw [e_corridor]; rfl, hP, hB0.at_, ⟨fun kw s1 h1 v H1 hv hP1 => ?_, fun l c he => her l c (by simp only [parsePlan, he])⟩⟩
    clear hv
    obtain ⟨B1, f1, e1⟩ := bd_word hG hB0 h1 (by decide)
    obtain ⟨dx1, ob1⟩ := hP1.ob
    refine ⟨_, rfl, p, dx1, _, rfl, ob1, lp_no_take, H0, p, L, tas, Ts, s1, .number, rfl, hP1, B1.at_, ⟨fun tk s2 h2 v H2 hv hP2 => ?_, fun l c he => her l c (by simp only [parsePlan, h1, he])⟩⟩
    obtain ⟨a2, rfl, hta2⟩ := hv
    obtain ⟨B2, f2, e2, _⟩ := bd_take hG B1 h2 (by decide)
    obtain ⟨dx2, ob2⟩ := hP2.ob
    obtain ⟨dt2, ht2⟩ := hP2.get hta2
    obtain ⟨⟨n1, n2⟩, n3⟩ := hG.num tk hta2.mem (take_ok h2).2.2
    have hint := int_sx n3 n1 n2
    have hn99 := numVal_le n3 n2
    refine ⟨_, rfl, a2, _, dt2, _, _, rfl, ht2, T.p.l.tok.c, T.p.l.tok.n _ (by simp), lk_text, _, _, rfl, hint, by rw [len_sx]; omega, ?_⟩
    refine ⟨_, rfl, p, dx2, _, rfl, ob2, lp_no_take_word, H0, p, L, tas, Ts, s2, wSemi, by rw [e_semi]; rfl, hP2, B2.at_, ⟨fun t3 s3 h3 v H3 hv hP3 => ?_, fun l c he => her l c (by simp only [parsePlan, h1, h2, he])⟩⟩
    clear hv
    obtain ⟨B3, f3, e3⟩ := bd_word hG B2 h3 (by decide)
    obtain ⟨dx3, ob3⟩ := hP3.ob
    have B3f := B3.fa
    have B3a := B3.at_
    generalize hq : (if 1 ≤ numVal tk.text ∧ numVal tk.text ≤ 16 then s3 else s3.found wCorridor tk) = q3
    have Bq : Bd Ts q3 := by
      rw [← hq]
      split
      · exact B3
      · exact B3.found (by omega)
    generalize hn : numVal tk.text = n at *
    refine ⟨fun σ' H' => σ' = [some (.ref p), some (.ref a2), some (.int n), none, none, none, none, none, none] ∧ PA K H0 H' p L tas Ts q3, ?_, ?_⟩
    · refine ⟨_, rfl, _, _, rfl, rfl, _, rfl, ?_⟩
      have bad : ¬ (1 ≤ n ∧ n ≤ 16) → tDrop (tMeth (He.ga K "Parser") "found" (spFound K) [] E0 (tVar 0) (tCons (tC (.str "corridor")) (tCons (tVar 1) tNil))) { nx := fun σ' H' => σ' = [some (.ref p), some (.ref a2), some (.int n), none, none, none, none, none, none] ∧ PA K H0 H' p L tas Ts q3, rt := Q } [some (.ref p), some (.ref a2), some (.int n), none, none, none, none, none, none] H3 := fun hb => by
        refine ⟨_, rfl, p, dx3, _, rfl, ob3, lp_no_found, _, rfl, H0, p, L, tas, Ts, s3, wCorridor, a2, tk, by rw [e_corridor]; rfl, hP3, hta2, by omega, fun H4 hP4 => ⟨rfl, ?_⟩⟩
        rw [← hq, if_neg hb]
        exact hP4
      refine ite2 (fun h4 => ?_) (fun h4 => ?_)
      · have h4 := of_decide_eq_true h4
        refine ⟨_, _, rfl, rfl, _, rfl, ?_⟩
        refine ite2 (fun h5 => ?_) (fun h5 => ?_)
        · have h5 : ¬ ((n : Nat) : Int) ≤ 16 := fun z => by
            rw [decide_eq_true z] at h5
            exact absurd h5 (by decide)
          exact bad (by omega)
        · have h5 : ((n : Nat) : Int) ≤ 16 := Decidable.byContradiction fun z => h5 (by rw [decide_eq_false z]; rfl)
          refine ⟨rfl, ?_⟩
          rw [← hq, if_pos (by omega)]
          exact hP3
      · have h4 : ¬ (1 : Int) ≤ ((n : Nat) : Int) := fun z => h4 (decide_eq_true z)
        exact ⟨_, rfl, iteT (bad (by omega))⟩
    · rintro σ' H4 ⟨rfl, hP4⟩
      obtain ⟨dx4, ob4⟩ := hP4.ob
      refine ⟨_, rfl, p, dx4, _, rfl, ob4, lp_no_parse_names, _, rfl, p, _, dx4, _, _, rfl, ob4, T.p.par.c, T.p.par.n _ (by simp), lp_signs, H0, p, L, tas, Ts, q3, false, by rw [e_signs]; rfl, hP4, hG, Bq, ⟨fun u s4 h4 v H5 hv hP5 => ?_, fun l c he => her l c (by simp only [parsePlan, h1, h2, h3, hn, hq, he])⟩⟩
      clear hv
      have B4 := bd_names hG Bq h4
      obtain ⟨dx5, ob5⟩ := hP5.ob
      refine ⟨_, rfl, p, dx5, _, rfl, ob5, lp_no_parse_names, _, rfl, p, _, dx5, _, _, rfl, ob5, T.p.par.c, T.p.par.n _ (by simp), lp_moods, H0, p, L, tas, Ts, s4, true, by rw [e_moods]; rfl, hP5, hG, B4, ⟨fun u5 s5 h5 v H6 hv hP6 => ?_, fun l c he => her l c (by simp only [parsePlan, h1, h2, h3, hn, hq, h4, he])⟩⟩
      clear hv
      have B5 := bd_names hG B4 h5
      obtain ⟨dx6, ob6⟩ := hP6.ob
      refine ⟨_, rfl, p, dx6, _, rfl, ob6, lp_no_parse_robot, _, rfl, H0, p, L, tas, Ts, s5, n, rfl, hP6, hG, B5, ⟨fun u6 s6 h6 v H7 hv hP7 => ?_, fun l c he => her l c (by simp only [parsePlan, h1, h2, h3, hn, hq, h4, h5, he])⟩⟩
      clear hv
      have B6 := (bd_robot hG B5 h6).1
      have hpre : ∀ r, parseStmts Ts n Ts.length s6 = r → parsePlan Ts = (match r with | .error e => .error e | .ok (_, s7) => .ok (n, s7)) := by
        intro r hr
        simp only [parsePlan, h1, h2, h3, hn, hq, h4, h5, h6, hr]
        all_goals (rcases r with _ | ⟨_, _⟩ <;> rfl)
      refine ⟨fun m σ H => ∃ (f : Nat) (s : PSt), m + s.at_ = Ts.length ∧ σ = [some (.ref p), some (.ref a2), some (.int n), none, none, none, none, none, none] ∧ PA K H0 H p L tas Ts s ∧ Bd Ts s ∧ Ts.length ≤ f + s.at_ ∧
        parseStmts Ts n Ts.length s6 = parseStmts Ts n f s, ⟨Ts.length - s6.at_, Ts.length, s6, Nat.sub_add_cancel (Nat.le_of_lt B6.at_), rfl, hP7, B6, Nat.le_add_right _ _, rfl⟩, ?_⟩
      rintro m σ H8 ⟨f, s8, hm, rfl, hP8, B8, hf, hst⟩
      have B8a := B8.at_
      obtain ⟨f', rfl⟩ : ∃ f', f = f' + 1 := ⟨f - 1, by omega⟩
      obtain ⟨dx8, ob8⟩ := hP8.ob
      refine ⟨_, rfl, p, dx8, _, rfl, ob8, lp_no_peek, H0, p, L, tas, Ts, s8, rfl, hP8, B8.at_, fun a8 hta8 => ?_⟩
      obtain ⟨dt8, ht8⟩ := hP8.get hta8
      refine ⟨a8, _, dt8, _, _, rfl, ht8, T.p.l.tok.c, T.p.l.tok.n _ (by simp), lk_kind, rfl, _, rfl, ?_⟩
      refine ite2 (fun h => ?_) (fun h => ?_)
      · have hk : (peek Ts s8).kind ≠ .fin := fun z => by
          rw [decide_eq_true (by rw [z]; rfl)] at h
          exact absurd h (by decide)
        have hstep : ∀ r, parseStmt Ts n s8 = r → parseStmts Ts n (f' + 1) s8 = (match r with | .error e => .error e | .ok (_, s1) => parseStmts Ts n f' s1) := by
          intro r hr
          simp only [parseStmts, if_neg hk, hr]
          all_goals (rcases r with _ | ⟨_, _⟩ <;> rfl)
        refine ⟨_, fun _ _ nn => nn, ?_⟩
        refine ⟨_, rfl, p, dx8, _, rfl, ob8, lp_no_peek, H0, p, L, tas, Ts, s8, rfl, hP8, B8.at_, fun a9 hta9 => ?_⟩
        obtain ⟨dt9, ht9⟩ := hP8.get hta9
        refine ⟨a9, _, dt9, _, _, rfl, ht9, T.p.l.tok.c, T.p.l.tok.n _ (by simp), lk_text, ?_⟩
        have goon : ∀ (s9 : PSt) (H9 : Hp), parseStmt Ts n s8 = .ok ((), s9) → PA K H0 H9 p L tas Ts s9 → ∃ m', m' < m ∧ ∃ (f : Nat) (s : PSt), m' + s.at_ = Ts.length ∧ [some (V.ref p), some (.ref a2), some (.int n), none, none, none, none, none, none] = [some (.ref p), some (.ref a2), some (.int n), none, none, none, none, none, none] ∧ PA K H0 H9 p L tas Ts s ∧ Bd Ts s ∧ Ts.length ≤ f + s.at_ ∧
            parseStmts Ts n Ts.length s6 = parseStmts Ts n f s := fun s9 H9 h9 hP9 => by
          obtain ⟨B9, lt9⟩ := bd_stmt hG B8 h9
          have B9a := B9.at_
          exact ⟨Ts.length - s9.at_, by omega, f', s9, by omega, rfl, hP9, B9, by omega, by rw [hst, hstep _ h9]⟩
        have goer : ∀ l c, parseStmt Ts n s8 = .error (l, c) → Syn K H0 E l c := fun l c he => her l c (by rw [hpre _ (hst.trans (hstep _ he))])
        refine ⟨_, rfl, fun z => ?_, fun z => ?_⟩
        · have z : (peek Ts s8).text = wRobot := sx_inj (by rw [← e_robot]; exact z)
          have hs : parseStmt Ts n s8 = parseRobot Ts n s8 := by simp only [parseStmt, if_pos z]
          refine ⟨_, rfl, p, dx8, _, rfl, ob8, lp_no_parse_robot, _, rfl, H0, p, L, tas, Ts, s8, n, rfl, hP8, hG, B8, ⟨fun u s9 h9 v H9 hv hP9 => goon s9 H9 (by rw [hs]; exact h9) hP9, fun l c he => goer l c (by rw [hs]; exact he)⟩⟩
        · have z1 : ¬ (peek Ts s8).text = wRobot := fun y => z (by rw [y, e_robot])
          refine ⟨_, rfl, fun z => ?_, fun z => ?_⟩
          · have z : (peek Ts s8).text = wPut := sx_inj (by rw [← e_put]; exact z)
            have hs : parseStmt Ts n s8 = parsePut Ts n s8 := by simp only [parseStmt, if_neg z1, if_pos z]
            refine ⟨_, rfl, p, dx8, _, rfl, ob8, lp_no_parse_put, _, rfl, H0, p, L, tas, Ts, s8, n, rfl, hP8, hG, B8, ⟨fun u s9 h9 v H9 hv hP9 => goon s9 H9 (by rw [hs]; exact h9) hP9, fun l c he => goer l c (by rw [hs]; exact he)⟩⟩
          · have z2 : ¬ (peek Ts s8).text = wPut := fun y => z (by rw [y, e_put])
            refine ⟨_, rfl, fun z => ?_, fun z => ?_⟩
            · have z : (peek Ts s8).text = wWhen := sx_inj (by rw [← e_when]; exact z)
              have hs : parseStmt Ts n s8 = parseRule Ts s8 := by simp only [parseStmt, if_neg z1, if_neg z2, if_pos z]
              refine ⟨_, rfl, p, dx8, _, rfl, ob8, lp_no_parse_rule, H0, p, L, tas, Ts, s8, rfl, hP8, hG, B8, ⟨fun u s9 h9 v H9 hv hP9 => goon s9 H9 (by rw [hs]; exact h9) hP9, fun l c he => goer l c (by rw [hs]; exact he)⟩⟩
            · have z3 : ¬ (peek Ts s8).text = wWhen := fun y => z (by rw [y, e_when])
              refine ⟨_, rfl, p, dx8, _, rfl, ob8, lp_no_fail, H0, p, L, tas, Ts, s8, rfl, hP8, B8.at_, goer _ _ ?_⟩
              simp only [parseStmt, if_neg z1, if_neg z2, if_neg z3]
      · have hk : (peek Ts s8).kind = .fin := Decidable.byContradiction fun z => h (by
          show (!decide (V.str (peek Ts s8).kind.str = V.str Kd.fin.str)) = true
          rw [decide_eq_false fun y => z (kd_inj (b := .fin) (V.str.inj y))]
          rfl)
        have hres : parsePlan Ts = .ok (n, s8) := by
          rw [hpre (.ok ((), s8)) (by rw [hst]; simp only [parseStmts, if_pos hk])]
        obtain ⟨hno, hQ⟩ := hok n s8 hres
        obtain ⟨fas, hfa, hfas⟩ := hP8.fa
        rw [hno] at hfas
        have hfas : fas = [] := by
          have := hfas.len
          exact List.length_eq_zero_iff.mp this
        subst hfas
        refine ⟨_, rfl, p, _, dx8, _, _, rfl, ob8, T.p.par.c, T.p.par.n _ (by simp), lp_faults, (by show 0 ≤ sizeLine; decide), fun el nel => ?_⟩
        have smE := sameUpd (o := .lst []) (Same.refl H8) nel
        refine ⟨.list [], .list [], .lst (SqL.of (smE _ _ hfa)) .nil, .lst (SqL.of upd_same) .nil, rfl, rfl, _, rfl, ?_⟩
        refine iteF ?_
        have hP9 := hP8.mono smE
        generalize upd H8 el (.lst []) = H9 at *
        refine ⟨_, rfl, (n : Int), rfl, by omega, by omega, fun D nD => ?_⟩
        obtain ⟨dx9, ob9⟩ := hP9.ob
        refine lc_range (lo := 0) (n := ((n : Nat) : Int).toNat) (vs := [8]) (fun i H => H D = some (.lst (((List.range i).map fun j => (getA s8.spots j).getD 0).map fun m : Nat => V.int m)) ∧ Same H9 H) ⟨upd_same, sameUpd (Same.refl H9) nD⟩ ?_ ?_
        · rintro i H10 hi ⟨hD, sm10⟩
          have hP10 := hP9.mono sm10
          refine ⟨rfl, _, rfl, p, _, dx9, _, _, rfl, sm10 _ _ ob9, T.p.par.c, T.p.par.n _ (by simp), lp_spots, L.sd, rfl, .inl ⟨_, .inl hP10.sp⟩, _, rfl, _, DGet.k (k := Sum.inl ((0 : Int) + (i : Nat))) hP10.sp, _, hD, ?_, ?_, ?_⟩
          · rw [List.length_map, List.length_map, List.length_range, sizeLine_eq]
            omega
          · rw [upd_same, spots_get, List.range_succ, List.map_append, List.map_append]
            rfl
          · exact sameUpd sm10 nD
        · rintro H10 ⟨hD, sm10⟩
          rw [Int.toNat_natCast] at hD
          have hfl : ((List.range n).map fun j => (getA s8.spots j).getD 0) = (planOf n s8).floor := rfl
          rw [hfl] at hD
          refine ⟨D, _, rfl, .inl ⟨SqL.of hD, fun fa nfa => ?_⟩⟩
          have smf := sameUpd (o := .tup ((planOf n s8).floor.map fun m : Nat => V.int m)) (Same.refl H10) nfa
          have hP11 := hP9.mono (sm10.trans smf)
          have atf := @upd_same H10 fa (.tup ((planOf n s8).floor.map fun m : Nat => V.int m))
          generalize upd H10 fa (.tup ((planOf n s8).floor.map fun m : Nat => V.int m)) = H11 at *
          obtain ⟨dx11, ob11⟩ := hP11.ob
          refine ⟨_, rfl, p, _, dx11, _, _, rfl, ob11, T.p.par.c, T.p.par.n _ (by simp), lp_signs, L.sl, _, rfl, SqL.of hP11.si, fun sa osa nsa oc od => ?_⟩
          have sms := sameUpd (o := .frz osa (.tup (s8.signs.map sV))) (Same.refl H11) nsa
          have hP12 := hP11.mono sms
          have ats : TupN (upd H11 sa (.frz osa (.tup (s8.signs.map sV)))) sa (s8.signs.map sV) := ⟨osa, oc, od, upd_same⟩
          generalize upd H11 sa (.frz osa (.tup (s8.signs.map sV))) = H12 at *
          refine ⟨_, rfl, p, _, dx11, _, _, rfl, sms _ _ ob11, T.p.par.c, T.p.par.n _ (by simp), lp_moods, L.ml, _, rfl, SqL.of hP12.mo, fun ma oma nma mc md => ?_⟩
          have smm := sameUpd (o := .frz oma (.tup (s8.moods.map sV))) (Same.refl H12) nma
          have hP13 := hP12.mono smm
          have atm : TupN (upd H12 ma (.frz oma (.tup (s8.moods.map sV)))) ma (s8.moods.map sV) := ⟨oma, mc, md, upd_same⟩
          generalize upd H12 ma (.frz oma (.tup (s8.moods.map sV))) = H13 at *
          obtain ⟨ras, hra, hras⟩ := hP13.ro
          refine ⟨_, rfl, _, rfl, p, _, dx11, _, _, rfl, smm _ _ (sms _ _ ob11), T.p.par.c, T.p.par.n _ (by simp), lp_robots, L.rl, _, rfl, .inl ⟨SqL.of hra, fun ra nra => ?_⟩⟩
          have smr := sameUpd (o := .tup (ras.map V.ref)) (Same.refl H13) nra
          have hP14 := hP13.mono smr
          have atr := @upd_same H13 ra (.tup (ras.map V.ref))
          generalize upd H13 ra (.tup (ras.map V.ref)) = H14 at *
          refine ⟨_, rfl, p, _, dx11, _, _, rfl, smr _ _ (smm _ _ (sms _ _ ob11)), T.p.par.c, T.p.par.n _ (by simp), lp_rules, ?_⟩
          intro x dx0 nx ndx ne0
          refine init_at (names := planF) rfl nx ndx fun H15 sm15 hx => ⟨rfl, ?_⟩
          obtain ⟨dp, hdp⟩ := hx
          have hP15 := hP14.mono sm15
          refine hQ x H15 (hP14.same.free nx) hP15.same ⟨dp, sa, ma, fa, ra, L.rd, ras, hdp, ats.mono fun _ z => sm15 _ _ (smr _ _ (smm _ _ z)), atm.mono fun _ z => sm15 _ _ (smr _ _ z), sm15 _ _ (smr _ _ (smm _ _ (sms _ _ atf))), sm15 _ _ atr, ?_, hP15.ru⟩
          exact Paired.mapP hras fun a r q => sm15 _ _ (smr _ _ q)
end
end Sw

end

section
set_option maxRecDepth 100000
set_option maxHeartbeats 4000000
/-! load -/
namespace Sw
open PySem PySem.Spec PyProof.Rows L2 SwA
section
variable {P : Program} {w : World} {K : PySem.W.Frag} {mg : Str → Option Value} {base : Heap}
def spLoad (K : PySem.W.Frag) : Sp := fun vs H Q E => ∃ text : Cs, vs = [.str (sx text)] ∧ text.length ≤ 90000 ∧
  (∀ n s, loads text = .ok (n, s) → s.faults = [] ∧ ∀ (a : Addr) (H' : Hp), H a = none → Same H H' → PlanAt K H' a (planOf n s) → Q (.ref a) H') ∧ (∀ l c, loads text = .error (l, c) → Syn K H E l c)
theorem sc_load : FnScope ["plan"] ["plan"] (defScope s_load) := ⟨rfl, rfl, rfl, by decide +kernel, rfl, by decide +kernel, by decide +kernel⟩
theorem ok_load (T : LoadT K mg) : FnE P w K mg base (L2.CX P w) 8 ("load", none) ["plan"] (spLoad K) := by
  obtain ⟨fd, F⟩ := T.d_load
  obtain ⟨fdT, GT, bT, kT⟩ := ok_tokenize (P := P) (w := w) (base := base) T.p.l
  obtain ⟨fdI, GI, bI, kI⟩ := ok_par_init (P := P) (w := w) (base := base) T.p
  obtain ⟨fdP, GP, bP, kP⟩ := ok_parse_plan (P := P) (w := w) (base := base) T
  refine ⟨fd, F.ok sc_load (fun vs H Q E h => ?_) (fun cdv A outer s H vs Q E hr h => ?_), F.bindsN fun _ _ _ _ _ _ us hl => match us, hl with | [_], _ => rfl, F.kp⟩
  · obtain ⟨text, rfl, _⟩ := h
    rfl
  · obtain ⟨text, rfl, hl, hok, her⟩ := h
    have hr2 : Room 2 _ := hr.mono (by decide)
    have hr4 : Room 4 _ := hr.mono (by decide)
    refine ⟨_, (pss_one (ps_ret (pe_meth0 (pe_make T.p.par.m GI hr2 rfl T.p.par.g bI .nil pass0 (pa_cons (pe_call GT hr4 rfl T.p.l.g_tokenize kT bT .nil (passes_call (takes_of rfl rfl rfl rfl) (fun _ _ _ _ h => h)) (pa_cons (pv 0) pa_nil)) pa_nil))
      T.p.par.c T.p.parse_plan.m GP hr bP .nil (passes_call (takes_of rfl rfl rfl rfl) (fun _ _ _ _ h => h))))), ?_⟩
    refine ⟨_, rfl, text, rfl, hl, fun ts ht a tas H1 na sm ha htk => ?_, fun l c he => her l c (by simp only [loads, he])⟩
    have hG := tokenize_good hl ht
    intro x dx nx ndx ne
    have xa : a ≠ x := ne_of_none ha nx
    have xd : a ≠ dx := ne_of_none ha ndx
    have s1 : Same H1 (upd (upd H1 dx (.own x)) x (.ins (He.ga K "Parser") dx [])) := sameUpd (sameUpd (Same.refl H1) ndx) nx
    refine ⟨H, x, dx, a, tas, ts, rfl, upd_same, s1 _ _ ha, htk.same s1, sm.trans s1, sm.free nx, na, fun L H2 hPA => ⟨rfl, ?_⟩⟩
    obtain ⟨dx2, ob2⟩ := hPA.ob
    have el : loads text = parsePlan ts := by simp only [loads, ht]
    refine ⟨x, dx2, _, rfl, ob2, lp_no_parse_plan, H, x, L, tas, ts, rfl, hPA, hG, fun n s h => hok n s (by rw [el]; exact h), fun l c h => her l c (by rw [el]; exact h)⟩
end
end Sw

end

section
set_option maxRecDepth 100000
set_option maxHeartbeats 4000000
/-! the mirror of the machine -/
namespace Sw
open PySem
def wRest : Cs := [114, 101, 115, 116]
abbrev Rob := Nat × Bool × Nat
structure MSt where
  floor : List Nat
  robots : List Rob
  deriving DecidableEq
def movedM (tile : Nat) (right : Bool) (tiles : Nat) : Nat × Bool :=
  if right = true then (if tile + 1 < tiles then (tile + 1, true) else (tile, false)) else (if 0 < tile then (tile - 1, false) else (tile, true))
def goM (move : Cs) (tile : Nat) (right : Bool) (tiles : Nat) : Nat × Bool := if move = wOn then movedM tile right tiles else if move = wBack then movedM tile (!right) tiles else (tile, right)
def actM (rules : List ((Nat × Nat) × Rule)) (st : MSt) (k : Nat) : Cs × MSt := match st.robots[k]? with
  | none => (wRest, st)
  | some (tile, right, mood) => match getA rules (mood, st.floor.getD tile 0) with
    | none => (wRest, st)
    | some r => (r.move, ⟨st.floor.set tile r.left, st.robots.set k ((goM r.move tile right st.floor.length).1, (goM r.move tile right st.floor.length).2, r.later)⟩)
/-- the first k robots have acted -/
def actsM (rules : List ((Nat × Nat) × Rule)) (st : MSt) : Nat → List Cs × MSt
  | 0 => ([], st)
  | k + 1 => ((actsM rules st k).1 ++ [(actM rules (actsM rules st k).2 k).1], (actM rules (actsM rules st k).2 k).2)
structure TickM where
  swept : List Nat
  words : List Cs
  state : MSt
def nextM (rules : List ((Nat × Nat) × Rule)) (st : MSt) : TickM := ⟨st.robots.map (·.1), (actsM rules st st.robots.length).1, (actsM rules st st.robots.length).2⟩
def firstM (pl : Plan) : MSt := ⟨pl.floor, pl.robots.map fun r => (r.1, r.2, 0)⟩
/-- a state of n tiles and m robots -/
structure WfM (n m : Nat) (st : MSt) : Prop where
  fl : st.floor.length = n
  ro : st.robots.length = m
  ti : ∀ r ∈ st.robots, r.1 < n
theorem movedM_lt {tile : Nat} {right : Bool} {tiles : Nat} (h : tile < tiles) : (movedM tile right tiles).1 < tiles := by
  unfold movedM
  split
  · split <;> (simp only; omega)
  · split <;> (simp only; omega)
theorem goM_lt {move : Cs} {tile : Nat} {right : Bool} {tiles : Nat} (h : tile < tiles) : (goM move tile right tiles).1 < tiles := by
  unfold goM
  split
  · exact movedM_lt h
  · split
    · exact movedM_lt h
    · exact h
theorem WfM.act {n m : Nat} {rules : List ((Nat × Nat) × Rule)} {st : MSt} {k : Nat} (h : WfM n m st) : WfM n m (actM rules st k).2 := by
  unfold actM
  split
  · exact h
  · rename_i tile right mood e
    split
    · exact h
    · rename_i r hr
      have ht : tile < n := h.ti _ (List.mem_of_getElem? e)
      refine ⟨by simpa using h.fl, by simpa using h.ro, fun q hq => ?_⟩
      rcases List.mem_or_eq_of_mem_set hq with z | z
      · exact h.ti _ z
      · rw [z, h.fl]
        exact goM_lt ht
theorem WfM.acts {n m : Nat} {rules : List ((Nat × Nat) × Rule)} {st : MSt} (h : WfM n m st) : ∀ k, WfM n m (actsM rules st k).2
  | 0 => h
  | k + 1 => (h.acts k).act
theorem WfM.next {n m : Nat} {rules : List ((Nat × Nat) × Rule)} {st : MSt} (h : WfM n m st) : WfM n m (nextM rules st).state := h.acts _
theorem acts_len (rules : List ((Nat × Nat) × Rule)) (st : MSt) : ∀ k, (actsM rules st k).1.length = k
  | 0 => rfl
  | k + 1 => by
    show ((actsM rules st k).1 ++ [_]).length = k + 1
    simp [acts_len rules st k]
end Sw

end

section
set_option maxRecDepth 100000
set_option maxHeartbeats 4000000
/-! is_int_in -/
namespace Sw
open PySem PySem.Spec PyProof.Rows L2 SwA
/-- a def of the module -/
structure DeT (K : PySem.W.Frag) (mg : Str → Option Value) (x : Str) (st : Stmt) : Prop where
  d : FD K (x, none) x x st
  g : mg x = some (.ref (He.ga K x))
inductive ArN (K : PySem.W.Frag) (H : Hp) : V → String → Prop
  | int (i : Int) : ArN K H (.int i) "int"
  | bl (b : Bool) : ArN K H (.bl b) "bool"
  | non : ArN K H .non "NoneType"
  | str (z : Str) : ArN K H (.str z) "str"
  | tup {a : Addr} {xs : List V} (e : H a = some (.tup xs)) : ArN K H (.ref a) "tuple"
  | lst {a : Addr} {xs : List V} (e : H a = some (.lst xs)) : ArN K H (.ref a) "list"
theorem ArN.ty {K : PySem.W.Frag} {H : Hp} {v : V} {n : String} (h : ArN K H v n) : TyX K H v (.type n) := by
  cases h with
  | int i => exact .base (.int i)
  | bl b => exact .base (.bl b)
  | non => exact .base .non
  | str z => exact .base (.str z)
  | tup e => exact .base (.tup e)
  | lst e => exact .base (.lst e)
theorem ArN.same {K : PySem.W.Frag} {H H' : Hp} {v : V} {n : String} (h : ArN K H v n) (s : Same H H') : ArN K H' v n := by
  cases h with
  | int i => exact .int i
  | bl b => exact .bl b
  | non => exact .non
  | str z => exact .str z
  | tup e => exact .tup (s _ _ e)
  | lst e => exact .lst (s _ _ e)
def isIntIn (v : V) (lo hi : Int) : Bool := match v with
  | .int i => decide (lo ≤ i) && decide (i ≤ hi)
  | _ => false
end Sw

end

section
set_option maxRecDepth 100000
set_option maxHeartbeats 4000000
/-! utilities -/
namespace Sw
open PySem PySem.Spec PyProof.Rows L2 SwA
abbrev iV (n : Nat) : V := .int n
abbrev plFs (a b c d e : V) : List (Str × V) := [("signs", a), ("moods", b), ("floor", c), ("robots", d), ("rules", e)]
theorem lpl_signs {a b c d e : V} : List.lookup ("signs" : Str) (plFs a b c d e) = some a := by kernel_rfl
theorem lpl_moods {a b c d e : V} : List.lookup ("moods" : Str) (plFs a b c d e) = some b := by kernel_rfl
theorem lpl_floor {a b c d e : V} : List.lookup ("floor" : Str) (plFs a b c d e) = some c := by kernel_rfl
theorem lpl_robots {a b c d e : V} : List.lookup ("robots" : Str) (plFs a b c d e) = some d := by kernel_rfl
theorem lpl_rules {a b c d e : V} : List.lookup ("rules" : Str) (plFs a b c d e) = some e := by kernel_rfl
theorem walk_enumT {K : PySem.W.Frag} {a : Addr} {xs : List V} : Walk (ItET K a) xs.length (fun H => SqT K H a xs) (YPair (fun i => some (.int (i : Nat))) (fun i => xs[i]?)) := by
  refine ⟨fun i _ hi q => ⟨xs, xs[i], q, by simp [hi]⟩, fun _ q => ⟨xs, q, rfl⟩, fun i H v H' _ q y => ?_⟩
  obtain ⟨T, x, h1, h2, h3, h4⟩ := y
  exact ⟨T, .int (i : Nat), x, h1, h2, h3, rfl, h4 xs q⟩
/-! ### the rules asked -/
theorem rules_get {H : Hp} {k : Nat × Nat} : ∀ {rs : List ((Nat × Nat) × Rule)} {kvs : List (List Key × V)}, Paired (RuleAt H) rs kvs →
    (getA rs k = none → valV kvs (keyT k) = none) ∧ (∀ r, getA rs k = some r → ∃ t, valV kvs (keyT k) = some (.ref t) ∧ H t = some (.tup [.int r.left, sV r.move, .int r.later]))
  | _, _, .nil => ⟨fun _ => rfl, fun r h => by cases h⟩
  | _, _, .cons (a := r0) (b := kv) (l₁ := l) (l₂ := m) h t => by
    have ih := rules_get (k := k) t
    by_cases e : r0.1 = k
    · have e1 : getA (r0 :: l) k = some r0.2 := by unfold getA; rw [List.find?_cons, decide_eq_true e]; rfl
      have e2 : valV (kv :: m) (keyT k) = some kv.2 := valV_pos (by rw [h.1, e])
      refine ⟨(fun z => by rw [e1] at z; cases z), fun r z => ?_⟩
      rw [e1] at z
      cases z
      obtain ⟨_, tt, h2, h3⟩ := h
      exact ⟨tt, by rw [e2, h2], h3⟩
    · have e1 : getA (r0 :: l) k = getA l k := by unfold getA; rw [List.find?_cons, decide_eq_false e]
      have e2 : valV (kv :: m) (keyT k) = valV m (keyT k) := valV_neg (by rw [h.1]; exact fun q => e (keyT_inj.mp q))
      rw [e1, e2]
      exact ih
section
variable {K : PySem.W.Frag} {H H' : Hp}
def cutH (H : Hp) (l : List Addr) : Hp := fun a => if a ∈ l then none else H a
theorem cutH_same {l : List Addr} : Same (cutH H l) H := fun a o e => by
  unfold cutH at e
  split at e
  · cases e
  · exact e
theorem cutH_in {l : List Addr} {a : Addr} (h : a ∈ l) : cutH H l a = none := by
  unfold cutH
  rw [if_pos h]
theorem cutH_out {l : List Addr} {a : Addr} (h : a ∉ l) : cutH H l a = H a := by
  unfold cutH
  rw [if_neg h]
end
end Sw

end

section
set_option maxRecDepth 100000
set_option maxHeartbeats 4000000
/-! the law's own: draws -/
namespace Sw
open PySem PySem.Spec PyProof.Rows L2 SwA
/-- the source of numbers -/
def drawL (s c : Int) (bs : List Int) : HO := .lst (.int s :: .int c :: bs.map V.int)
def DrawAt (H : Hp) (d : Addr) : Prop := ∃ (s c : Int) (bs : List Int), bs.length ≤ 63 ∧ H d = some (drawL s c bs)
/-- all but d stands, d is drawn from -/
structure Drawn (d : Addr) (H H' : Hp) : Prop where
  same : ∀ b o, b ≠ d → H b = some o → H' b = some o
  at_ : DrawAt H' d
theorem Drawn.trans {d : Addr} {H H1 H2 : Hp} (a : Drawn d H H1) (b : Drawn d H1 H2) : Drawn d H H2 := ⟨fun x o h e => b.same x o h (a.same x o h e), b.at_⟩
theorem Drawn.refl {d : Addr} {H : Hp} (h : DrawAt H d) : Drawn d H H := ⟨fun _ _ _ e => e, h⟩
theorem Drawn.of {d : Addr} {H H' : Hp} (h : DrawAt H d) (s : Same H H') : Drawn d H H' := ⟨fun _ _ _ e => s _ _ e, let ⟨a, b, c, l, e⟩ := h; ⟨a, b, c, l, s _ _ e⟩⟩
theorem Drawn.new {d : Addr} {H H' : Hp} {x : Addr} {o : HO} (h : Drawn d H H') (hx : H' x = none) : Drawn d H (upd H' x o) :=
  h.trans (Drawn.of h.at_ (sameUpd (Same.refl _) hx))
theorem Drawn.free {d : Addr} {H H' : Hp} {a : Addr} (h : Drawn d H H') (h0 : ∃ o, H d = some o) (n : H' a = none) : H a = none := by
  cases e : H a with
  | none => rfl
  | some o =>
    by_cases z : a = d
    · obtain ⟨s, c, bs, _, q⟩ := h.at_
      rw [z, q] at n
      cases n
    · rw [h.same a o z e] at n
      cases n
structure LawT (K : PySem.W.Frag) (mg : Str → Option Value) : Prop where
  len : mg "len" = none
  abs : mg "abs" = none
  list : mg "list" = none
  tuple : mg "tuple" = none
  range : mg "range" = none
  random : DeT K mg "_law_random" s__law_random
  below : DeT K mg "_law_below" s__law_below
theorem at1 {x y : V} {xs : List V} : atI (x :: y :: xs) 1 = some y := atI_nat (j := 1) rfl
theorem atz {x : V} {xs : List V} : atI (x :: xs) 0 = some x := atI_nat (j := 0) rfl
theorem ixN1 {x y : V} {xs : List V} : ixN (x :: y :: xs).length 1 = some 1 := by
  unfold ixN
  rw [if_pos (by decide), if_pos (by simp; omega)]
  rfl
theorem ixN0 {x : V} {xs : List V} : ixN (x :: xs).length 0 = some 0 := by
  unfold ixN
  rw [if_pos (by decide), if_pos (by simp only [List.length_cons]; omega)]
  rfl
theorem sIx2 {x y z : V} {xs : List V} : seqIndex? 2 (x :: y :: z :: xs).length = some 2 := by
  have h : ixN (x :: y :: z :: xs).length 2 = some 2 := by
    unfold ixN
    rw [if_pos (by decide), if_pos (by simp; omega)]
    rfl
  exact (ixN_seq h).1
section
variable {P : Program} {w : World} {K : PySem.W.Frag} {mg : Str → Option Value} {base : Heap}
/-! ### _law_below -/
def spBelow : Sp := fun vs H Q _ => ∃ (d : Addr) (n : Nat), vs = [.ref d, .int n] ∧ DrawAt H d ∧ 1 ≤ n ∧ n < 10000000 ∧ ∀ (r : Nat) (s c : Int) (bs : List Int), r < n → bs.length ≤ 63 → Q (.int r) (upd H d (drawL s c bs))
abbrev beN : List Str := ["_law_d", "_law_limit", "_law_result"]
theorem sc_below : FnScope beN ["_law_d", "_law_limit"] (defScope s__law_below) := ⟨rfl, rfl, rfl, by decide +kernel, rfl, by decide +kernel, by decide +kernel⟩
theorem modNat (i : Int) {n : Nat} (h : 1 ≤ n) : ∃ r : Nat, r < n ∧ i % (n : Int) = r := by
  have h1 := Int.emod_nonneg i (show (n : Int) ≠ 0 by omega)
  have h2 := Int.emod_lt_of_pos i (show (0 : Int) < n by omega)
  exact ⟨(i % (n : Int)).toNat, by omega, by omega⟩
theorem ok_below (T : LawT K mg) : FnE P w K mg base CX0 1 ("_law_below", none) ["_law_d", "_law_limit"] spBelow := by
  obtain ⟨fd, F⟩ := T.below.d
  refine ⟨fd, F.ok sc_below (fun vs H Q E h => ?_) (fun cdv A outer s H vs Q E hr h => ?_), F.bindsN fun _ _ _ _ _ _ us hl => match us, hl with | [_, _], _ => rfl, F.kp⟩
  · obtain ⟨d, n, rfl, _⟩ := h
    rfl
  · obtain ⟨d, n, rfl, ⟨sd, cu, bs, hb, hd⟩, h1, h2, k⟩ := h
    refine ⟨_, PSs.nox (C8.pss_cut (ps_if (PW.pt (pw_and (pt_cmpR op_eq (pe_ix ix_list (pv 0) pe_int (fun _ _ => rfl)) pe_int (nomark _)) (pw_and1 (pt_cmpR op_gt (pe_callB call_len_seq (by rfl) T.len boot_len (pa_cons (pv 0) pa_nil)) pe_int (nomark _)))))
        (pss_one (ps_asg (pe_bm PySem.F.plainAttrs_list PySem.F.slot_list_pop PySem.F.type_list_pop mt_popAt (pv 0) (pa_cons pe_int pa_nil)) (pg_sub (pv 0) pe_int set_list (fun _ => rfl)))) pss_nil)
      (pss_cons (ps_if (pt_cmpR op_gt (pe_ix ix_list (pv 0) pe_int (fun _ _ => rfl)) pe_int (nomark _))
        (pss_cons (ps_set (i := 2) sc_below.nd rfl (.inl rfl) (pe_op op_mod (pe_ix ix_list (pv 0) pe_int (fun _ _ => rfl)) (pv 1)))
        (pss_cons (ps_asg (pe_op op_fdiv (pe_ix ix_list (pv 0) pe_int (fun _ _ => rfl)) (pv 1)) (pg_sub (pv 0) pe_int set_list (fun _ => rfl)))
        (pss_one (ps_ret (pv 2))))) pss_nil)
      (pss_cons (ps_asg (pe_op op_mod (pe_op op_add (pe_op op_mul (pe_ix ix_list (pv 0) pe_int (fun _ _ => rfl)) pe_int) pe_int) pe_int) (pg_sub (pv 0) pe_int set_list (fun _ => rfl)))
      (pss_one (ps_ret (pe_op op_mod (pe_op op_fdiv (pe_ix ix_list (pv 0) pe_int (fun _ _ => rfl)) pe_int) (pv 1))))))), ?_⟩
    have hself : H = upd H d (drawL sd cu bs) := by
      funext b
      by_cases e : b = d
      · rw [e, upd_same, hd]
      · rw [upd_ne e]
    refine ⟨fun σ' H' => σ' = [some (.ref d), some (.int n), none] ∧ ∃ (s c : Int) (bs : List Int), bs.length ≤ 63 ∧ H' = upd H d (drawL s c bs), ?_, ?_⟩
    · refine ⟨_, rfl, d, _, _, _, rfl, rfl, SqL.of hd, at1, rfl, _, rfl, ?_⟩
      refine ite2 (fun h => ?_) (fun h => ?_)
      · refine ⟨_, rfl, d, _, rfl, .inl (SqL.of hd), _, _, rfl, rfl, _, rfl, ?_⟩
        refine ite2 (fun h3 => ?_) (fun h3 => ?_)
        · cases bs with
          | nil => exact absurd (of_decide_eq_true h3) (by simp)
          | cons b bs =>
            refine ⟨_, rfl, .inl ⟨rfl, _, SqL.of hd⟩, d, _, 2, 2, .int b, rfl, rfl, hd, by decide, by decide, ?_, rfl, ?_⟩
            · exact sIx2
            · refine ⟨_, rfl, d, _, _, 1, rfl, rfl, upd_same, ?_, ?_⟩
              · exact ixN1
              · refine ⟨rfl, sd, b, bs, by simp at hb; omega, ?_⟩
                rw [upd_upd]
                rfl
        · exact ⟨rfl, sd, cu, bs, hb, hself⟩
      · exact ⟨rfl, sd, cu, bs, hb, hself⟩
    · rintro σ' H' ⟨rfl, s2, c2, bs2, hb2, rfl⟩
      have hd2 : (upd H d (drawL s2 c2 bs2)) d = some (.lst (.int s2 :: .int c2 :: bs2.map V.int)) := upd_same
      refine ⟨_, rfl, d, _, _, _, rfl, rfl, SqL.of hd2, at1, _, _, rfl, rfl, _, rfl, ?_⟩
      refine ite2 (fun h => ?_) (fun h => ?_)
      · obtain ⟨r, hr1, hr2⟩ := modNat c2 h1
        refine ⟨_, rfl, d, _, _, _, rfl, rfl, SqL.of hd2, at1, _, rfl, _, _, rfl, rfl, by omega, ?_⟩
        replace k := k r s2 (c2 / n) bs2 hr1 hb2
        rw [← hr2] at k
        refine ⟨_, rfl, d, _, _, _, rfl, rfl, SqL.of hd2, at1, _, rfl, _, _, rfl, rfl, ⟨by omega, by omega⟩, ?_⟩
        refine ⟨_, rfl, d, _, _, 1, rfl, rfl, hd2, ?_, ?_⟩
        · exact ixN1
        · refine ⟨_, rfl, ?_⟩
          rw [upd_upd]
          exact k
      · refine ⟨_, rfl, d, _, _, _, rfl, rfl, SqL.of hd2, atz, _, _, rfl, rfl, .inr (by decide), _, _, rfl, rfl, _, _, rfl, rfl, (by show (0 : Int) < 2147483647; decide), ?_⟩
        refine ⟨_, rfl, d, _, _, 0, rfl, rfl, hd2, ?_, ?_⟩
        · exact ixN0
        · rw [upd_upd]
          refine ⟨_, rfl, d, _, _, _, rfl, rfl, SqL.of upd_same, atz, _, _, rfl, rfl, ⟨by decide, by decide⟩, _, rfl, _, _, rfl, rfl, by omega, ?_⟩
          obtain ⟨r, hr1, hr2⟩ := modNat ((s2 * 48271 + 11) % 2147483647 / 64) h1
          replace k := k r ((s2 * 48271 + 11) % 2147483647) c2 bs2 hr1 hb2
          rw [← hr2] at k
          exact k
/-! ### _law_random -/
def spRandom (K : PySem.W.Frag) : Sp := fun vs H Q _ => ∃ (sc : Addr) (salt : Int) (ns : List Int), vs = [.ref sc, .int salt] ∧ SqL K H sc (ns.map V.int) ∧ ns.length ≤ 63 ∧
  ∀ (d : Addr) (H' : Hp), H d = none → Same H H' → DrawAt H' d → Q (.ref d) H'
abbrev raN : List Str := ["_law_script", "_law_salt", "_law_seed", "_law_cell"]
theorem sc_random : FnScope raN ["_law_script", "_law_salt"] (defScope s__law_random) := ⟨rfl, rfl, rfl, by decide +kernel, rfl, by decide +kernel, by decide +kernel⟩
theorem sqL_same {H H' : Hp} (s : Same H H') {a : Addr} {xs : List V} (h : SqL K H a xs) : SqL K H' a xs := h.elim (fun q => .inl (q.elim (fun z => .inl (s _ _ z)) fun ⟨o, z⟩ => .inr ⟨o, s _ _ z⟩)) .inr
theorem ok_random (T : LawT K mg) : FnE P w K mg base CX0 1 ("_law_random", none) ["_law_script", "_law_salt"] (spRandom K) := by
  obtain ⟨fd, F⟩ := T.random.d
  refine ⟨fd, F.ok sc_random (fun vs H Q E h => ?_) (fun cdv A outer s H vs Q E hr h => ?_), F.bindsN fun _ _ _ _ _ _ us hl => match us, hl with | [_, _], _ => rfl, F.kp⟩
  · obtain ⟨sc, salt, ns, rfl, _⟩ := h
    rfl
  · obtain ⟨sc, salt, ns, rfl, hs, hl, k⟩ := h
    refine ⟨_, PSs.nox (pss_cons (ps_set (i := 2) sc_random.nd rfl (.inl rfl) (pv 1))
      (pss_cons (ps_for PassesOwn.never rfl (pi_list (pv 0)) (pg_name (i := 3) sc_random.nd rfl (.inl rfl))
        (pss_one (ps_set (i := 2) sc_random.nd rfl (.inl rfl) (pe_op op_mod (pe_op op_add (pe_op op_mul (pv 2) pe_int) (pe_callB call_abs (by rfl) T.abs (by decide +kernel) (pa_cons (pv 3) pa_nil))) pe_int))))
      (pss_one (ps_ret (pe_op op_cat (pe_lst (pa_cons (pv 2) (pa_cons pe_int pa_nil)))
        (pe_lc (own := [("_law_cell", 3)]) (g := gName 3) (te := tVar 3) rfl sc_random.nd (pi_list (pv 0)) (blkOk_by (own := [("_law_cell", 3)]) (N := raN) (sc := defScope s__law_random) (by decide +kernel))
          (fun _ _ _ _ _ => pg_name (i := 3) sc_random.nd rfl (Or.inl rfl)) (fun _ _ _ _ _ => pts_one (pt_cmpR op_ge (pv 3) (pe_op op_pow pe_int pe_int) (nomark _))) (fun _ _ _ _ _ => pv 3))))))), ?_⟩
    refine ⟨_, rfl, ?_⟩
    refine ⟨_, rfl, sc, rfl, ⟨_, hs⟩, ?_⟩
    refine for_list (K := K) (a := sc) (xs := ns.map V.int) (fun i σ H2 => H2 = H ∧ ∃ (z : Int) (o : Option V), σ = [some (.ref sc), some (.int salt), some (.int z), o]) ⟨rfl, salt, none, rfl⟩ (fun i σ H2 _ h => by rw [h.1]; exact hs) ?_ ?_
    · rintro i x σ H2 hx ⟨rfl, z, o, rfl⟩
      rw [List.getElem?_map] at hx
      cases hn : ns[i]? with
      | none => rw [hn] at hx; cases hx
      | some m =>
        rw [hn] at hx
        cases hx
        exact ⟨_, rfl, _, _, rfl, rfl, .inr (by decide), _, rfl, _, rfl, _, _, rfl, rfl, _, _, rfl, rfl, (by show (0 : Int) < 2147483647; decide), rfl, _, _, rfl⟩
    · rintro σ H2 ⟨rfl, z, o, rfl⟩
      refine ⟨_, rfl, (by show 2 ≤ sizeLine; decide), fun l1 nl1 => ?_⟩
      have s1 := sameUpd (o := .lst [.int z, .int 0]) (Same.refl H2) nl1
      have hl1 := @upd_same H2 l1 (.lst [.int z, .int 0])
      generalize upd H2 l1 (.lst [.int z, .int 0]) = H3 at *
      refine ⟨_, rfl, sc, rfl, ⟨_, sqL_same s1 hs⟩, fun D nD => ?_⟩
      refine lc_list (K := K) (a := sc) (xs := ns.map V.int) (vs := [3]) (fun i H4 => ∃ bs : List Int, bs.length ≤ i ∧ H4 D = some (.lst (bs.map V.int)) ∧ Same H3 H4) ⟨[], Nat.le_refl _, upd_same, sameUpd (Same.refl H3) nD⟩ (fun i H4 _ ⟨_, _, _, sm⟩ => sqL_same sm (sqL_same s1 hs)) ?_ ?_
      · rintro i x H4 hx ⟨bs, hb, hD, sm⟩
        rw [List.getElem?_map] at hx
        cases hn : ns[i]? with
        | none => rw [hn] at hx; cases hx
        | some m =>
          rw [hn] at hx
          cases hx
          have hi : i < ns.length := (List.getElem?_eq_some_iff.mp hn).1
          refine ⟨rfl, _, rfl, _, _, rfl, rfl, ⟨by decide, by decide, by decide⟩, _, _, rfl, rfl, _, rfl, ?_⟩
          refine ite2 (fun h => ?_) (fun h => ?_)
          · refine ⟨_, rfl, _, hD, ?_, bs ++ [m], by simp; omega, ?_, sameUpd sm nD⟩
            · rw [List.length_map, sizeLine_eq]
              omega
            · rw [upd_same, List.map_append]
              rfl
          · exact ⟨bs, by omega, hD, sm⟩
      · rintro H4 ⟨bs, hb, hD, sm⟩
        rw [List.length_map] at hb
        refine ⟨l1, D, _, _, rfl, rfl, sm _ _ hl1, hD, ?_, fun d nd => ?_⟩
        · rw [List.length_map, sizeLine_eq]
          simp
          omega
        · have s4 := sameUpd (o := .lst ([.int z, .int 0] ++ bs.map V.int)) (Same.refl H4) nd
          exact k d _ ((s1.trans sm).free nd) ((s1.trans sm).trans s4) ⟨z, 0, bs, by omega, upd_same⟩
end
theorem Drawn.put {d : Addr} {H H' : Hp} {x : Addr} {o : HO} (h : Drawn d H H') (hx : H x = none) (nd : x ≠ d) : Drawn d H (upd H' x o) :=
  ⟨fun b u hb e => by
    rw [upd_ne (ne_of_none e hx)]
    exact h.same b u hb e, let ⟨s, c, bs, hl, e⟩ := h.at_; ⟨s, c, bs, hl, (upd_ne (Ne.symm nd)).trans e⟩⟩
theorem Drawn.draw {d : Addr} {H H' : Hp} {s c : Int} {bs : List Int} (h : Drawn d H H') (hl : bs.length ≤ 63) : Drawn d H (upd H' d (drawL s c bs)) :=
  ⟨fun b u hb e => by
    rw [upd_ne hb]
    exact h.same b u hb e, ⟨s, c, bs, hl, upd_same⟩⟩
end Sw

end

section
set_option maxRecDepth 100000
set_option maxHeartbeats 4000000
/-! the law's own: shuffled -/
namespace Sw
open PySem PySem.Spec PyProof.Rows L2 SwA
theorem perm_erase : ∀ (l : List V) (i : Nat) (h : i < l.length), (l[i] :: l.eraseIdx i).Perm l
  | a :: l, 0, _ => .refl _
  | a :: l, i + 1, h => by
    have h' : i < l.length := by simpa using h
    have ih := perm_erase l i h'
    show (l[i] :: a :: l.eraseIdx i).Perm (a :: l)
    exact (List.Perm.swap a _ _).trans (ih.cons a)
structure ShuT (K : PySem.W.Frag) (mg : Str → Option Value) : Prop where
  l : LawT K mg
  shuffled : DeT K mg "_law_shuffled" s__law_shuffled
section
variable {P : Program} {w : World} {K : PySem.W.Frag} {mg : Str → Option Value} {base : Heap}
def spShuffled (K : PySem.W.Frag) : Sp := fun vs H Q _ => ∃ (d it : Addr) (xs : List V), vs = [.ref d, .ref it] ∧ DrawAt H d ∧ SqL K H it xs ∧ xs.length ≤ 1000 ∧
  ∀ (r : Addr) (H' : Hp) (ys : List V), ys.Perm xs → Drawn d H H' → H r = none → H' r = some (.lst ys) → Q (.ref r) H'
abbrev shN : List Str := ["_law_d", "_law_items", "_law_pool", "_law_result"]
theorem sc_shuffled : FnScope shN ["_law_d", "_law_items"] (defScope s__law_shuffled) := ⟨rfl, rfl, rfl, by decide +kernel, rfl, by decide +kernel, by decide +kernel⟩
theorem ok_shuffled (T : ShuT K mg) : FnE P w K mg base CX0 2 ("_law_shuffled", none) ["_law_d", "_law_items"] (spShuffled K) := by
  obtain ⟨fd, F⟩ := T.shuffled.d
  obtain ⟨fdB, GB, bB, kB⟩ := ok_below (P := P) (w := w) (base := base) T.l
  refine ⟨fd, F.ok sc_shuffled (fun vs H Q E h => ?_) (fun cdv A outer s H vs Q E hr h => ?_), F.bindsN fun _ _ _ _ _ _ us hl => match us, hl with | [_, _], _ => rfl, F.kp⟩
  · obtain ⟨d, it, xs, rfl, _⟩ := h
    rfl
  · obtain ⟨d, it, xs, rfl, hd, hi, hl, k⟩ := h
    refine ⟨_, PSs.nox (pss_cons (ps_set (i := 2) sc_shuffled.nd rfl (.inl rfl) (pe_callTy call_list_of (by rfl) T.l.list (by decide +kernel) (pa_cons (pv 1) pa_nil)))
      (pss_cons (ps_set (i := 3) sc_shuffled.nd rfl (.inl rfl) (pe_lst pa_nil))
      (pss_cons (ps_while PassesOwn.never (pt_cmpR (op_neNil (hu0 hr)) (pv 2) (pe_lst pa_nil) (nomark _))
        (pss_one (ps_expr (pe_bm PySem.F.plainAttrs_list PySem.F.slot_list_append PySem.F.type_list_append mt_append (pv 3)
          (pa_cons (pe_bm PySem.F.plainAttrs_list PySem.F.slot_list_pop PySem.F.type_list_pop mt_popAt (pv 2) (pa_cons (pe_call GB hr rfl T.l.below.g kB bB .nil pass0 (pa_cons (pv 0) (pa_cons (pe_callB call_len_seq (by rfl) T.l.len boot_len (pa_cons (pv 2) pa_nil)) pa_nil))) pa_nil)) pa_nil)))))
      (pss_one (ps_ret (pv 3)))))), ?_⟩
    refine ⟨_, rfl, it, _, rfl, .inl hi, fun pl npl => ?_⟩
    have d1 := (Drawn.refl hd).new (o := .lst xs) npl
    have hpl := @upd_same H pl (.lst xs)
    have pld : pl ≠ d := fun z => by
      obtain ⟨_, _, _, _, q⟩ := hd
      rw [z, q] at npl
      cases npl
    generalize upd H pl (.lst xs) = H1 at *
    refine ⟨(by show 0 ≤ sizeLine; decide), fun rl nrl => ?_⟩
    have d2 := d1.new (o := .lst []) nrl
    have hrl := @upd_same H1 rl (.lst [])
    have plrl : pl ≠ rl := ne_of_none hpl nrl
    have hpl2 : (upd H1 rl (.lst [])) pl = some (.lst xs) := (upd_ne plrl).trans hpl
    have nrl0 : H rl = none := d1.free (let ⟨s, c, bs, _, e⟩ := hd; ⟨_, e⟩) nrl
    have rld : rl ≠ d := fun z => by
      obtain ⟨_, _, _, _, q⟩ := d1.at_
      rw [z, q] at nrl
      cases nrl
    generalize upd H1 rl (.lst []) = H2 at *
    refine ⟨fun m σ H3 => ∃ (zs ys : List V), m = zs.length ∧ σ = [some (.ref d), some (.ref it), some (.ref pl), some (.ref rl)] ∧ Drawn d H H3 ∧ H3 pl = some (.lst zs) ∧ H3 rl = some (.lst ys) ∧ (ys ++ zs).Perm xs, ⟨xs.length, xs, [], rfl, rfl, d2, hpl2, hrl, .refl _⟩, ?_⟩
    rintro m σ H3 ⟨zs, ys, rfl, rfl, d3, hp3, hr3, hper⟩
    have hlen : ys.length + zs.length = xs.length := by rw [← List.length_append, hper.length_eq]
    refine ⟨_, rfl, (by show 0 ≤ sizeLine; decide), fun el nel => ?_⟩
    have s4 := sameUpd (o := .lst []) (Same.refl H3) nel
    have d4 := d3.new (o := .lst []) nel
    have hel := @upd_same H3 el (.lst [])
    replace hp3 := s4 _ _ hp3
    replace hr3 := s4 _ _ hr3
    generalize upd H3 el (.lst []) = H4 at *
    refine ⟨pl, el, _, rfl, rfl, SqL.of hp3, SqL.of hel, _, rfl, ?_⟩
    cases zs with
    | nil =>
      rw [List.append_nil] at hper
      exact ⟨_, rfl, k rl H4 ys hper d4 nrl0 hr3⟩
    | cons z0 zs0 =>
      refine ⟨_, fun _ _ nn => nn, ?_⟩
      refine ⟨_, rfl, .inl ⟨rfl, _, SqL.of hr3⟩, _, rfl, .inl ⟨rfl, _, SqL.of hp3⟩, _, rfl, _, rfl, pl, _, rfl, .inl (SqL.of hp3), d, (z0 :: zs0).length, rfl, d4.at_, by simp, by simp at hlen ⊢; omega, fun r sd cu bs hrl hbs => ?_⟩
      have d5 := d4.draw (s := sd) (c := cu) hbs
      have hp5 : (upd H4 d (drawL sd cu bs)) pl = some (.lst (z0 :: zs0)) := (upd_ne pld).trans hp3
      have hr5 : (upd H4 d (drawL sd cu bs)) rl = some (.lst ys) := (upd_ne rld).trans hr3
      generalize upd H4 d (drawL sd cu bs) = H5 at *
      have hsi : seqIndex? (r : Int) (z0 :: zs0).length = some r := by
        have h0 : ixN (z0 :: zs0).length (r : Int) = some r := by
          unfold ixN
          rw [if_pos (by omega), if_pos (by omega), Int.toNat_natCast]
        exact (ixN_seq h0).1
      refine ⟨pl, _, (r : Int), r, (z0 :: zs0)[r], rfl, rfl, hp5, by omega, by simp only [List.length_cons] at hlen hrl; omega, hsi, List.getElem?_eq_getElem hrl, ?_⟩
      have d6 := d5.put (x := pl) (o := .lst ((z0 :: zs0).eraseIdx r)) npl pld
      refine ⟨rl, _, _, rfl, rfl, (upd_ne (Ne.symm plrl)).trans hr5, by rw [sizeLine_eq]; simp at hlen; omega, ?_⟩
      refine ⟨((z0 :: zs0).eraseIdx r).length, by rw [List.length_eraseIdx_of_lt hrl]; simp, (z0 :: zs0).eraseIdx r, ys ++ [(z0 :: zs0)[r]], rfl, rfl, d6.put nrl0 rld, ?_, upd_same, ?_⟩
      · rw [upd_ne plrl, upd_same]
      · refine List.Perm.trans ?_ hper
        rw [List.append_assoc]
        exact List.Perm.append_left ys (perm_erase _ r hrl)
end
end Sw

end

section
set_option maxRecDepth 100000
set_option maxHeartbeats 4000000
/-! texts that are read without a fault: the lexer -/
namespace Sw
open PySem
abbrev KT := Kd × Cs
def kt (t : Tk) : KT := (t.kind, t.text)
def dec (n : Nat) : Cs := if n < 10 then [48 + n] else [48 + n / 10, 48 + n % 10]
/-- a word of letters -/
def Wd (w : Cs) : Prop := (∀ c ∈ w, isL c = true) ∧ 1 ≤ w.length ∧ w.length ≤ 8
/-- digits, at most two, no zero ahead -/
def Nm (w : Cs) : Prop := (∀ c ∈ w, isD c = true) ∧ 1 ≤ w.length ∧ w.length ≤ 2 ∧ (w.length = 1 ∨ w.head? ≠ some 48)
def kdOf (w : Cs) : Kd := match w with
  | [] => .name
  | c :: _ => if isD c = true then .number else if w ∈ kws then .keyword else .name
def ktOf (w : Cs) : KT := (kdOf w, w)
theorem tw_app {p : Nat → Bool} {w : Cs} {r : Cs} (h : ∀ c ∈ w, p c = true) (hr : ∀ c, r.head? = some c → p c = false) : (w ++ r).takeWhile p = w := by
  induction w with
  | nil =>
    cases r with
    | nil => rfl
    | cons c r => simp [hr c rfl]
  | cons a w ih =>
    have ha : p a = true := h a List.mem_cons_self
    simp only [List.cons_append, List.takeWhile_cons, ha, if_true]
    rw [ih fun c hc => h c (List.mem_cons_of_mem _ hc)]
theorem isL_isD {c : Nat} (h : isL c = true) : isD c = false := by
  unfold isL at h
  unfold isD
  rw [Bool.and_eq_true, Nat.ble_eq, Nat.ble_eq] at h
  cases e : (Nat.ble 48 c && Nat.ble c 57) with
  | false => rfl
  | true =>
    rw [Bool.and_eq_true, Nat.ble_eq, Nat.ble_eq] at e
    omega
theorem isL_ne {c : Nat} (h : isL c = true) : c ≠ 59 ∧ isS c = false := by
  unfold isL at h
  rw [Bool.and_eq_true, Nat.ble_eq, Nat.ble_eq] at h
  refine ⟨by omega, ?_⟩
  unfold isS
  have h1 : (c == 32) = false := by simp; omega
  have h2 : (c == 10) = false := by simp; omega
  rw [h1, h2]
  rfl
theorem isD_ne {c : Nat} (h : isD c = true) : c ≠ 59 ∧ isS c = false := by
  unfold isD at h
  rw [Bool.and_eq_true, Nat.ble_eq, Nat.ble_eq] at h
  refine ⟨by omega, ?_⟩
  unfold isS
  have h1 : (c == 32) = false := by simp; omega
  have h2 : (c == 10) = false := by simp; omega
  rw [h1, h2]
  rfl
/-- what may stand behind a word -/
def Brk (r : Cs) : Prop := ∀ c, r.head? = some c → isL c = false ∧ isD c = false
theorem read_word {line col : Nat} {w r : Cs} (hw : Wd w ∨ Nm w) (hr : Brk r) : readTok line col (w ++ r) = some ⟨kdOf w, w, line, col⟩ := by
  rcases hw with ⟨h1, h2, h3⟩ | ⟨h1, h2, h3, h4⟩
  · cases w with
    | nil => simp at h2
    | cons c w =>
      have hc := h1 c List.mem_cons_self
      have tw : ((c :: w) ++ r).takeWhile isL = c :: w := tw_app h1 fun x hx => (hr x hx).1
      have e : (c :: w) ++ r = c :: (w ++ r) := rfl
      rw [e] at tw ⊢
      simp only [readTok, if_neg (isL_ne hc).1, isL_isD hc, tw, kdOf]
      by_cases hk : (c :: w) ∈ kws
      · simp [hk]
      · have hp : 1 ≤ (c :: w).length ∧ (c :: w).length ≤ 8 := ⟨h2, h3⟩
        simp only [hk, hp, if_true, if_false, Bool.false_eq_true, and_self]
  · cases w with
    | nil => simp at h2
    | cons c w =>
      have hc := h1 c List.mem_cons_self
      have tw : ((c :: w) ++ r).takeWhile isD = c :: w := tw_app h1 fun x hx => (hr x hx).2
      have e : (c :: w) ++ r = c :: (w ++ r) := rfl
      rw [e] at tw ⊢
      simp only [readTok, if_neg (isD_ne hc).1, hc, tw, kdOf, if_true]
      rw [if_neg]
      rintro (q | ⟨q1, q2⟩)
      · omega
      · rcases h4 with z | z
        · omega
        · exact z (by rw [q2]; rfl)
theorem lex_word {line col f : Nat} {w r : Cs} {ts : List Tk} (hw : Wd w ∨ Nm w) (hr : Brk r) (h : lexRow line f (col + w.length) r = .ok ts) : lexRow line (f + 1) col (w ++ r) = .ok (⟨kdOf w, w, line, col⟩ :: ts) := by
  have rd := read_word (line := line) (col := col) hw hr
  cases w with
  | nil => rcases hw with ⟨_, q, _⟩ | ⟨_, q, _⟩ <;> simp at q
  | cons c w =>
    have hs : isS c = false := by
      rcases hw with ⟨q, _⟩ | ⟨q, _⟩
      · exact (isL_ne (q c List.mem_cons_self)).2
      · exact (isD_ne (q c List.mem_cons_self)).2
    have e : (c :: w) ++ r = c :: (w ++ r) := rfl
    rw [e] at rd ⊢
    simp only [lexRow, hs, rd]
    have ed : (c :: (w ++ r)).drop (c :: w).length = r := by rw [← e, List.drop_left]
    rw [ed, h]
    rfl
theorem lex_space {line col f c : Nat} {r : Cs} (hs : isS c = true) : lexRow line (f + 1) col (c :: r) = lexRow line f (col + 1) r := by
  simp only [lexRow, hs, if_true]
theorem lex_semi {line col f : Nat} {r : Cs} {ts : List Tk} (h : lexRow line f (col + 1) r = .ok ts) : lexRow line (f + 1) col (59 :: r) = .ok (⟨.sign, [59], line, col⟩ :: ts) := by
  have e : readTok line col (59 :: r) = some ⟨.sign, [59], line, col⟩ := rfl
  have hs : isS 59 = false := rfl
  simp only [lexRow, hs, e]
  show (match lexRow line f (col + 1) r with | .error e => Except.error e | .ok ts => .ok (_ :: ts)) = _
  rw [h]
/-! ### a line: words with a space between, then ; -/
def wordsOf : List Cs → Cs
  | [] => []
  | [w] => w
  | w :: r => w ++ 32 :: wordsOf r
def lineOf (ws : List Cs) : Cs := wordsOf ws ++ [59]
theorem brk_semi {r : Cs} : Brk (59 :: r) := fun c h => by
  cases h
  exact ⟨rfl, rfl⟩
theorem brk_space {r : Cs} : Brk (32 :: r) := fun c h => by
  cases h
  exact ⟨rfl, rfl⟩
theorem lex_line {line : Nat} : ∀ {ws : List Cs} {f col : Nat}, ws ≠ [] → (∀ w ∈ ws, Wd w ∨ Nm w) → (lineOf ws).length ≤ f → ∃ T, lexRow line f col (lineOf ws) = .ok T ∧ T.map kt = ws.map ktOf ++ [(.sign, wSemi)]
  | [], _, _, h, _, _ => absurd rfl h
  | [w], f, col, _, hw, hf => by
    have hw1 := hw w List.mem_cons_self
    have hl : (lineOf [w]).length = w.length + 1 := by simp [lineOf, wordsOf]
    obtain ⟨f', rfl⟩ : ∃ f', f = f' + 1 + 1 := ⟨f - 2, by rcases hw1 with ⟨_, q, _⟩ | ⟨_, q, _⟩ <;> omega⟩
    have e1 : lexRow line (f' + 1) (col + w.length) [59] = .ok [⟨.sign, [59], line, col + w.length⟩] := by
      refine lex_semi ?_
      cases f' <;> rfl
    exact ⟨_, lex_word hw1 brk_semi e1, rfl⟩
  | w :: w2 :: ws, f, col, _, hw, hf => by
    have hw1 := hw w List.mem_cons_self
    have e : lineOf (w :: w2 :: ws) = w ++ 32 :: lineOf (w2 :: ws) := by
      show (w ++ 32 :: wordsOf (w2 :: ws)) ++ [59] = _
      rw [List.append_assoc]
      rfl
    rw [e] at hf ⊢
    rw [List.length_append, List.length_cons] at hf
    obtain ⟨f', rfl⟩ : ∃ f', f = f' + 1 + 1 := ⟨f - 2, by rcases hw1 with ⟨_, q, _⟩ | ⟨_, q, _⟩ <;> omega⟩
    have hf2 : (lineOf (w2 :: ws)).length ≤ f' := by rcases hw1 with ⟨_, q, _⟩ | ⟨_, q, _⟩ <;> omega
    obtain ⟨T, h1, h2⟩ := lex_line (line := line) (ws := w2 :: ws) (f := f') (col := col + w.length + 1) (by simp) (fun x hx => hw x (List.mem_cons_of_mem _ hx)) hf2
    refine ⟨_, lex_word hw1 brk_space (by rw [lex_space rfl]; exact h1), ?_⟩
    rw [List.map_cons, h2]
    rfl
theorem lex_lines : ∀ {lss : List (List Cs)} {line : Nat}, (∀ ws ∈ lss, ws ≠ [] ∧ ∀ w ∈ ws, Wd w ∨ Nm w) → ∃ T, lexRows line (lss.map lineOf) = .ok T ∧ T.map kt = (lss.map fun ws => ws.map ktOf ++ [(.sign, wSemi)]).flatten
  | [], _, _ => ⟨[], rfl, rfl⟩
  | ws :: lss, line, h => by
    obtain ⟨hne, hw⟩ := h ws List.mem_cons_self
    obtain ⟨T, h1, h2⟩ := lex_line (line := line) (col := 0) hne hw (Nat.le_refl _)
    obtain ⟨U, h3, h4⟩ := lex_lines (lss := lss) (line := line + 1) fun x hx => h x (List.mem_cons_of_mem _ hx)
    refine ⟨T ++ U, ?_, ?_⟩
    · show (match lexRow line (lineOf ws).length 0 (lineOf ws) with | .error e => Except.error e | .ok ts => match lexRows (line + 1) (lss.map lineOf) with | .error e => .error e | .ok us => .ok (ts ++ us)) = _
      rw [h1, h3]
    · rw [List.map_append, h2, h4]
      rfl
theorem no10_line : ∀ {ws : List Cs}, (∀ w ∈ ws, Wd w ∨ Nm w) → 10 ∉ lineOf ws := by
  have key : ∀ {ws : List Cs}, (∀ w ∈ ws, Wd w ∨ Nm w) → 10 ∉ wordsOf ws := by
    intro ws
    induction ws with
    | nil => intro _ h; cases h
    | cons w ws ih =>
      intro hw h
      have h10 : 10 ∉ w := fun z => by
        rcases hw w List.mem_cons_self with ⟨q, _⟩ | ⟨q, _⟩
        · exact absurd (q 10 z) (by decide)
        · exact absurd (q 10 z) (by decide)
      cases ws with
      | nil => exact h10 h
      | cons w2 ws =>
        rcases List.mem_append.mp h with z | z
        · exact h10 z
        · rcases List.mem_cons.mp z with y | y
          · exact absurd y (by decide)
          · exact ih (fun x hx => hw x (List.mem_cons_of_mem _ hx)) y
  intro ws hw h
  rcases List.mem_append.mp h with z | z
  · exact key hw z
  · exact absurd (List.mem_singleton.mp z) (by decide)
/-- a text of such lines -/
theorem tokenize_lines {lss : List (List Cs)} (hne : lss ≠ []) (h : ∀ ws ∈ lss, ws ≠ [] ∧ ∀ w ∈ ws, Wd w ∨ Nm w) :
    ∃ T, tokenize (TL.joinL [10] (lss.map lineOf)) = .ok T ∧ T.map kt = (lss.map fun ws => ws.map ktOf ++ [(Kd.sign, wSemi)]).flatten ++ [(.fin, [])] := by
  have hr : rowsOf (TL.joinL [10] (lss.map lineOf)) = lss.map lineOf := TL.spl_join (by simpa using hne) (by
    intro p hp
    obtain ⟨ws, hws, rfl⟩ := List.mem_map.mp hp
    exact no10_line (h ws hws).2)
  obtain ⟨T, h1, h2⟩ := lex_lines (line := 0) h
  refine ⟨T ++ [⟨.fin, [], (lss.map lineOf).length, 0⟩], ?_, ?_⟩
  · unfold tokenize
    rw [hr, h1]
  · rw [List.map_append, h2]
    rfl
end Sw

end

section
set_option maxRecDepth 100000
set_option maxHeartbeats 4000000
/-! texts that are read without a fault: the parser -/
namespace Sw
open PySem
/-- what is still to be read -/
def Rest (T : List Tk) (st : PSt) (l : List KT) : Prop := (T.map kt).drop st.at_ = l
section
variable {T : List Tk} {st : PSt} {k : Kd} {w : Cs} {l : List KT}
theorem Rest.cons (h : Rest T st ((k, w) :: l)) : (peek T st).kind = k ∧ (peek T st).text = w ∧ Rest T st.next l := by
  have e0 : (T.map kt)[st.at_]? = some (k, w) := by
    have := congrArg List.head? h
    rw [List.head?_drop] at this
    exact this
  rw [List.getElem?_map] at e0
  cases ht : T[st.at_]? with
  | none => rw [ht] at e0; cases e0
  | some t =>
    rw [ht] at e0
    have e1 : kt t = (k, w) := Option.some.inj e0
    have ep : peek T st = t := by
      unfold peek
      rw [List.getD_eq_getElem?_getD, ht]
      rfl
    refine ⟨by rw [ep]; exact congrArg Prod.fst e1, by rw [ep]; exact congrArg Prod.snd e1, ?_⟩
    show (T.map kt).drop (st.at_ + 1) = l
    have := congrArg List.tail h
    rw [List.tail_drop] at this
    exact this
theorem Rest.of_at {st2 : PSt} (h : Rest T st l) (e : st2.at_ = st.at_) : Rest T st2 l := by
  unfold Rest at *
  rw [e]
  exact h
theorem take_ok' (h : Rest T st ((k, w) :: l)) : ∃ t, take T k st = .ok (t, st.next) ∧ t.text = w ∧ Rest T st.next l := by
  obtain ⟨h1, h2, h3⟩ := h.cons
  exact ⟨peek T st, by unfold take; rw [if_pos h1], h2, h3⟩
theorem word_ok (h : Rest T st ((k, w) :: l)) : ∃ t, takeWord T w st = .ok (t, st.next) ∧ t.text = w ∧ Rest T st.next l := by
  obtain ⟨h1, h2, h3⟩ := h.cons
  exact ⟨peek T st, by unfold takeWord; rw [if_pos h2], h2, h3⟩
theorem kw_ok {ws : List Cs} (h : Rest T st ((.keyword, w) :: l)) (hw : w ∈ ws) : ∃ t, takeKw T ws st = .ok (t, st.next) ∧ t.text = w ∧ Rest T st.next l := by
  obtain ⟨h1, h2, h3⟩ := h.cons
  exact ⟨peek T st, by unfold takeKw; rw [if_pos ⟨h1, by rw [h2]; exact hw⟩], h2, h3⟩
end
/-- all but the place -/
def PSt.at' (st : PSt) (n : Nat) : PSt := { st with at_ := n }
/-! ### names -/
def pushAll (b : Bool) (ws : List Cs) (st : PSt) : PSt := if b then { st with moods := st.moods ++ ws } else { st with signs := st.signs ++ ws }
theorem more_names {T : List Tk} {k : Kd} {w : Cs} {l : List KT} (hk : k ≠ .name) : ∀ {ws : List Cs} {f : Nat} {st : PSt} {acc : List Tk}, Rest T st (ws.map (fun w => (Kd.name, w)) ++ (k, w) :: l) → ws.length ≤ f →
    ∃ ts : List Tk, moreNames T f st acc = (acc ++ ts, { st with at_ := st.at_ + ws.length }) ∧ ts.map (·.text) = ws
  | [], f, st, acc, h, hf => by
    obtain ⟨h1, _, _⟩ := h.cons
    cases f with
    | zero => exact ⟨[], by simp [moreNames], rfl⟩
    | succ f => exact ⟨[], by simp only [moreNames]; rw [if_neg (by rw [h1]; exact hk)]; simp, rfl⟩
  | x :: ws, f, st, acc, h, hf => by
    obtain ⟨h1, h2, h3⟩ := h.cons
    obtain ⟨f', rfl⟩ : ∃ f', f = f' + 1 := ⟨f - 1, by simp at hf; omega⟩
    obtain ⟨ts, e1, e2⟩ := more_names hk (ws := ws) (f := f') (st := st.next) (acc := acc ++ [peek T st]) h3 (by simpa using hf)
    refine ⟨peek T st :: ts, ?_, by simp [h2, e2]⟩
    simp only [moreNames]
    rw [if_pos h1, e1]
    simp [PSt.next, Nat.add_comm, Nat.add_left_comm]
theorem add_names {b : Bool} : ∀ {ts : List Tk} {st : PSt}, (ts.map (·.text)).Nodup → (∀ w ∈ ts.map (·.text), w ∉ st.names b) → (st.names b).length + ts.length ≤ mostOf b →
    ts.foldl (addName b) st = pushAll b (ts.map (·.text)) st
  | [], st, _, _, _ => by cases b <;> simp [pushAll]
  | t :: ts, st, hn, hm, hl => by
    have h1 : addName b st t = st.push b t.text := by
      unfold addName
      rw [if_neg (hm t.text (by simp)), if_neg (by simp at hl; omega)]
    rw [List.foldl_cons, h1]
    rw [List.map_cons, List.nodup_cons] at hn
    have e2 : (st.push b t.text).names b = st.names b ++ [t.text] := by cases b <;> rfl
    rw [add_names hn.2 (by
      intro w hw
      rw [e2]
      intro z
      rcases List.mem_append.mp z with y | y
      · exact hm w (List.mem_cons_of_mem _ hw) y
      · exact hn.1 (List.mem_singleton.mp y ▸ hw)) (by rw [e2, List.length_append]; simp at hl ⊢; omega)]
    cases b <;> simp [pushAll, PSt.push]
theorem names_ok {T : List Tk} {b : Bool} {st : PSt} {ws : List Cs} {k0 k1 : Kd} {l : List KT} (h : Rest T st ((k0, wordOf b) :: (ws.map (fun w => (Kd.name, w)) ++ (k1, wSemi) :: l))) (hk : k1 ≠ .name) (hne : ws ≠ []) (hT : ws.length ≤ T.length) (hn : ws.Nodup) (hm : (st.names b) = []) (hl : ws.length ≤ mostOf b) :
    ∃ st2, parseNames T b st = .ok ((), st2) ∧ st2 = { pushAll b ws st with at_ := st.at_ + ws.length + 2 } ∧ Rest T st2 l := by
  cases ws with
  | nil => exact absurd rfl hne
  | cons x ws =>
    obtain ⟨t1, e1, _, r1⟩ := word_ok h
    obtain ⟨t2, e2, x2, r2⟩ := take_ok' r1
    obtain ⟨ts, e3, x3⟩ := more_names (T := T) hk (ws := ws) (f := T.length) (st := st.next.next) (acc := [t2]) r2 (by simp at hT; omega)
    have r3 : Rest T { st.next.next with at_ := st.next.next.at_ + ws.length } ((k1, wSemi) :: l) := by
      have r2' : (T.map kt).drop st.next.next.at_ = ws.map (fun w => (Kd.name, w)) ++ (k1, wSemi) :: l := r2
      show (T.map kt).drop (st.next.next.at_ + ws.length) = _
      rw [← List.drop_drop, r2']
      have : ws.length = (ws.map (fun w => (Kd.name, w))).length := by simp
      rw [this, List.drop_left]
    obtain ⟨t4, e4, _, r4⟩ := word_ok r3
    have ets : ([t2] ++ ts).map (·.text) = x :: ws := by simp [x2, x3]
    refine ⟨_, ?_, rfl, ?_⟩
    · unfold parseNames
      simp only [e1, e2, e3, e4]
      rw [add_names (by rw [ets]; exact hn) (by
        intro w _ z
        have : (PSt.next { st.next.next with at_ := st.next.next.at_ + ws.length }).names b = st.names b := by cases b <;> rfl
        rw [this, hm] at z
        cases z) (by
        have : (PSt.next { st.next.next with at_ := st.next.next.at_ + ws.length }).names b = st.names b := by cases b <;> rfl
        rw [this, hm]
        have : ([t2] ++ ts).length = (x :: ws).length := by rw [← ets, List.length_map]
        rw [this]
        simpa using hl), ets]
      cases b <;> simp [pushAll, PSt.next, Nat.add_assoc, Nat.add_comm, Nat.add_left_comm]
    · refine r4.of_at ?_
      simp [PSt.next]
      omega
end Sw

end

section
set_option maxRecDepth 100000
set_option maxHeartbeats 4000000
/-! texts that are read without a fault: the statements -/
namespace Sw
open PySem
inductive Stm
  | robot (t : Nat) (r : Bool)
  | put (g tile : Nat)
  | rule (k : Nat × Nat) (r : Rule)
def wayOf (r : Bool) : Cs := if r then wRight else wLeft
def stmW (signs moods : List Cs) : Stm → List Cs
  | .robot t r => [wRobot, dec t, wayOf r]
  | .put g t => [wPut, signs.getD g [], dec t]
  | .rule k r => [wWhen, moods.getD k.1 [], signs.getD k.2 [], wLeave, signs.getD r.left [], r.move, moods.getD r.later []]
def stmKT (signs moods : List Cs) (s : Stm) : List KT := (stmW signs moods s).map ktOf ++ [(.sign, wSemi)]
/-- a name: a word, no keyword -/
def NameOk (w : Cs) : Prop := Wd w ∧ w ∉ kws
structure NamesOk (ws : List Cs) : Prop where
  nd : ws.Nodup
  ok : ∀ w ∈ ws, NameOk w
theorem kd_name {w : Cs} (h : NameOk w) : kdOf w = .name := by
  obtain ⟨⟨h1, h2, _⟩, h3⟩ := h
  cases w with
  | nil => simp at h2
  | cons c w =>
    have := isL_isD (h1 c List.mem_cons_self)
    simp only [kdOf, this, if_neg h3]
    rfl
theorem dec_nm {n : Nat} (h : n < 100) : Nm (dec n) ∧ kdOf (dec n) = .number ∧ numVal (dec n) = n := by
  have key : ∀ n, n < 100 → ((dec n).all isD && (decide (1 ≤ (dec n).length) && (decide ((dec n).length ≤ 2) && ((decide ((dec n).length = 1) || decide ((dec n).head? ≠ some 48)) && (decide (kdOf (dec n) = .number) && decide (numVal (dec n) = n)))))) = true := by decide +kernel
  have := key n h
  simp only [Bool.and_eq_true, Bool.or_eq_true, decide_eq_true_eq, List.all_eq_true] at this
  exact ⟨⟨this.1, this.2.1, this.2.2.1, this.2.2.2.1⟩, this.2.2.2.2.1, this.2.2.2.2.2⟩
theorem getD_in {ws : List Cs} {g : Nat} (h : g < ws.length) : ws.getD g [] ∈ ws := by
  rw [List.getD_eq_getElem?_getD, List.getElem?_eq_getElem h]
  exact List.getElem_mem h
theorem num_ok {ws : List Cs} {g : Nat} {t : Tk} {st : PSt} (hn : ws.Nodup) (hg : g < ws.length) (ht : t.text = ws.getD g []) : numberOf ws t st = (g, st) := by
  unfold numberOf
  rw [if_pos (by rw [ht]; exact getD_in hg), ht]
  have : ws.getD g [] = ws[g] := by rw [List.getD_eq_getElem?_getD, List.getElem?_eq_getElem hg]; rfl
  rw [this, List.Nodup.idxOf_getElem hn]
def applyS (signs moods : List Cs) (st : PSt) : Stm → PSt
  | .robot t r => { st with robots := st.robots ++ [(t, r)] }
  | .put g t => { st with spots := st.spots ++ [(t, g)] }
  | .rule k r => { st with pairs := st.pairs ++ [(moods.getD k.1 [], signs.getD k.2 [])], rules := st.rules ++ [(k, r)] }
/-- a statement that fits -/
def StmOk (tiles : Nat) (signs moods : List Cs) (st : PSt) : Stm → Prop
  | .robot t _ => t < tiles ∧ st.robots.length < 3
  | .put g t => t < tiles ∧ g < signs.length ∧ ∀ q ∈ st.spots, q.1 ≠ t
  | .rule k r => k.1 < moods.length ∧ k.2 < signs.length ∧ r.left < signs.length ∧ r.later < moods.length ∧ r.move ∈ moves ∧ (moods.getD k.1 [], signs.getD k.2 []) ∉ st.pairs ∧ ∀ q ∈ st.rules, q.1 ≠ k
theorem putA_new {κ α : Type} [DecidableEq κ] {l : List (κ × α)} {k : κ} {v : α} (h : ∀ q ∈ l, q.1 ≠ k) : putA l k v = l ++ [(k, v)] := by
  unfold putA
  rw [if_neg]
  intro z
  obtain ⟨q, hq, e⟩ := List.any_eq_true.mp z
  exact h q hq (of_decide_eq_true e)
theorem move_kd {w : Cs} (h : w ∈ moves) : kdOf w = .keyword := by
  have : ∀ w ∈ moves, kdOf w = .keyword := by decide +kernel
  exact this w h
theorem way_kd (r : Bool) : kdOf (wayOf r) = .keyword ∧ wayOf r ∈ ways ∧ (decide (wayOf r = wRight)) = r := by cases r <;> decide +kernel
section
variable {T : List Tk} {tiles : Nat} {st : PSt} {l : List KT}
theorem tile_ok {t : Nat} (h : Rest T st (ktOf (dec t) :: l)) (ht : t < tiles) (h99 : t < 100) : tileOf T tiles st = .ok (t, st.next) ∧ Rest T st.next l := by
  obtain ⟨_, hk, hv⟩ := dec_nm h99
  have h' : Rest T st ((.number, dec t) :: l) := by rw [← hk]; exact h
  obtain ⟨tk, e1, e2, e3⟩ := take_ok' h'
  refine ⟨?_, e3⟩
  unfold tileOf
  simp only [e1, e2, hv]
  rw [if_neg (by omega)]
theorem robot_ok {signs moods : List Cs} {t : Nat} {r : Bool} (h : Rest T st (stmKT signs moods (.robot t r) ++ l)) (ht : t < tiles) (h16 : tiles ≤ 16) (hr : st.robots.length < 3) :
    ∃ st2, parseRobot T tiles st = .ok ((), st2) ∧ st2 = { applyS signs moods st (.robot t r) with at_ := st.at_ + 4 } ∧ Rest T st2 l := by
  obtain ⟨t1, e1, _, r1⟩ := word_ok (k := kdOf wRobot) (w := wRobot) h
  obtain ⟨e2, r2⟩ := tile_ok (tiles := tiles) (t := t) r1 ht (by omega)
  obtain ⟨w1, w2, w3⟩ := way_kd r
  have r2' : Rest T st.next.next ((.keyword, wayOf r) :: (.sign, wSemi) :: l) := by
    have : ktOf (wayOf r) = (.keyword, wayOf r) := by unfold ktOf; rw [w1]
    rw [← this]
    exact r2
  obtain ⟨t3, e3, x3, r3⟩ := kw_ok r2' w2
  obtain ⟨t4, e4, _, r4⟩ := word_ok r3
  refine ⟨_, ?_, rfl, r4.of_at rfl⟩
  unfold parseRobot
  have hn : ¬ st.next.robots.length = 3 := by
    show ¬ st.robots.length = 3
    omega
  simp only [e1, if_neg hn, e2, e3, e4, x3, w3]
  rfl
theorem put_ok {moods : List Cs} {g t : Nat} (hN : NamesOk st.signs) (h : Rest T st (stmKT st.signs moods (.put g t) ++ l)) (h16 : tiles ≤ 16) (ho : StmOk tiles st.signs moods st (.put g t)) :
    ∃ st2, parsePut T tiles st = .ok ((), st2) ∧ st2 = { applyS st.signs moods st (.put g t) with at_ := st.at_ + 4 } ∧ Rest T st2 l := by
  obtain ⟨ht, hg, hno⟩ := ho
  obtain ⟨t1, e1, _, r1⟩ := word_ok (k := kdOf wPut) (w := wPut) h
  have r1' : Rest T st.next ((.name, st.signs.getD g []) :: ktOf (dec t) :: (.sign, wSemi) :: l) := by
    have : ktOf (st.signs.getD g []) = (.name, st.signs.getD g []) := by unfold ktOf; rw [kd_name (hN.ok _ (getD_in hg))]
    rw [← this]
    exact r1
  obtain ⟨t2, e2, x2, r2⟩ := take_ok' r1'
  have en : ∀ s : PSt, numberOf st.signs t2 s = (g, s) := fun s => num_ok hN.nd hg x2
  obtain ⟨e3, r3⟩ := tile_ok (tiles := tiles) (t := t) r2 ht (by omega)
  obtain ⟨t4, e4, _, r4⟩ := word_ok r3
  refine ⟨_, ?_, rfl, r4.of_at rfl⟩
  unfold parsePut
  simp only [e1, e2]
  have en2 : numberOf st.next.next.signs t2 st.next.next = (g, st.next.next) := en _
  simp only [en2, e3, e4]
  have hany : (st.next.next.next.next.spots.any fun kv => decide (kv.1 = t)) = false := by
    show (st.spots.any fun kv => decide (kv.1 = t)) = false
    rw [List.any_eq_false]
    intro q hq z
    exact hno q hq (of_decide_eq_true z)
  rw [hany]
  have ep : putA st.spots t g = st.spots ++ [(t, g)] := putA_new hno
  simp only [Bool.false_eq_true, if_false]
  show Except.ok ((), { st.next.next.next.next with spots := putA st.spots t g }) = _
  rw [ep]
  rfl
theorem rule_ok {k : Nat × Nat} {r : Rule} (hN : NamesOk st.signs) (hM : NamesOk st.moods) (h : Rest T st (stmKT st.signs st.moods (.rule k r) ++ l)) (ho : StmOk tiles st.signs st.moods st (.rule k r)) :
    ∃ st2, parseRule T st = .ok ((), st2) ∧ st2 = { applyS st.signs st.moods st (.rule k r) with at_ := st.at_ + 8 } ∧ Rest T st2 l := by
  obtain ⟨hk1, hk2, hl, hla, hm, hp, hno⟩ := ho
  have nm : ∀ g, g < st.signs.length → ktOf (st.signs.getD g []) = (.name, st.signs.getD g []) := fun g hg => by unfold ktOf; rw [kd_name (hN.ok _ (getD_in hg))]
  have nm2 : ∀ g, g < st.moods.length → ktOf (st.moods.getD g []) = (.name, st.moods.getD g []) := fun g hg => by unfold ktOf; rw [kd_name (hM.ok _ (getD_in hg))]
  have km : ktOf r.move = (.keyword, r.move) := by unfold ktOf; rw [move_kd hm]
  have h0 : Rest T st (ktOf wWhen :: ktOf (st.moods.getD k.1 []) :: ktOf (st.signs.getD k.2 []) :: ktOf wLeave :: ktOf (st.signs.getD r.left []) :: ktOf r.move :: ktOf (st.moods.getD r.later []) :: (.sign, wSemi) :: l) := h
  rw [nm2 _ hk1, nm _ hk2, nm _ hl, nm2 _ hla, km] at h0
  obtain ⟨t1, e1, _, r1⟩ := word_ok (k := kdOf wWhen) (w := wWhen) h0
  obtain ⟨t2, e2, x2, r2⟩ := take_ok' r1
  have n2 : numberOf st.next.next.moods t2 st.next.next = (k.1, st.next.next) := num_ok hM.nd hk1 x2
  obtain ⟨t3, e3, x3, r3⟩ := take_ok' r2
  have n3 : numberOf st.next.next.next.signs t3 st.next.next.next = (k.2, st.next.next.next) := num_ok hN.nd hk2 x3
  obtain ⟨t4, e4, _, r4⟩ := word_ok (k := kdOf wLeave) (w := wLeave) r3
  obtain ⟨t5, e5, x5, r5⟩ := take_ok' r4
  have n5 : numberOf st.next.next.next.next.next.signs t5 st.next.next.next.next.next = (r.left, st.next.next.next.next.next) := num_ok hN.nd hl x5
  obtain ⟨t6, e6, x6, r6⟩ := kw_ok r5 hm
  obtain ⟨t7, e7, x7, r7⟩ := take_ok' r6
  have n7 : numberOf st.next.next.next.next.next.next.next.moods t7 st.next.next.next.next.next.next.next = (r.later, st.next.next.next.next.next.next.next) := num_ok hM.nd hla x7
  obtain ⟨t8, e8, _, r8⟩ := word_ok r7
  refine ⟨_, ?_, rfl, r8.of_at rfl⟩
  unfold parseRule
  simp only [e1, e2, n2, e3, n3, e4, e5, n5, e6, e7, n7, e8, x2, x3, x6]
  have hp2 : (st.moods.getD k.1 [], st.signs.getD k.2 []) ∉ st.next.next.next.next.next.next.next.next.pairs := hp
  rw [if_neg hp2, if_neg hp2]
  have ep : putA st.rules k r = st.rules ++ [(k, r)] := putA_new hno
  show Except.ok ((), { st.next.next.next.next.next.next.next.next with pairs := st.pairs ++ [(st.moods.getD k.1 [], st.signs.getD k.2 [])], rules := putA st.rules (k.1, k.2) ⟨r.left, r.move, r.later⟩ }) = _
  have e0 : putA st.rules (k.1, k.2) ⟨r.left, r.move, r.later⟩ = putA st.rules k r := rfl
  rw [e0, ep]
  rfl
end
end Sw

end

section
set_option maxRecDepth 100000
set_option maxHeartbeats 4000000
/-! texts that are read without a fault: the whole -/
namespace Sw
open PySem
def Fits (tiles : Nat) (signs moods : List Cs) : PSt → List Stm → Prop
  | _, [] => True
  | st, s :: r => StmOk tiles signs moods st s ∧ Fits tiles signs moods (applyS signs moods st s) r
theorem apply_at {signs moods : List Cs} {st : PSt} {n : Nat} (s : Stm) : applyS signs moods { st with at_ := n } s = { applyS signs moods st s with at_ := n } := by cases s <;> rfl
theorem Fits.at_ {tiles : Nat} {signs moods : List Cs} : ∀ {ss : List Stm} {st : PSt} {n : Nat}, Fits tiles signs moods st ss → Fits tiles signs moods { st with at_ := n } ss
  | [], _, _, _ => trivial
  | s :: r, st, n, h => by
    refine ⟨?_, ?_⟩
    · have := h.1
      cases s <;> exact this
    · rw [apply_at]
      exact Fits.at_ h.2
theorem fold_at {signs moods : List Cs} : ∀ {ss : List Stm} {st : PSt} {n m : Nat}, { ss.foldl (applyS signs moods) { st with at_ := n } with at_ := m } = { ss.foldl (applyS signs moods) st with at_ := m }
  | [], _, _, _ => rfl
  | s :: r, st, n, m => by
    rw [List.foldl_cons, List.foldl_cons, apply_at]
    exact fold_at
theorem apply_si {signs moods : List Cs} {st : PSt} (s : Stm) : (applyS signs moods st s).signs = st.signs ∧ (applyS signs moods st s).moods = st.moods := by cases s <;> exact ⟨rfl, rfl⟩
section
variable {T : List Tk} {tiles : Nat} {signs moods : List Cs}
theorem stm_ok {st : PSt} {l : List KT} (s : Stm) (e1 : st.signs = signs) (e2 : st.moods = moods) (hN : NamesOk signs) (hM : NamesOk moods) (h16 : tiles ≤ 16) (h : Rest T st (stmKT signs moods s ++ l)) (ho : StmOk tiles signs moods st s) :
    ∃ n, parseStmt T tiles st = .ok ((), { applyS signs moods st s with at_ := n }) ∧ (peek T st).kind ≠ .fin ∧ Rest T { applyS signs moods st s with at_ := n } l := by
  subst e1
  subst e2
  cases s with
  | robot t r =>
    obtain ⟨p1, p2, _⟩ := Rest.cons (k := kdOf wRobot) (w := wRobot) h
    obtain ⟨st2, e, rfl, hr⟩ := robot_ok (tiles := tiles) h ho.1 h16 ho.2
    refine ⟨_, ?_, by rw [p1]; decide, hr⟩
    unfold parseStmt
    rw [if_pos p2]
    exact e
  | put g t =>
    obtain ⟨p1, p2, _⟩ := Rest.cons (k := kdOf wPut) (w := wPut) h
    obtain ⟨st2, e, rfl, hr⟩ := put_ok (tiles := tiles) hN h h16 ho
    refine ⟨_, ?_, by rw [p1]; decide, hr⟩
    unfold parseStmt
    rw [if_neg (by rw [p2]; decide), if_pos p2]
    exact e
  | rule k r =>
    obtain ⟨p1, p2, _⟩ := Rest.cons (k := kdOf wWhen) (w := wWhen) h
    obtain ⟨st2, e, rfl, hr⟩ := rule_ok (tiles := tiles) hN hM h ho
    refine ⟨_, ?_, by rw [p1]; decide, hr⟩
    unfold parseStmt
    rw [if_neg (by rw [p2]; decide), if_neg (by rw [p2]; decide), if_pos p2]
    exact e
theorem stmts_ok (hN : NamesOk signs) (hM : NamesOk moods) (h16 : tiles ≤ 16) : ∀ {ss : List Stm} {f : Nat} {st : PSt}, st.signs = signs → st.moods = moods → Rest T st ((ss.map (stmKT signs moods)).flatten ++ [(.fin, [])]) → Fits tiles signs moods st ss → ss.length ≤ f →
    ∃ n, parseStmts T tiles f st = .ok ((), { ss.foldl (applyS signs moods) st with at_ := n })
  | [], f, st, _, _, h, _, _ => by
    obtain ⟨p1, _, _⟩ := Rest.cons (k := .fin) (w := []) h
    cases f with
    | zero => exact ⟨st.at_, rfl⟩
    | succ f => exact ⟨st.at_, by simp only [parseStmts]; rw [if_pos p1]; rfl⟩
  | s :: r, f, st, e1, e2, h, hf, hl => by
    obtain ⟨f', rfl⟩ : ∃ f', f = f' + 1 := ⟨f - 1, by simp at hl; omega⟩
    have h' : Rest T st (stmKT signs moods s ++ ((r.map (stmKT signs moods)).flatten ++ [(.fin, [])])) := by
      rw [← List.append_assoc]
      exact h
    obtain ⟨n, p1, p2, p3⟩ := stm_ok s e1 e2 hN hM h16 h' hf.1
    obtain ⟨m, q⟩ := stmts_ok hN hM h16 (ss := r) (f := f') (st := { applyS signs moods st s with at_ := n }) ((apply_si s).1.trans e1) ((apply_si s).2.trans e2) p3 (Fits.at_ hf.2) (by simpa using hl)
    refine ⟨m, ?_⟩
    simp only [parseStmts]
    rw [if_neg p2, p1]
    show parseStmts T tiles f' { applyS signs moods st s with at_ := n } = _
    rw [q, fold_at]
    rfl
/-- the lines' words of a plan told by statements -/
def headW (tiles : Nat) (signs moods : List Cs) : List (List Cs) := [[wCorridor, dec tiles], wSigns :: signs, wMoods :: moods]
theorem flat_len {l : List (List KT)} (h : ∀ x ∈ l, x ≠ []) : l.length ≤ l.flatten.length := by
  induction l with
  | nil => simp
  | cons a l ih =>
    have h1 := List.length_pos_iff.mpr (h a List.mem_cons_self)
    have h2 := ih fun x hx => h x (List.mem_cons_of_mem _ hx)
    rw [List.flatten_cons, List.length_append, List.length_cons]
    omega
def stN0 (signs moods : List Cs) : PSt := ⟨0, [], signs, moods, [], [], [], []⟩
theorem parse_ok {t0 : Nat} {r0 : Bool} {ss : List Stm} (hN : NamesOk signs) (hM : NamesOk moods) (hs1 : signs ≠ []) (hm1 : moods ≠ []) (hs4 : signs.length ≤ 4) (hm6 : moods.length ≤ 6) (h1 : 1 ≤ tiles) (h16 : tiles ≤ 16)
    (hT : T.map kt = (((headW tiles signs moods ++ (Stm.robot t0 r0 :: ss).map (stmW signs moods)).map fun ws => ws.map ktOf ++ [(Kd.sign, wSemi)]).flatten) ++ [(.fin, [])])
    (hf : Fits tiles signs moods (stN0 signs moods) (.robot t0 r0 :: ss)) :
    ∃ n, parsePlan T = .ok (tiles, { (Stm.robot t0 r0 :: ss).foldl (applyS signs moods) (stN0 signs moods) with at_ := n }) := by
  have nmS : signs.map ktOf = signs.map (fun w => (Kd.name, w)) := List.map_congr_left fun w hw => by unfold ktOf; rw [kd_name (hN.ok w hw)]
  have nmM : moods.map ktOf = moods.map (fun w => (Kd.name, w)) := List.map_congr_left fun w hw => by unfold ktOf; rw [kd_name (hM.ok w hw)]
  obtain ⟨_, dk, dv⟩ := dec_nm (n := tiles) (by omega)
  have hflat : T.map kt = (kdOf wCorridor, wCorridor) :: (.number, dec tiles) :: (.sign, wSemi) :: (kdOf wSigns, wSigns) :: (signs.map (fun w => (Kd.name, w)) ++ (.sign, wSemi) :: ((kdOf wMoods, wMoods) :: (moods.map (fun w => (Kd.name, w)) ++ (.sign, wSemi) ::
      (stmKT signs moods (.robot t0 r0) ++ ((ss.map (stmKT signs moods)).flatten ++ [(.fin, [])]))))) := by
    rw [hT]
    have e0 : ktOf (dec tiles) = (.number, dec tiles) := by unfold ktOf; rw [dk]
    simp only [headW, List.map_append, List.map_cons, List.map_nil, List.flatten_append, List.flatten_cons, List.flatten_nil, List.append_nil, e0, nmS, nmM, List.map_map]
    have es : (ss.map ((fun ws => ws.map ktOf ++ [(Kd.sign, wSemi)]) ∘ stmW signs moods)) = ss.map (stmKT signs moods) := rfl
    rw [es]
    simp [stmKT, ktOf]
  have hlen : T.length = (T.map kt).length := by simp
  have r0' : Rest T st0 (T.map kt) := rfl
  rw [hflat] at r0'
  obtain ⟨t1, e1, _, r1⟩ := word_ok r0'
  obtain ⟨t2, e2, x2, r2⟩ := take_ok' r1
  obtain ⟨t3, e3, _, r3⟩ := word_ok r2
  have lenS : signs.length ≤ T.length := by
    rw [hlen, hflat]
    simp
    omega
  have lenM : moods.length ≤ T.length := by
    rw [hlen, hflat]
    simp
    omega
  have lenF : ss.length ≤ T.length := by
    have := flat_len (l := ss.map (stmKT signs moods)) (by
      intro x hx
      obtain ⟨s, _, rfl⟩ := List.mem_map.mp hx
      simp [stmKT])
    rw [List.length_map] at this
    rw [hlen, hflat]
    simp at this ⊢
    omega
  obtain ⟨s4, e4, x4, r4⟩ := names_ok (b := false) (ws := signs) (k1 := .sign) r3 (by decide) hs1 lenS hN.nd rfl hs4
  have hm0 : s4.names true = [] := by rw [x4]; rfl
  obtain ⟨s5, e5, x5, r5⟩ := names_ok (b := true) (ws := moods) (k1 := .sign) r4 (by decide) hm1 lenM hM.nd hm0 hm6
  have es5 : ∃ n, s5 = { stN0 signs moods with at_ := n } := by
    refine ⟨s5.at_, ?_⟩
    rw [x5, x4]
    simp [pushAll, stN0, PSt.next, st0]
  obtain ⟨n5, es5⟩ := es5
  subst es5
  have hf2 := Fits.at_ (n := n5) hf
  obtain ⟨s6, e6, x6, r6⟩ := robot_ok (tiles := tiles) (signs := signs) (moods := moods) r5 hf2.1.1 h16 hf2.1.2
  obtain ⟨m, e7⟩ := stmts_ok hN hM h16 (ss := ss) (f := T.length) (st := s6) (by rw [x6]; rfl) (by rw [x6]; rfl) r6 (by rw [x6]; exact Fits.at_ hf2.2) lenF
  refine ⟨m, ?_⟩
  unfold parsePlan
  simp only [e1, e2, e3, x2, dv]
  rw [if_pos ⟨h1, h16⟩]
  simp only [e4, e5, e6, e7]
  rw [x6, fold_at, apply_at, fold_at]
  rfl
end
end Sw

end

section
set_option maxRecDepth 100000
set_option maxHeartbeats 4000000
/-! the text of a plan, read again -/
namespace Sw
open PySem
structure RuleOk (g m : Nat) (kv : (Nat × Nat) × Rule) : Prop where
  k1 : kv.1.1 < m
  k2 : kv.1.2 < g
  l : kv.2.left < g
  la : kv.2.later < m
  mv : kv.2.move ∈ moves
/-- a plan that a text can tell -/
structure WfP (pl : Plan) : Prop where
  sN : NamesOk pl.signs
  mN : NamesOk pl.moods
  s1 : pl.signs ≠ []
  s4 : pl.signs.length ≤ 4
  m1 : pl.moods ≠ []
  m6 : pl.moods.length ≤ 6
  n1 : 1 ≤ pl.floor.length
  n16 : pl.floor.length ≤ 16
  fl : ∀ x ∈ pl.floor, x < pl.signs.length
  r1 : pl.robots ≠ []
  r3 : pl.robots.length ≤ 3
  rt : ∀ r ∈ pl.robots, r.1 < pl.floor.length
  rn : (pl.rules.map (·.1)).Nodup
  ru : ∀ kv ∈ pl.rules, RuleOk pl.signs.length pl.moods.length kv
def putsL (floor : List Nat) : List (Nat × Nat) := (List.range floor.length).filterMap fun t => if 0 < floor.getD t 0 then some (t, floor.getD t 0) else none
def robS (r : Nat × Bool) : Stm := .robot r.1 r.2
def putS (q : Nat × Nat) : Stm := .put q.2 q.1
def rulS (kv : (Nat × Nat) × Rule) : Stm := .rule kv.1 kv.2
def stmsOf (pl : Plan) : List Stm := pl.robots.map robS ++ ((putsL pl.floor).map putS ++ pl.rules.map rulS)
def linesW (pl : Plan) : List (List Cs) := headW pl.floor.length pl.signs pl.moods ++ (stmsOf pl).map (stmW pl.signs pl.moods)
def textOf (pl : Plan) : Cs := TL.joinL [10] ((linesW pl).map lineOf)
section
variable {tiles : Nat} {signs moods : List Cs}
theorem fits_app : ∀ {a b : List Stm} {st : PSt}, Fits tiles signs moods st a → Fits tiles signs moods (a.foldl (applyS signs moods) st) b → Fits tiles signs moods st (a ++ b)
  | [], _, _, _, h => h
  | s :: a, b, st, h, h2 => ⟨h.1, fits_app h.2 h2⟩
theorem fold_rob : ∀ {rs : List (Nat × Bool)} {st : PSt}, (rs.map robS).foldl (applyS signs moods) st = { st with robots := st.robots ++ rs }
  | [], st => by simp
  | r :: rs, st => by
    rw [List.map_cons, List.foldl_cons, fold_rob]
    simp [robS, applyS]
theorem fits_rob : ∀ {rs : List (Nat × Bool)} {st : PSt}, (∀ r ∈ rs, r.1 < tiles) → st.robots.length + rs.length ≤ 3 → Fits tiles signs moods st (rs.map robS)
  | [], _, _, _ => trivial
  | r :: rs, st, h, hl => by
    refine ⟨⟨h r List.mem_cons_self, by simp at hl; omega⟩, fits_rob (fun x hx => h x (List.mem_cons_of_mem _ hx)) ?_⟩
    simp [robS, applyS] at hl ⊢
    omega
theorem fold_put : ∀ {ps : List (Nat × Nat)} {st : PSt}, (ps.map putS).foldl (applyS signs moods) st = { st with spots := st.spots ++ ps }
  | [], st => by simp
  | r :: rs, st => by
    rw [List.map_cons, List.foldl_cons, fold_put]
    simp [putS, applyS]
theorem fits_put : ∀ {ps : List (Nat × Nat)} {st : PSt}, (∀ q ∈ ps, q.1 < tiles ∧ q.2 < signs.length) → (ps.map (·.1)).Nodup → (∀ q ∈ ps, ∀ x ∈ st.spots, x.1 ≠ q.1) → Fits tiles signs moods st (ps.map putS)
  | [], _, _, _, _ => trivial
  | q :: ps, st, h, hn, hd => by
    rw [List.map_cons, List.nodup_cons] at hn
    refine ⟨⟨(h q List.mem_cons_self).1, (h q List.mem_cons_self).2, hd q List.mem_cons_self⟩, fits_put (fun x hx => h x (List.mem_cons_of_mem _ hx)) hn.2 ?_⟩
    intro x hx y hy
    rcases List.mem_append.mp hy with z | z
    · exact hd x (List.mem_cons_of_mem _ hx) y z
    · rw [List.mem_singleton.mp z]
      intro e
      exact hn.1 (List.mem_map.mpr ⟨x, hx, e.symm⟩)
theorem fold_rul : ∀ {rs : List ((Nat × Nat) × Rule)} {st : PSt}, (rs.map rulS).foldl (applyS signs moods) st = { st with pairs := st.pairs ++ rs.map (fun kv => (moods.getD kv.1.1 [], signs.getD kv.1.2 [])), rules := st.rules ++ rs }
  | [], st => by simp
  | r :: rs, st => by
    rw [List.map_cons, List.foldl_cons, fold_rul]
    simp [rulS, applyS]
theorem name_inj {ws : List Cs} (hn : ws.Nodup) {a b : Nat} (ha : a < ws.length) (hb : b < ws.length) (e : ws.getD a [] = ws.getD b []) : a = b := by
  rw [List.getD_eq_getElem?_getD, List.getD_eq_getElem?_getD, List.getElem?_eq_getElem ha, List.getElem?_eq_getElem hb] at e
  exact (List.getElem_inj hn).mp e
theorem fits_rul (hN : NamesOk signs) (hM : NamesOk moods) : ∀ {rs done : List ((Nat × Nat) × Rule)} {st : PSt}, (∀ kv ∈ rs, RuleOk signs.length moods.length kv) → (∀ kv ∈ done, RuleOk signs.length moods.length kv) → ((done ++ rs).map (·.1)).Nodup →
    st.rules = done → st.pairs = done.map (fun kv => (moods.getD kv.1.1 [], signs.getD kv.1.2 [])) → Fits tiles signs moods st (rs.map rulS)
  | [], _, _, _, _, _, _, _ => trivial
  | kv :: rs, done, st, h, hd, hn, e1, e2 => by
    have o := h kv List.mem_cons_self
    have nk : ∀ q ∈ done, q.1 ≠ kv.1 := fun q hq z => by
      rw [List.map_append, List.nodup_append] at hn
      exact hn.2.2 q.1 (List.mem_map.mpr ⟨q, hq, rfl⟩) kv.1 (by simp) z
    refine ⟨⟨o.k1, o.k2, o.l, o.la, o.mv, ?_, ?_⟩, fits_rul hN hM (done := done ++ [kv]) (fun x hx => h x (List.mem_cons_of_mem _ hx)) ?_ ?_ ?_ ?_⟩
    · rw [e2]
      intro z
      obtain ⟨q, hq, e⟩ := List.mem_map.mp z
      obtain ⟨ea, eb⟩ := Prod.mk.inj e
      exact nk q hq (Prod.ext (name_inj hM.nd (hd q hq).k1 o.k1 ea) (name_inj hN.nd (hd q hq).k2 o.k2 eb))
    · rw [e1]
      exact nk
    · intro x hx
      rcases List.mem_append.mp hx with z | z
      · exact hd x z
      · rw [List.mem_singleton.mp z]
        exact o
    · rw [List.append_assoc]
      exact hn
    · show st.rules ++ [(kv.1, kv.2)] = _
      rw [e1]
    · show st.pairs ++ [_] = _
      rw [e2, List.map_append]
      rfl
end
theorem puts_mem {floor : List Nat} {q : Nat × Nat} (h : q ∈ putsL floor) : q.1 < floor.length ∧ q.2 = floor.getD q.1 0 ∧ 0 < q.2 := by
  obtain ⟨t, ht, e⟩ := List.mem_filterMap.mp h
  split at e
  · rename_i h0
    cases e
    exact ⟨List.mem_range.mp ht, rfl, h0⟩
  · cases e
theorem puts_nodup (floor : List Nat) : ((putsL floor).map (·.1)).Nodup := by
  have key : ∀ l : List Nat, l.Nodup → ((l.filterMap fun t => if 0 < floor.getD t 0 then some (t, floor.getD t 0) else none).map (·.1)).Nodup ∧ ∀ x ∈ (l.filterMap fun t => if 0 < floor.getD t 0 then some (t, floor.getD t 0) else none).map (·.1), x ∈ l := by
    intro l
    induction l with
    | nil => intro _; exact ⟨List.nodup_nil, fun x hx => by cases hx⟩
    | cons a l ih =>
      intro hn
      rw [List.nodup_cons] at hn
      obtain ⟨i1, i2⟩ := ih hn.2
      rw [List.filterMap_cons]
      by_cases h : 0 < floor.getD a 0
      · rw [if_pos h]
        refine ⟨?_, fun x hx => ?_⟩
        · rw [List.map_cons, List.nodup_cons]
          exact ⟨fun z => hn.1 (i2 _ z), i1⟩
        · rcases List.mem_cons.mp hx with z | z
          · exact z ▸ List.mem_cons_self
          · exact List.mem_cons_of_mem _ (i2 x z)
      · rw [if_neg h]
        exact ⟨i1, fun x hx => List.mem_cons_of_mem _ (i2 x hx)⟩
  exact (key _ List.nodup_range).1
theorem getA_mem {κ α : Type} [DecidableEq κ] {l : List (κ × α)} {k : κ} {v : α} (hn : (l.map (·.1)).Nodup) (h : (k, v) ∈ l) : getA l k = some v := by
  induction l with
  | nil => cases h
  | cons a l ih =>
    unfold getA
    rw [List.find?_cons]
    rw [List.map_cons, List.nodup_cons] at hn
    rcases List.mem_cons.mp h with z | z
    · subst z
      simp
    · have : ¬ a.1 = k := fun e => hn.1 (List.mem_map.mpr ⟨(k, v), z, e.symm⟩)
      rw [decide_eq_false this]
      exact ih hn.2 z
theorem getA_none {κ α : Type} [DecidableEq κ] {l : List (κ × α)} {k : κ} (h : ∀ q ∈ l, q.1 ≠ k) : getA l k = none := by
  unfold getA
  have : l.find? (fun kv => decide (kv.1 = k)) = none := List.find?_eq_none.mpr fun q hq z => h q hq (of_decide_eq_true z)
  rw [this]
  rfl
theorem puts_floor (floor : List Nat) : ((List.range floor.length).map fun i => (getA (putsL floor) i).getD 0) = floor := by
  apply List.ext_getElem?
  intro i
  rw [List.getElem?_map]
  by_cases h : i < floor.length
  · rw [List.getElem?_range h, List.getElem?_eq_getElem h]
    have ef : floor.getD i 0 = floor[i] := by rw [List.getD_eq_getElem?_getD, List.getElem?_eq_getElem h]; rfl
    show some ((getA (putsL floor) i).getD 0) = _
    by_cases h0 : 0 < floor.getD i 0
    · have hm : (i, floor.getD i 0) ∈ putsL floor := List.mem_filterMap.mpr ⟨i, List.mem_range.mpr h, by rw [if_pos h0]⟩
      rw [getA_mem (puts_nodup floor) hm, ef]
      rfl
    · rw [getA_none]
      · show some 0 = some floor[i]
        rw [← ef]
        congr 1
        omega
      · intro q hq z
        obtain ⟨_, h2, h3⟩ := puts_mem hq
        rw [z] at h2
        omega
  · rw [List.getElem?_eq_none (by simpa using h), List.getElem?_eq_none (by simpa using h)]
    rfl
theorem kw_wd : ∀ w ∈ kws, Wd w := by
  have key : ∀ w ∈ kws, (w.all isL && (decide (1 ≤ w.length) && decide (w.length ≤ 8))) = true := by decide +kernel
  intro w hw
  have := key w hw
  simp only [Bool.and_eq_true, decide_eq_true_eq, List.all_eq_true] at this
  exact ⟨this.1, this.2.1, this.2.2⟩
theorem stm_words {pl : Plan} (h : WfP pl) : ∀ s ∈ stmsOf pl, stmW pl.signs pl.moods s ≠ [] ∧ ∀ w ∈ stmW pl.signs pl.moods s, Wd w ∨ Nm w := by
  have kw : ∀ w, w ∈ kws → Wd w ∨ Nm w := fun w hw => .inl (kw_wd w hw)
  have si : ∀ g, g < pl.signs.length → Wd (pl.signs.getD g []) ∨ Nm (pl.signs.getD g []) := fun g hg => .inl (h.sN.ok _ (getD_in hg)).1
  have mo : ∀ g, g < pl.moods.length → Wd (pl.moods.getD g []) ∨ Nm (pl.moods.getD g []) := fun g hg => .inl (h.mN.ok _ (getD_in hg)).1
  have n16 := h.n16
  intro s hs
  rcases List.mem_append.mp hs with z | z
  · obtain ⟨r, hr, rfl⟩ := List.mem_map.mp z
    have := h.rt r hr
    refine ⟨by simp [robS, stmW], fun w hw => ?_⟩
    simp only [robS, stmW, List.mem_cons, List.not_mem_nil, or_false] at hw
    rcases hw with rfl | rfl | rfl
    · exact kw _ (by decide +kernel)
    · exact .inr (dec_nm (by omega)).1
    · refine kw _ ?_
      cases r.2 <;> decide +kernel
  · rcases List.mem_append.mp z with z | z
    · obtain ⟨q, hq, rfl⟩ := List.mem_map.mp z
      obtain ⟨q1, q2, _⟩ := puts_mem hq
      have hg : q.2 < pl.signs.length := by
        rw [q2]
        refine h.fl _ ?_
        rw [List.getD_eq_getElem?_getD, List.getElem?_eq_getElem q1]
        exact List.getElem_mem q1
      refine ⟨by simp [putS, stmW], fun w hw => ?_⟩
      simp only [putS, stmW, List.mem_cons, List.not_mem_nil, or_false] at hw
      rcases hw with rfl | rfl | rfl
      · exact kw _ (by decide +kernel)
      · exact si _ hg
      · exact .inr (dec_nm (by omega)).1
    · obtain ⟨q, hq, rfl⟩ := List.mem_map.mp z
      have o := h.ru q hq
      refine ⟨by simp [rulS, stmW], fun w hw => ?_⟩
      simp only [rulS, stmW, List.mem_cons, List.not_mem_nil, or_false] at hw
      rcases hw with rfl | rfl | rfl | rfl | rfl | rfl | rfl
      · exact kw _ (by decide +kernel)
      · exact mo _ o.k1
      · exact si _ o.k2
      · exact kw _ (by decide +kernel)
      · exact si _ o.l
      · refine kw _ ?_
        have : ∀ w ∈ moves, w ∈ kws := by decide +kernel
        exact this _ o.mv
      · exact mo _ o.la
/-- THE ROUND TRIP -/
theorem loads_text {pl : Plan} (h : WfP pl) : ∃ s, loads (textOf pl) = .ok (pl.floor.length, s) ∧ s.faults = [] ∧ planOf pl.floor.length s = pl := by
  have kw : ∀ w, w ∈ kws → Wd w ∨ Nm w := fun w hw => .inl (kw_wd w hw)
  have n16 := h.n16
  obtain ⟨T, hT, hK⟩ := tokenize_lines (lss := linesW pl) (by simp [linesW, headW]) (by
    intro ws hws
    rcases List.mem_append.mp hws with z | z
    · simp only [headW, List.mem_cons, List.not_mem_nil, or_false] at z
      rcases z with rfl | rfl | rfl
      · refine ⟨by simp, fun w hw => ?_⟩
        simp only [List.mem_cons, List.not_mem_nil, or_false] at hw
        rcases hw with rfl | rfl
        · exact kw _ (by decide +kernel)
        · exact .inr (dec_nm (by omega)).1
      · refine ⟨by simp, fun w hw => ?_⟩
        rcases List.mem_cons.mp hw with rfl | hw
        · exact kw _ (by decide +kernel)
        · exact .inl (h.sN.ok w hw).1
      · refine ⟨by simp, fun w hw => ?_⟩
        rcases List.mem_cons.mp hw with rfl | hw
        · exact kw _ (by decide +kernel)
        · exact .inl (h.mN.ok w hw).1
    · obtain ⟨s, hs, rfl⟩ := List.mem_map.mp z
      exact stm_words h s hs)
  obtain ⟨r0, rs, er⟩ : ∃ r0 rs, pl.robots = r0 :: rs := by
    cases e : pl.robots with
    | nil => exact absurd e h.r1
    | cons a b => exact ⟨a, b, rfl⟩
  have est : stmsOf pl = Stm.robot r0.1 r0.2 :: (rs.map robS ++ ((putsL pl.floor).map putS ++ pl.rules.map rulS)) := by
    unfold stmsOf
    rw [er]
    rfl
  have hfold : (stmsOf pl).foldl (applyS pl.signs pl.moods) (stN0 pl.signs pl.moods) = ⟨0, [], pl.signs, pl.moods, pl.robots, pl.rules, pl.rules.map (fun kv => (pl.moods.getD kv.1.1 [], pl.signs.getD kv.1.2 [])), putsL pl.floor⟩ := by
    unfold stmsOf
    rw [List.foldl_append, List.foldl_append, fold_rob, fold_put, fold_rul]
    simp [stN0]
  have hfit : Fits pl.floor.length pl.signs pl.moods (stN0 pl.signs pl.moods) (stmsOf pl) := by
    refine fits_app (fits_rob h.rt (by simpa [stN0] using h.r3)) (fits_app (fits_put ?_ (puts_nodup _) ?_) (fits_rul (done := []) h.sN h.mN h.ru (by simp) (by simpa using h.rn) ?_ ?_))
    · intro q hq
      obtain ⟨q1, q2, _⟩ := puts_mem hq
      refine ⟨q1, ?_⟩
      rw [q2]
      refine h.fl _ ?_
      rw [List.getD_eq_getElem?_getD, List.getElem?_eq_getElem q1]
      exact List.getElem_mem q1
    · intro q hq x hx
      rw [fold_rob] at hx
      cases hx
    · rw [fold_put, fold_rob]
      rfl
    · rw [fold_put, fold_rob]
      rfl
  rw [est] at hfit
  obtain ⟨n, hp⟩ := parse_ok (T := T) (tiles := pl.floor.length) (signs := pl.signs) (moods := pl.moods) h.sN h.mN h.s1 h.m1 h.s4 h.m6 h.n1 h.n16 (by rw [hK]; unfold linesW; rw [est]) hfit
  rw [← est, hfold] at hp
  refine ⟨_, (by
    unfold loads textOf
    rw [hT]
    exact hp), ?_, ?_⟩
  · rfl
  · unfold planOf
    simp only
    rw [puts_floor]
end Sw

end

section
set_option maxRecDepth 100000
set_option maxHeartbeats 4000000
/-! the law's own: a plan -/
namespace Sw
open PySem PySem.Spec PyProof.Rows L2 SwA
/-- the law's tuple of a plan -/
def PlanV (H : Hp) (a : Addr) (pl : Plan) : Prop := ∃ (sa ma fa ra rd : Addr) (ras : List Addr), H a = some (.tup [.ref sa, .ref ma, .ref fa, .ref ra, .ref rd]) ∧ TupN H sa (pl.signs.map sV) ∧ TupN H ma (pl.moods.map sV) ∧
  H fa = some (.tup (pl.floor.map fun n : Nat => V.int n)) ∧ H ra = some (.tup (ras.map V.ref)) ∧ Paired (RobAt H) ras pl.robots ∧ RulesAt H rd pl.rules
structure PlaT (K : PySem.W.Frag) (mg : Str → Option Value) : Prop where
  s : ShuT K mg
  plan : DeT K mg "_law_plan" s__law_plan
theorem perm_ex {ys zs : List V} (h : ys.Perm zs) : ∀ {base : List Cs}, zs = base.map sV → ∃ bs : List Cs, bs.Perm base ∧ ys = bs.map sV := by
  induction h with
  | nil =>
    intro base e
    cases base with
    | nil => exact ⟨[], .refl _, rfl⟩
    | cons _ _ => cases e
  | @cons x l1 l2 _ ih =>
    intro base e
    cases base with
    | nil => cases e
    | cons b base =>
      injection e with e1 e2
      obtain ⟨bs, p, q⟩ := ih e2
      exact ⟨b :: bs, p.cons b, by rw [e1, q]; rfl⟩
  | @swap x y l =>
    intro base e
    cases base with
    | nil => cases e
    | cons b base =>
      cases base with
      | nil => cases e
      | cons c base =>
        injection e with e1 e2
        injection e2 with e3 e4
        exact ⟨c :: b :: base, .swap b c base, by rw [e1, e3, e4]; rfl⟩
  | @trans l1 l2 l3 _ _ ih1 ih2 =>
    intro base e
    obtain ⟨b2, p2, q2⟩ := ih2 e
    obtain ⟨b1, p1, q1⟩ := ih1 q2
    exact ⟨b1, p1.trans p2, q1⟩
def sBase : List Cs := [txt "no", txt "red", txt "blue", txt "longname", txt "x"]
def mBase : List Cs := [txt "go", txt "calm", txt "red", txt "b", txt "cc", txt "mmmmmmmm", txt "z"]
theorem base_ok {base : List Cs} (h : (base.all fun w => w.all isL && (decide (1 ≤ w.length) && (decide (w.length ≤ 8) && !decide (w ∈ kws)))) = true) (hn : base.Nodup) {bs : List Cs} (hp : bs.Perm base) (n : Nat) : NamesOk (bs.take n) := by
  refine ⟨((hp.nodup_iff).mpr hn).sublist (List.take_sublist n bs), fun w hw => ?_⟩
  have hm : w ∈ base := hp.mem_iff.mp (List.mem_of_mem_take hw)
  have := List.all_eq_true.mp h w hm
  simp only [Bool.and_eq_true, decide_eq_true_eq, List.all_eq_true, Bool.not_eq_true', decide_eq_false_iff_not] at this
  exact ⟨⟨this.1, this.2.1, this.2.2.1⟩, this.2.2.2⟩
theorem cut_take {xs : List V} {n : Nat} (h : n ≤ xs.length) : cutV xs none (some (n : Int)) = xs.take n := by
  show (xs.drop (HT.sIx xs.length 0 none)).take (HT.sIx xs.length xs.length (some (n : Int)) - HT.sIx xs.length 0 none) = xs.take n
  rw [HT.sIx_none, HT.sIx_nat, Nat.min_eq_left h]
  rfl
theorem cutS {Hb H : Hp} {l : List Addr} {x : Addr} {o : HO} (s : Same (cutH Hb l) H) (h : x ∈ l) : Same (cutH Hb l) (upd H x o) := sameUpd s (cutH_in h)
theorem cutN {Hb H : Hp} {l : List Addr} {x : Addr} {o : HO} (s : Same (cutH Hb l) H) (h : H x = none) : Same (cutH Hb l) (upd H x o) := sameUpd s (s.free h)
section
variable {P : Program} {w : World} {K : PySem.W.Frag} {mg : Str → Option Value} {base : Heap}
/-- the keys in order -/
def SortedR (rules : List ((Nat × Nat) × Rule)) : Prop := (rules.map (·.1)).Pairwise fun a b => a.1 < b.1 ∨ (a.1 = b.1 ∧ a.2 < b.2)
def spLPlan : Sp := fun vs H Q _ => ∃ (d : Addr) (most : Nat), vs = [.ref d, .int most] ∧ DrawAt H d ∧ 1 ≤ most ∧ most ≤ 16 ∧
  ∀ (a : Addr) (H' : Hp) (pl : Plan), Drawn d H H' → WfP pl → pl.floor.length ≤ most → (pl.moods.length ≤ 3 ∧ (∀ x ∈ pl.signs, x ∈ sBase) ∧ ∀ x ∈ pl.moods, x ∈ mBase) → SortedR pl.rules → H a = none → PlanV H' a pl → Q (.ref a) H'
abbrev plN : List Str := ["_law_d", "_law_most", "_law_signs", "_law_moods", "_law_tiles", "_law_floor", "_law_robots", "_law_rules", "_law_k", "_law_mood", "_law_sign", "_law_move"]
theorem sc_lplan : FnScope plN ["_law_d", "_law_most"] (defScope s__law_plan) := ⟨rfl, rfl, rfl, by decide +kernel, rfl, by decide +kernel, by decide +kernel⟩
theorem ok_lplan (T : PlaT K mg) : FnE P w K mg base CX0 3 ("_law_plan", none) ["_law_d", "_law_most"] spLPlan := by
  obtain ⟨fd, F⟩ := T.plan.d
  obtain ⟨fdB, GB, bB, kB⟩ := ok_below (P := P) (w := w) (base := base) T.s.l
  obtain ⟨fdS, GS, bS, kS⟩ := ok_shuffled (P := P) (w := w) (base := base) T.s
  refine ⟨fd, F.ok sc_lplan (fun vs H Q E h => ?_) (fun cdv A outer s H vs Q E hr h => ?_), F.bindsN fun _ _ _ _ _ _ us hl => match us, hl with | [_, _], _ => rfl, F.kp⟩
  · obtain ⟨d, most, rfl, _⟩ := h
    rfl
  · obtain ⟨d, most, rfl, hd, hm1, hm16, k⟩ := h
    have hr1 : Room 1 _ := hr.mono (by decide)
    have hr2 : Room 2 _ := hr.mono (by decide)
    have hu := hu_of hr
    refine ⟨_, PSs.nox (pss_cons (ps_set (i := 2) sc_lplan.nd rfl (.inl rfl) (pe_tupleOfN (by rfl) T.s.l.tuple (pe_slice sl_list (pe_call GS hr2 rfl T.s.shuffled.g kS bS .nil pass0 (pa_cons (pv 0) (pa_cons (pe_lst (pa_cons pe_str (pa_cons pe_str (pa_cons pe_str (pa_cons pe_str (pa_cons pe_str pa_nil)))))) pa_nil))) po_none (po_some (pe_op op_add pe_int (pe_call GB hr1 rfl T.s.l.below.g kB bB .nil pass0 (pa_cons (pv 0) (pa_cons pe_int pa_nil))))))))
      (pss_cons (ps_set (i := 3) sc_lplan.nd rfl (.inl rfl) (pe_tupleOfN (by rfl) T.s.l.tuple (pe_slice sl_list (pe_call GS hr2 rfl T.s.shuffled.g kS bS .nil pass0 (pa_cons (pv 0) (pa_cons (pe_lst (pa_cons pe_str (pa_cons pe_str (pa_cons pe_str (pa_cons pe_str (pa_cons pe_str (pa_cons pe_str (pa_cons pe_str pa_nil)))))))) pa_nil))) po_none (po_some (pe_op op_add pe_int (pe_call GB hr1 rfl T.s.l.below.g kB bB .nil pass0 (pa_cons (pv 0) (pa_cons pe_int pa_nil))))))))
      (pss_cons (ps_asg (pe_tup (pa_cons (pe_op op_add pe_int (pe_call GB hr1 rfl T.s.l.below.g kB bB .nil pass0 (pa_cons (pv 0) (pa_cons (pv 1) pa_nil)))) (pa_cons (pe_lst pa_nil) (pa_cons (pe_lst pa_nil) (pa_cons pe_dnewT pa_nil)))))
        (pg_tup rfl (pgs_cons (pg_name (i := 4) sc_lplan.nd rfl (.inl rfl)) (pgs_cons (pg_name (i := 5) sc_lplan.nd rfl (.inl rfl)) (pgs_cons (pg_name (i := 6) sc_lplan.nd rfl (.inl rfl)) (pgs_cons (pg_name (i := 7) sc_lplan.nd rfl (.inl rfl)) pgs_nil))))))
      (pss_cons (ps_for PassesOwn.never rfl (pi_range1 (by rfl) T.s.l.range (pa_cons (pv 4) pa_nil)) (pg_name (i := 8) sc_lplan.nd rfl (.inl rfl))
        (pss_one (ps_expr (pe_bm PySem.F.plainAttrs_list PySem.F.slot_list_append PySem.F.type_list_append mt_append (pv 5) (pa_cons (pe_ifExp (pt_cmpR op_eq (pe_call GB hr1 rfl T.s.l.below.g kB bB .nil pass0 (pa_cons (pv 0) (pa_cons pe_int pa_nil))) pe_int (nomark _))
          (pe_call GB hr1 rfl T.s.l.below.g kB bB .nil pass0 (pa_cons (pv 0) (pa_cons (pe_callB call_len_seq (by rfl) T.s.l.len boot_len (pa_cons (pv 2) pa_nil)) pa_nil))) pe_int) pa_nil)))))
      (pss_cons (ps_for PassesOwn.never rfl (pi_range1 (by rfl) T.s.l.range (pa_cons (pe_ix ix_list (pe_lst (pa_cons pe_int (pa_cons pe_int (pa_cons pe_int (pa_cons pe_int pa_nil))))) (pe_call GB hr1 rfl T.s.l.below.g kB bB .nil pass0 (pa_cons (pv 0) (pa_cons pe_int pa_nil))) (fun _ _ => rfl)) pa_nil)) (pg_name (i := 8) sc_lplan.nd rfl (.inl rfl))
        (pss_one (ps_expr (pe_bm PySem.F.plainAttrs_list PySem.F.slot_list_append PySem.F.type_list_append mt_append (pv 6) (pa_cons (pe_tup (pa_cons (pe_call GB hr1 rfl T.s.l.below.g kB bB .nil pass0 (pa_cons (pv 0) (pa_cons (pv 4) pa_nil)))
          (pa_cons (pe_cmpR op_eq (pe_call GB hr1 rfl T.s.l.below.g kB bB .nil pass0 (pa_cons (pv 0) (pa_cons pe_int pa_nil))) pe_int (nomark _)) pa_nil))) pa_nil)))))
      (pss_cons (ps_for PassesOwn.never rfl (pi_range1 (by rfl) T.s.l.range (pa_cons (pe_callB call_len_seq (by rfl) T.s.l.len boot_len (pa_cons (pv 3) pa_nil)) pa_nil)) (pg_name (i := 9) sc_lplan.nd rfl (.inl rfl))
        (pss_one (ps_for PassesOwn.never rfl (pi_range1 (by rfl) T.s.l.range (pa_cons (pe_callB call_len_seq (by rfl) T.s.l.len boot_len (pa_cons (pv 2) pa_nil)) pa_nil)) (pg_name (i := 10) sc_lplan.nd rfl (.inl rfl))
          (pss_one (ps_if (pt_cmpR op_gt (pe_call GB hr1 rfl T.s.l.below.g kB bB .nil pass0 (pa_cons (pv 0) (pa_cons pe_int pa_nil))) pe_int (nomark _))
            (pss_cons (ps_set (i := 11) sc_lplan.nd rfl (.inl rfl) (pe_ix ix_list (pe_lst (pa_cons pe_str (pa_cons pe_str (pa_cons pe_str (pa_cons pe_str (pa_cons pe_str pa_nil)))))) (pe_call GB hr1 rfl T.s.l.below.g kB bB .nil pass0 (pa_cons (pv 0) (pa_cons pe_int pa_nil))) (fun _ _ => rfl)))
            (pss_one (ps_dput hu (pv 7) (pe_tup (pa_cons (pv 9) (pa_cons (pv 10) pa_nil))) (pe_tup (pa_cons (pe_call GB hr1 rfl T.s.l.below.g kB bB .nil pass0 (pa_cons (pv 0) (pa_cons (pe_callB call_len_seq (by rfl) T.s.l.len boot_len (pa_cons (pv 2) pa_nil)) pa_nil)))
              (pa_cons (pv 11) (pa_cons (pe_call GB hr1 rfl T.s.l.below.g kB bB .nil pass0 (pa_cons (pv 0) (pa_cons (pe_callB call_len_seq (by rfl) T.s.l.len boot_len (pa_cons (pv 3) pa_nil)) pa_nil))) pa_nil)))) rfl))) pss_nil)))))
      (pss_one (ps_ret (pe_tup (pa_cons (pv 2) (pa_cons (pv 3) (pa_cons (pe_callTy call_tuple_of (by rfl) T.s.l.tuple (by decide +kernel) (pa_cons (pv 5) pa_nil)) (pa_cons (pe_callTy call_tuple_of (by rfl) T.s.l.tuple (by decide +kernel) (pa_cons (pv 6) pa_nil)) (pa_cons (pv 7) pa_nil)))))))))))))), ?_⟩
    -- the signs
    refine ⟨_, rfl, (by show 5 ≤ sizeLine; decide), fun l0 nl0 => ?_⟩
    have d0 := (Drawn.refl hd).new (o := .lst [.str "no", .str "red", .str "blue", .str "longname", .str "x"]) nl0
    have hl0 := @upd_same H l0 (.lst [.str "no", .str "red", .str "blue", .str "longname", .str "x"])
    generalize upd H l0 (.lst [.str "no", .str "red", .str "blue", .str "longname", .str "x"]) = H1 at *
    refine ⟨d, l0, _, rfl, d0.at_, SqL.of hl0, by decide, fun r1 H2 ys1 hp1 dr1 nr1 hr1' => ?_⟩
    obtain ⟨bs1, pb1, rfl⟩ := perm_ex hp1 (base := sBase) (by kernel_rfl)
    have d2 := d0.trans dr1
    refine ⟨_, rfl, d, 4, rfl, d2.at_, by decide, by decide, fun r s c bs hrl hb => ?_⟩
    have hd1 : ∃ o, H d = some o := let ⟨_, _, _, _, e⟩ := hd; ⟨_, e⟩
    have ne_d : ∀ {Hx : Hp} {x : Addr}, DrawAt Hx d → Hx x = none → x ≠ d := fun ⟨_, _, _, _, q⟩ hx z => by rw [z, q] at hx; cases hx
    have d3 := d2.draw (s := s) (c := c) hb
    have r1d : r1 ≠ d := fun z => by
      obtain ⟨_, _, _, _, q⟩ := d0.at_
      rw [z, q] at nr1
      cases nr1
    have hr3 : (upd H2 d (drawL s c bs)) r1 = some (.lst (bs1.map sV)) := (upd_ne r1d).trans hr1'
    generalize upd H2 d (drawL s c bs) = H3 at *
    have l1 : bs1.length = 5 := pb1.length_eq
    have ec : cutV (bs1.map sV) none (some ((1 : Int) + (r : Int))) = (bs1.take (1 + r)).map sV := by
      have e : ((1 : Int) + (r : Int)) = ((1 + r : Nat) : Int) := by omega
      rw [e, cut_take (by rw [List.length_map]; omega), List.map_take]
    refine ⟨_, _, rfl, rfl, _, rfl, r1, _, rfl, SqL.of hr3, fun p1 np1 => ?_⟩
    rw [ec]
    have sN : NamesOk (bs1.take (1 + r)) := base_ok (by decide +kernel) (by decide +kernel) pb1 _
    have sl : (bs1.take (1 + r)).length = 1 + r := by rw [List.length_take]; omega
    have sIn : ∀ x ∈ bs1.take (1 + r), x ∈ sBase := fun x hx => pb1.mem_iff.mp (List.mem_of_mem_take hx)
    generalize bs1.take (1 + r) = signs at *
    have d4 := d3.new (o := .lst (signs.map sV)) np1
    have hp1' := @upd_same H3 p1 (.lst (signs.map sV))
    generalize upd H3 p1 (.lst (signs.map sV)) = H4 at *
    refine ⟨p1, _, rfl, SqL.of hp1', fun sa osa nsa oc od => ?_⟩
    have d5 := d4.new (o := .frz osa (.tup (signs.map sV))) nsa
    have hsa : TupN (upd H4 sa (.frz osa (.tup (signs.map sV)))) sa (signs.map sV) := ⟨osa, oc, od, upd_same⟩
    have sad : sa ≠ d := ne_d d4.at_ nsa
    generalize upd H4 sa (.frz osa (.tup (signs.map sV))) = H5 at *
    -- the moods
    refine ⟨_, rfl, (by show 7 ≤ sizeLine; decide), fun l2 nl2 => ?_⟩
    have d6 := d5.new (o := .lst [.str "go", .str "calm", .str "red", .str "b", .str "cc", .str "mmmmmmmm", .str "z"]) nl2
    have hl2 := @upd_same H5 l2 (.lst [.str "go", .str "calm", .str "red", .str "b", .str "cc", .str "mmmmmmmm", .str "z"])
    replace hsa := hsa.mono fun o z => sameUpd (o := .lst [.str "go", .str "calm", .str "red", .str "b", .str "cc", .str "mmmmmmmm", .str "z"]) (Same.refl H5) nl2 _ _ z
    generalize upd H5 l2 (.lst [.str "go", .str "calm", .str "red", .str "b", .str "cc", .str "mmmmmmmm", .str "z"]) = H6 at *
    refine ⟨d, l2, _, rfl, d6.at_, SqL.of hl2, by decide, fun r2 H7 ys2 hp2 dr2 nr2 hr2' => ?_⟩
    obtain ⟨bs2, pb2, rfl⟩ := perm_ex hp2 (base := mBase) (by kernel_rfl)
    have d7 := d6.trans dr2
    replace hsa := hsa.mono fun o z => dr2.same _ _ sad z
    have r2d : r2 ≠ d := ne_d d6.at_ nr2
    refine ⟨_, rfl, d, 3, rfl, d7.at_, by decide, by decide, fun q s2 c2 b2 hql hb2 => ?_⟩
    have d8 := d7.draw (s := s2) (c := c2) hb2
    replace hsa : TupN (upd H7 d (drawL s2 c2 b2)) sa (signs.map sV) := hsa.mono fun o z => (upd_ne sad).trans z
    have hr8 : (upd H7 d (drawL s2 c2 b2)) r2 = some (.lst (bs2.map sV)) := (upd_ne r2d).trans hr2'
    generalize upd H7 d (drawL s2 c2 b2) = H8 at *
    have l2' : bs2.length = 7 := pb2.length_eq
    have ec2 : cutV (bs2.map sV) none (some ((1 : Int) + (q : Int))) = (bs2.take (1 + q)).map sV := by
      have e : ((1 : Int) + (q : Int)) = ((1 + q : Nat) : Int) := by omega
      rw [e, cut_take (by rw [List.length_map]; omega), List.map_take]
    refine ⟨_, _, rfl, rfl, _, rfl, r2, _, rfl, SqL.of hr8, fun p2 np2 => ?_⟩
    rw [ec2]
    have mN : NamesOk (bs2.take (1 + q)) := base_ok (by decide +kernel) (by decide +kernel) pb2 _
    have ml : (bs2.take (1 + q)).length = 1 + q := by rw [List.length_take]; omega
    have mIn : ∀ x ∈ bs2.take (1 + q), x ∈ mBase := fun x hx => pb2.mem_iff.mp (List.mem_of_mem_take hx)
    generalize bs2.take (1 + q) = moods at *
    have d9 := d8.new (o := .lst (moods.map sV)) np2
    have hp2' := @upd_same H8 p2 (.lst (moods.map sV))
    replace hsa := hsa.mono fun o z => sameUpd (o := .lst (moods.map sV)) (Same.refl H8) np2 _ _ z
    generalize upd H8 p2 (.lst (moods.map sV)) = H9 at *
    refine ⟨p2, _, rfl, SqL.of hp2', fun ma oma nma mc md => ?_⟩
    have d10 := d9.new (o := .frz oma (.tup (moods.map sV))) nma
    have hma : TupN (upd H9 ma (.frz oma (.tup (moods.map sV)))) ma (moods.map sV) := ⟨oma, mc, md, upd_same⟩
    replace hsa := hsa.mono fun o z => sameUpd (o := .frz oma (.tup (moods.map sV))) (Same.refl H9) nma _ _ z
    have mad : ma ≠ d := ne_d d9.at_ nma
    generalize upd H9 ma (.frz oma (.tup (moods.map sV))) = H10 at *
    -- tiles, floor, robots, rules
    refine ⟨_, rfl, _, rfl, d, most, rfl, d10.at_, hm1, by omega, fun t0 s3 c3 b3 ht0 hb3 => ?_⟩
    have d11 := d10.draw (s := s3) (c := c3) hb3
    replace hsa : TupN (upd H10 d (drawL s3 c3 b3)) sa (signs.map sV) := hsa.mono fun o z => (upd_ne sad).trans z
    replace hma : TupN (upd H10 d (drawL s3 c3 b3)) ma (moods.map sV) := hma.mono fun o z => (upd_ne mad).trans z
    generalize upd H10 d (drawL s3 c3 b3) = H11 at *
    refine ⟨_, _, rfl, rfl, (by show 0 ≤ sizeLine; decide), fun fl nfl => ?_⟩
    have d12 := d11.new (o := .lst []) nfl
    have hfl := @upd_same H11 fl (.lst [])
    replace hsa := hsa.mono fun o z => sameUpd (o := .lst []) (Same.refl H11) nfl _ _ z
    replace hma := hma.mono fun o z => sameUpd (o := .lst []) (Same.refl H11) nfl _ _ z
    have fld : fl ≠ d := ne_d d11.at_ nfl
    have fl0 : H fl = none := d11.free hd1 nfl
    generalize upd H11 fl (.lst []) = H12 at *
    refine ⟨(by show 0 ≤ sizeLine; decide), fun rl nrl => ?_⟩
    have d13 := d12.new (o := .lst []) nrl
    have hrl' := @upd_same H12 rl (.lst [])
    have flrl : fl ≠ rl := ne_of_none hfl nrl
    replace hsa := hsa.mono fun o z => sameUpd (o := .lst []) (Same.refl H12) nrl _ _ z
    replace hma := hma.mono fun o z => sameUpd (o := .lst []) (Same.refl H12) nrl _ _ z
    replace hfl : (upd H12 rl (.lst [])) fl = some (.lst []) := (upd_ne flrl).trans hfl
    have rld : rl ≠ d := ne_d d12.at_ nrl
    have rl0 : H rl = none := d12.free hd1 nrl
    generalize upd H12 rl (.lst []) = H13 at *
    intro rd nrd
    have d14 := d13.new (o := .dT []) nrd
    have hrd := @upd_same H13 rd (.dT [])
    have flrd : fl ≠ rd := ne_of_none hfl nrd
    have rlrd : rl ≠ rd := ne_of_none hrl' nrd
    replace hsa := hsa.mono fun o z => sameUpd (o := .dT []) (Same.refl H13) nrd _ _ z
    replace hma := hma.mono fun o z => sameUpd (o := .dT []) (Same.refl H13) nrd _ _ z
    replace hfl : (upd H13 rd (.dT [])) fl = some (.lst []) := (upd_ne flrd).trans hfl
    replace hrl' : (upd H13 rd (.dT [])) rl = some (.lst []) := (upd_ne rlrd).trans hrl'
    have rdd : rd ≠ d := ne_d d13.at_ nrd
    have rd0 : H rd = none := d13.free hd1 nrd
    generalize upd H13 rd (.dT []) = H14 at *
    refine ⟨(by show 4 ≤ sizeLine; decide), fun tu ntu => ?_⟩
    have s15 := sameUpd (o := .tup [.int ((1 : Int) + (t0 : Int)), .ref fl, .ref rl, .ref rd]) (Same.refl H14) ntu
    have d15 := d14.new (o := .tup [.int ((1 : Int) + (t0 : Int)), .ref fl, .ref rl, .ref rd]) ntu
    replace hsa := hsa.mono fun o z => s15 _ _ z
    replace hma := hma.mono fun o z => s15 _ _ z
    replace hfl := s15 _ _ hfl
    replace hrl' := s15 _ _ hrl'
    replace hrd := s15 _ _ hrd
    refine ⟨tu, _, rfl, SqT.of upd_same, rfl, _, _, rfl, _, _, rfl, _, _, rfl, _, _, rfl, rfl, ?_⟩
    generalize upd H14 tu (.tup [.int ((1 : Int) + (t0 : Int)), .ref fl, .ref rl, .ref rd]) = Hb at *
    have sm0 : Same (cutH Hb [d, fl, rl, rd]) Hb := cutH_same
    -- what stands in all loops
    let St (Hx : Hp) : Prop := Same (cutH Hb [d, fl, rl, rd]) Hx ∧ DrawAt Hx d
    have drawS : ∀ {Hx : Hp} {s c : Int} {b : List Int}, St Hx → b.length ≤ 63 → St (upd Hx d (drawL s c b)) := fun h hb => ⟨cutS h.1 (by simp), ⟨_, _, _, hb, upd_same⟩⟩
    have sig : ∀ {Hx : Hp}, St Hx → TupN Hx sa (signs.map sV) := fun h => hsa.mono fun o z => h.1 _ _ (by
      rw [cutH_out]
      · exact z
      · simp only [List.mem_cons, List.not_mem_nil, or_false, not_or]
        exact ⟨sad, ne_of z hfl (by intro q; cases q), ne_of z hrl' (by intro q; cases q), ne_of z hrd (by intro q; cases q)⟩)
    have moo : ∀ {Hx : Hp}, St Hx → TupN Hx ma (moods.map sV) := fun h => hma.mono fun o z => h.1 _ _ (by
      rw [cutH_out]
      · exact z
      · simp only [List.mem_cons, List.not_mem_nil, or_false, not_or]
        exact ⟨mad, ne_of z hfl (by intro q; cases q), ne_of z hrl' (by intro q; cases q), ne_of z hrd (by intro q; cases q)⟩)
    refine ⟨_, rfl, ((1 + t0 : Nat) : Int), rfl, by omega, by omega, ?_⟩
    rw [Int.toNat_natCast]
    refine for_range (lo := 0) (n := 1 + t0) (fun i σ Hx => ∃ (o8 : Option V) (fs : List Nat), σ = [some (.ref d), some (.int most), some (.ref sa), some (.ref ma), some (.int (1 + t0 : Nat)), some (.ref fl), some (.ref rl), some (.ref rd), o8, none, none, none] ∧ St Hx ∧
      Hx fl = some (.lst (fs.map fun n : Nat => V.int n)) ∧ fs.length = i ∧ (∀ x ∈ fs, x < signs.length) ∧ Hx rl = some (.lst []) ∧ Hx rd = some (.dT [])) ⟨none, [], rfl, ⟨sm0, d15.at_⟩, hfl, rfl, by simp, hrl', hrd⟩ ?_ ?_
    · rintro i σ Hx hi ⟨o8, fs, rfl, hS, hfx, hfl2, hfs, hrx, hdx⟩
      have fin : ∀ (Hy : Hp) (v : Nat), v < signs.length → St Hy → Hy fl = some (.lst (fs.map fun n : Nat => V.int n)) → Hy rl = some (.lst []) → Hy rd = some (.dT []) →
          rAppend (.ref fl) [.int v] Hy (fun _ H1 => ∃ (o8 : Option V) (fs : List Nat), [some (V.ref d), some (.int most), some (.ref sa), some (.ref ma), some (.int (1 + t0 : Nat)), some (.ref fl), some (.ref rl), some (.ref rd), some (.int ((0 : Int) + (i : Nat))), none, none, none] = [some (.ref d), some (.int most), some (.ref sa), some (.ref ma), some (.int (1 + t0 : Nat)), some (.ref fl), some (.ref rl), some (.ref rd), o8, none, none, none] ∧ St H1 ∧
            H1 fl = some (.lst (fs.map fun n : Nat => V.int n)) ∧ fs.length = i + 1 ∧ (∀ x ∈ fs, x < signs.length) ∧ H1 rl = some (.lst []) ∧ H1 rd = some (.dT [])) := fun Hy v hv hy h1 h2 h3 => by
        refine ⟨fl, _, _, rfl, rfl, h1, by rw [List.length_map, sizeLine_eq]; omega, _, fs ++ [v], rfl, ⟨cutS hy.1 (by simp), ?_⟩, ?_, by simp [hfl2], ?_, (upd_ne (Ne.symm flrl)).trans h2, (upd_ne (Ne.symm flrd)).trans h3⟩
        · obtain ⟨a, b, c, l, e⟩ := hy.2
          exact ⟨a, b, c, l, (upd_ne (Ne.symm fld)).trans e⟩
        · rw [upd_same, List.map_append]
          rfl
        · intro x hx
          rcases List.mem_append.mp hx with z | z
          · exact hfs x z
          · rw [List.mem_singleton.mp z]
            exact hv
      refine ⟨_, rfl, .inl ⟨rfl, _, SqL.of hfx⟩, _, rfl, d, 3, rfl, hS.2, by decide, by decide, fun r s c b hr hb => ?_⟩
      refine ⟨rfl, _, rfl, ?_⟩
      refine ite2 (fun h => ?_) (fun h => ?_)
      · refine ⟨_, rfl, _, rfl, sa, _, rfl, .inr (sig (drawS hS hb)).sq, d, signs.length, by rw [List.length_map]; rfl, (drawS hS hb).2, by omega, by omega, fun r2 s2 c2 b2 hr2 hb2 => ?_⟩
        rw [upd_upd]
        exact fin _ r2 hr2 (drawS hS hb2) ((upd_ne fld).trans hfx) ((upd_ne rld).trans hrx) ((upd_ne rdd).trans hdx)
      · exact fin _ 0 (by omega) (drawS hS hb) ((upd_ne fld).trans hfx) ((upd_ne rld).trans hrx) ((upd_ne rdd).trans hdx)
    · rintro σ Hx ⟨o8, fs, rfl, hS, hfx, hfl2, hfs, hrx, hdx⟩
      -- the robots
      refine ⟨(by show 4 ≤ sizeLine; decide), fun l5 nl5 => ?_⟩
      have S5 : St (upd Hx l5 (.lst [.int 1, .int 1, .int 2, .int 3])) := ⟨cutN hS.1 nl5, let ⟨a, b, c, l, e⟩ := hS.2; ⟨a, b, c, l, sameUpd (Same.refl Hx) nl5 _ _ e⟩⟩
      have hl5 := @upd_same Hx l5 (.lst [.int 1, .int 1, .int 2, .int 3])
      have l5d : l5 ≠ d := ne_d hS.2 nl5
      have s5 := sameUpd (o := .lst [.int 1, .int 1, .int 2, .int 3]) (Same.refl Hx) nl5
      replace hfx := s5 _ _ hfx
      replace hrx := s5 _ _ hrx
      replace hdx := s5 _ _ hdx
      generalize upd Hx l5 (.lst [.int 1, .int 1, .int 2, .int 3]) = H5' at *
      refine ⟨_, rfl, d, 4, rfl, S5.2, by decide, by decide, fun r s c b hr hb => ?_⟩
      have S6 := drawS (s := s) (c := c) S5 hb
      have hl6 : (upd H5' d (drawL s c b)) l5 = some (.lst [.int 1, .int 1, .int 2, .int 3]) := (upd_ne l5d).trans hl5
      replace hfx : (upd H5' d (drawL s c b)) fl = _ := (upd_ne fld).trans hfx
      replace hrx : (upd H5' d (drawL s c b)) rl = _ := (upd_ne rld).trans hrx
      replace hdx : (upd H5' d (drawL s c b)) rd = _ := (upd_ne rdd).trans hdx
      generalize upd H5' d (drawL s c b) = H6' at *
      obtain ⟨nr, hnr, hnr1, hnr3⟩ : ∃ nr : Nat, ([V.int 1, .int 1, .int 2, .int 3])[r]? = some (.int nr) ∧ 1 ≤ nr ∧ nr ≤ 3 := by
        match r, hr with
        | 0, _ => exact ⟨1, rfl, by decide, by decide⟩
        | 1, _ => exact ⟨1, rfl, by decide, by decide⟩
        | 2, _ => exact ⟨2, rfl, by decide, by decide⟩
        | 3, _ => exact ⟨3, rfl, by decide, by decide⟩
      refine ⟨l5, _, _, _, rfl, rfl, SqL.of hl6, atI_nat hnr, (nr : Int), rfl, by omega, by omega, ?_⟩
      rw [Int.toNat_natCast]
      refine for_range (lo := 0) (n := nr) (fun i σ Hx => ∃ (o8 : Option V) (rs : List (Nat × Bool)) (ras : List Addr), σ = [some (.ref d), some (.int most), some (.ref sa), some (.ref ma), some (.int (1 + t0 : Nat)), some (.ref fl), some (.ref rl), some (.ref rd), o8, none, none, none] ∧ St Hx ∧
        Hx fl = some (.lst (fs.map fun n : Nat => V.int n)) ∧ Hx rl = some (.lst (ras.map V.ref)) ∧ Paired (RobAt Hx) ras rs ∧ rs.length = i ∧ (∀ x ∈ rs, x.1 < 1 + t0) ∧ Hx rd = some (.dT [])) ⟨o8, [], [], rfl, S6, hfx, hrx, .nil, rfl, by simp, hdx⟩ ?_ ?_
      · rintro i σ Hx2 hi ⟨o9, rs, ras, rfl, hS2, hf2, hr2, hpr2, hrl2, hrs2, hd2⟩
        refine ⟨_, rfl, .inl ⟨rfl, _, SqL.of hr2⟩, _, rfl, _, rfl, d, 1 + t0, rfl, hS2.2, by omega, by omega, fun t s c b ht hb => ?_⟩
        refine ⟨_, rfl, d, 2, rfl, (drawS hS2 hb).2, by decide, by decide, fun r3 s3 c3 b3 hr3 hb3 => ?_⟩
        rw [upd_upd]
        refine ⟨rfl, (by show 2 ≤ sizeLine; decide), fun tp ntp => ?_⟩
        have S3 := drawS (s := s3) (c := c3) hS2 hb3
        have hf3 : (upd Hx2 d (drawL s3 c3 b3)) fl = _ := (upd_ne fld).trans hf2
        have hr3' : (upd Hx2 d (drawL s3 c3 b3)) rl = _ := (upd_ne rld).trans hr2
        have hd3 : (upd Hx2 d (drawL s3 c3 b3)) rd = _ := (upd_ne rdd).trans hd2
        have hp3 : Paired (RobAt (upd Hx2 d (drawL s3 c3 b3))) ras rs := by
          obtain ⟨_, _, _, _, ed⟩ := hS2.2
          exact Paired.mapP hpr2 fun a q z => keepT ed (fun xs q => by cases q) _ _ z
        generalize upd Hx2 d (drawL s3 c3 b3) = H7' at *
        have s7 := sameUpd (o := .tup [.int t, .bl (decide (V.int (r3 : Nat) = V.int 0))]) (Same.refl H7') ntp
        have S4 : St (upd H7' tp (.tup [.int t, .bl (decide (V.int (r3 : Nat) = V.int 0))])) := ⟨cutN S3.1 ntp, let ⟨a, b, c, l, e⟩ := S3.2; ⟨a, b, c, l, s7 _ _ e⟩⟩
        have htp := @upd_same H7' tp (.tup [.int t, .bl (decide (V.int (r3 : Nat) = V.int 0))])
        replace hf3 := s7 _ _ hf3
        replace hr3' := s7 _ _ hr3'
        replace hd3 := s7 _ _ hd3
        replace hp3 : Paired (RobAt (upd H7' tp (.tup [.int t, .bl (decide (V.int (r3 : Nat) = V.int 0))]))) ras rs := Paired.mapP hp3 fun a q z => s7 _ _ z
        generalize upd H7' tp (.tup [.int t, .bl (decide (V.int (r3 : Nat) = V.int 0))]) = H8' at *
        refine ⟨rl, _, _, rfl, rfl, hr3', by rw [List.length_map, hp3.length, sizeLine_eq]; omega, ?_⟩
        have kt := keepT (o' := .lst (ras.map V.ref ++ [.ref tp])) hr3' (fun xs q => by cases q)
        refine ⟨_, rs ++ [(t, decide (V.int (r3 : Nat) = V.int 0))], ras ++ [tp], rfl, ⟨cutS S4.1 (by simp), ?_⟩, (upd_ne flrl).trans hf3, ?_, Paired_snoc (Paired.mapP hp3 fun a q z => kt _ _ z) (kt _ _ htp), by simp [hrl2], ?_, (upd_ne (Ne.symm rlrd)).trans hd3⟩
        · obtain ⟨a, b, c, l, e⟩ := S4.2
          exact ⟨a, b, c, l, (upd_ne (Ne.symm rld)).trans e⟩
        · rw [upd_same, List.map_append]
          rfl
        · intro x hx
          rcases List.mem_append.mp hx with z | z
          · exact hrs2 x z
          · rw [List.mem_singleton.mp z]
            exact ht
      · rintro σ Hx2 ⟨o9, rs, ras, rfl, hS2, hf2, hr2, hpr2, hrl2, hrs2, hd2⟩
        -- the rules
        refine ⟨_, rfl, ma, _, rfl, .inr (moo hS2).sq, _, rfl, by omega, by rw [List.length_map]; omega, ?_⟩
        rw [Int.toNat_natCast, List.length_map]
        let Ru (i j : Nat) (Hx : Hp) : Prop := ∃ (rules : List ((Nat × Nat) × Rule)) (kvs : List (List Key × V)), Hx rd = some (.dT kvs) ∧ Paired (RuleAt Hx) rules kvs ∧ SortedR rules ∧ (∀ kv ∈ rules, RuleOk signs.length moods.length kv ∧ (kv.1.1 < i ∨ (kv.1.1 = i ∧ kv.1.2 < j))) ∧ rules.length ≤ i * signs.length + j
        let Al (Hx : Hp) : Prop := St Hx ∧ Hx fl = some (.lst (fs.map fun n : Nat => V.int n)) ∧ Hx rl = some (.lst (ras.map V.ref)) ∧ Paired (RobAt Hx) ras rs
        have alDraw : ∀ {Hx : Hp} {s c : Int} {b : List Int} {i j : Nat}, Al Hx → Ru i j Hx → b.length ≤ 63 → Al (upd Hx d (drawL s c b)) ∧ Ru i j (upd Hx d (drawL s c b)) := fun {Hx s c b i j} h hr hb => by
          obtain ⟨_, _, _, _, ed⟩ := h.1.2
          have kt := keepT (o' := drawL s c b) ed (fun xs q => by cases q)
          obtain ⟨rules, kvs, r1, r2, r3⟩ := hr
          exact ⟨⟨drawS h.1 hb, (upd_ne fld).trans h.2.1, (upd_ne rld).trans h.2.2.1, Paired.mapP h.2.2.2 fun a q z => kt _ _ z⟩, ⟨rules, kvs, (upd_ne rdd).trans r1, Paired.mapP r2 fun a q z => z.mono kt, r3⟩⟩
        have alNew : ∀ {Hx : Hp} {x : Addr} {o : HO} {i j : Nat}, Al Hx → Ru i j Hx → Hx x = none → Al (upd Hx x o) ∧ Ru i j (upd Hx x o) := fun {Hx x o i j} h hr hx => by
          have sm := sameUpd (o := o) (Same.refl Hx) hx
          obtain ⟨rules, kvs, r1, r2, r3⟩ := hr
          exact ⟨⟨⟨cutN h.1.1 hx, let ⟨a, b, c, l, e⟩ := h.1.2; ⟨a, b, c, l, sm _ _ e⟩⟩, sm _ _ h.2.1, sm _ _ h.2.2.1, Paired.mapP h.2.2.2 fun a q z => sm _ _ z⟩, ⟨rules, kvs, sm _ _ r1, Paired.mapP r2 fun a q z => z.mono fun _ _ y => sm _ _ y, r3⟩⟩
        refine for_range (lo := 0) (n := moods.length) (fun i σ Hx => ∃ (o8 o9 o10 o11 : Option V), σ = [some (.ref d), some (.int most), some (.ref sa), some (.ref ma), some (.int (1 + t0 : Nat)), some (.ref fl), some (.ref rl), some (.ref rd), o8, o9, o10, o11] ∧ Al Hx ∧ Ru i 0 Hx)
          ⟨o9, none, none, none, rfl, ⟨hS2, hf2, hr2, hpr2⟩, [], [], hd2, .nil, List.Pairwise.nil, by simp, by simp⟩ ?_ ?_
        · rintro i σ Hx hi ⟨o8, o9, o10, o11, rfl, hA, hR⟩
          refine ⟨_, rfl, sa, _, rfl, .inr (sig hA.1).sq, _, rfl, by omega, by rw [List.length_map]; omega, ?_⟩
          rw [Int.toNat_natCast, List.length_map]
          refine for_range (lo := 0) (n := signs.length) (fun j σ Hx => ∃ (o10 o11 : Option V), σ = [some (.ref d), some (.int most), some (.ref sa), some (.ref ma), some (.int (1 + t0 : Nat)), some (.ref fl), some (.ref rl), some (.ref rd), o8, some (.int ((0 : Int) + (i : Nat))), o10, o11] ∧ Al Hx ∧ Ru i j Hx)
            ⟨o10, o11, rfl, hA, hR⟩ ?_ ?_
          · rintro j σ Hy hj ⟨p10, p11, rfl, hA, hR⟩
            have weak : ∀ {Hz : Hp}, Ru i j Hz → Ru i (j + 1) Hz := fun ⟨rules, kvs, r1, r2, r3, r4, r5⟩ => ⟨rules, kvs, r1, r2, r3, fun kv hk => ⟨(r4 kv hk).1, (r4 kv hk).2.elim .inl fun z => .inr ⟨z.1, by omega⟩⟩, by omega⟩
            refine ⟨_, rfl, d, 9, rfl, hA.1.2, by decide, by decide, fun r s c b hr hb => ?_⟩
            obtain ⟨hA1, hR1⟩ := alDraw (s := s) (c := c) hA hR hb
            generalize upd Hy d (drawL s c b) = H1' at *
            refine ⟨_, _, rfl, rfl, _, rfl, ?_⟩
            refine ite2 (fun h => ?_) (fun h => ?_)
            · refine ⟨(by show 5 ≤ sizeLine; decide), fun lm nlm => ?_⟩
              obtain ⟨hA2, hR2⟩ := alNew (o := .lst [.str "on", .str "on", .str "on", .str "back", .str "stay"]) hA1 hR1 nlm
              have hlm := @upd_same H1' lm (.lst [.str "on", .str "on", .str "on", .str "back", .str "stay"])
              have lmd : lm ≠ d := ne_d hA1.1.2 nlm
              generalize upd H1' lm (.lst [.str "on", .str "on", .str "on", .str "back", .str "stay"]) = H2' at *
              refine ⟨_, rfl, d, 5, rfl, hA2.1.2, by decide, by decide, fun r s c b hr hb => ?_⟩
              obtain ⟨hA3, hR3⟩ := alDraw (s := s) (c := c) hA2 hR2 hb
              have hlm3 : (upd H2' d (drawL s c b)) lm = _ := (upd_ne lmd).trans hlm
              generalize upd H2' d (drawL s c b) = H3' at *
              obtain ⟨mv, hmv, hmm⟩ : ∃ mv : Cs, ([V.str "on", .str "on", .str "on", .str "back", .str "stay"])[r]? = some (sV mv) ∧ mv ∈ moves := by
                match r, hr with
                | 0, _ => exact ⟨wOn, by kernel_rfl, by decide⟩
                | 1, _ => exact ⟨wOn, by kernel_rfl, by decide⟩
                | 2, _ => exact ⟨wOn, by kernel_rfl, by decide⟩
                | 3, _ => exact ⟨wBack, by kernel_rfl, by decide⟩
                | 4, _ => exact ⟨wStay, by kernel_rfl, by decide⟩
              refine ⟨lm, _, _, _, rfl, rfl, SqL.of hlm3, atI_nat hmv, ?_⟩
              refine ⟨_, rfl, _, rfl, sa, _, rfl, .inr (sig hA3.1).sq, d, signs.length, by rw [List.length_map]; rfl, hA3.1.2, by omega, by omega, fun lf s c b hlf hb => ?_⟩
              obtain ⟨hA4, hR4⟩ := alDraw (s := s) (c := c) hA3 hR3 hb
              generalize upd H3' d (drawL s c b) = H4' at *
              refine ⟨_, rfl, _, rfl, _, rfl, ma, _, rfl, .inr (moo hA4.1).sq, d, moods.length, by rw [List.length_map]; rfl, hA4.1.2, by omega, by omega, fun la s c b hla hb => ?_⟩
              obtain ⟨hA5, hR5⟩ := alDraw (s := s) (c := c) hA4 hR4 hb
              generalize upd H4' d (drawL s c b) = H5'' at *
              refine ⟨(by show 3 ≤ sizeLine; decide), fun tv ntv => ?_⟩
              obtain ⟨hA6, hR6⟩ := alNew (o := .tup [.int lf, sV mv, .int la]) hA5 hR5 ntv
              have htv := @upd_same H5'' tv (.tup [.int lf, sV mv, .int la])
              generalize upd H5'' tv (.tup [.int lf, sV mv, .int la]) = H6'' at *
              refine ⟨_, rfl, _, rfl, _, rfl, (by show 2 ≤ sizeLine; decide), fun tk ntk => ?_⟩
              have e0 : ∀ n : Nat, (0 : Int) + (n : Int) = (n : Int) := fun n => by omega
              have s7 := sameUpd (o := .tup [.int ((0 : Int) + (i : Nat)), .int ((0 : Int) + (j : Nat))]) (Same.refl H6'') ntk
              obtain ⟨hA7, hR7⟩ := alNew (o := .tup [.int ((0 : Int) + (i : Nat)), .int ((0 : Int) + (j : Nat))]) hA6 hR6 ntk
              have htk : (upd H6'' tk (.tup [.int ((0 : Int) + (i : Nat)), .int ((0 : Int) + (j : Nat))])) tk = some (.tup ((keyT (i, j)).map kV)) := by
                rw [upd_same, e0, e0]
                rfl
              have htv7 := s7 _ _ htv
              generalize upd H6'' tk (.tup [.int ((0 : Int) + (i : Nat)), .int ((0 : Int) + (j : Nat))]) = H7'' at *
              obtain ⟨rules, kvs, r1, r2, r3, r4, r5⟩ := hR7
              have hlen : rules.length ≤ 100 := by
                have : i * signs.length ≤ 3 * 4 := Nat.mul_le_mul (by omega) (by omega)
                omega
              refine ⟨rd, _, rfl, DPut.t (k := keyT (i, j)) r1 htk (by rw [← r2.length, sizeLine_eq]; omega), ?_⟩
              have hno : ∀ q ∈ rules, q.1 ≠ (i, j) := fun q hq z => by
                have := (r4 q hq).2
                rw [z] at this
                simp only at this
                omega
              have z1 := rules_put (k := (i, j)) (r := ⟨lf, mv, la⟩) htv7 r2
              rw [putA_new hno] at z1
              have kt := keepT (o' := .dT (putK kvs (keyT (i, j)) (.ref tv))) r1 (fun xs q => by cases q)
              refine ⟨_, _, rfl, ⟨⟨cutS hA7.1.1 (by simp), ?_⟩, (upd_ne flrd).trans hA7.2.1, (upd_ne rlrd).trans hA7.2.2.1, Paired.mapP hA7.2.2.2 fun a q z => kt _ _ z⟩, rules ++ [((i, j), ⟨lf, mv, la⟩)], _, upd_same, Paired.mapP z1 fun r kv q => q.mono kt, ?_, ?_, by simp; omega⟩
              · obtain ⟨a, b, c, l, e⟩ := hA7.1.2
                exact ⟨a, b, c, l, (upd_ne (Ne.symm rdd)).trans e⟩
              · unfold SortedR
                rw [List.map_append, List.pairwise_append]
                refine ⟨r3, List.pairwise_singleton _ _, fun a ha b hb => ?_⟩
                obtain ⟨q, hq, rfl⟩ := List.mem_map.mp ha
                rw [List.map_singleton, List.mem_singleton] at hb
                rw [hb]
                have := (r4 q hq).2
                simp only
                omega
              · intro kv hkv
                rcases List.mem_append.mp hkv with z | z
                · exact ⟨(r4 kv z).1, (r4 kv z).2.elim .inl fun y => .inr ⟨y.1, by omega⟩⟩
                · rw [List.mem_singleton.mp z]
                  exact ⟨⟨hi, hj, hlf, hla, hmm⟩, .inr ⟨rfl, Nat.lt_succ_self _⟩⟩
            · exact ⟨_, _, rfl, hA1, weak hR1⟩
          · rintro σ Hy ⟨p10, p11, rfl, hA, rules, kvs, r1, r2, r3, r4, r5⟩
            refine ⟨_, _, _, _, rfl, hA, rules, kvs, r1, r2, r3, fun kv hk => ⟨(r4 kv hk).1, .inl ?_⟩, ?_⟩
            · have := (r4 kv hk).2
              omega
            · rw [Nat.add_mul]
              omega
        · rintro σ Hx ⟨o8, o9, o10, o11, rfl, hA, rules, kvs, r1, r2, r3, r4, r5⟩
          have keepH : ∀ {b : Addr} {o : HO}, H b = some o → b ≠ d → Hx b = some o := fun {b o} e hb => by
            refine hA.1.1 _ _ ?_
            rw [cutH_out]
            · exact d15.same _ _ hb e
            · simp only [List.mem_cons, List.not_mem_nil, or_false, not_or]
              exact ⟨hb, ne_of_none e fl0, ne_of_none e rl0, ne_of_none e rd0⟩
          refine ⟨_, rfl, _, rfl, _, rfl, fl, _, rfl, .inl ⟨SqL.of hA.2.1, fun fa nfa => ?_⟩⟩
          have sA := sameUpd (o := .tup (fs.map fun n : Nat => V.int n)) (Same.refl Hx) nfa
          refine ⟨_, rfl, rl, _, rfl, .inl ⟨SqL.of (sA _ _ hA.2.2.1), fun ra nra => ?_⟩⟩
          have sB := sameUpd (o := .tup (ras.map V.ref)) (Same.refl (upd Hx fa (.tup (fs.map fun n : Nat => V.int n)))) nra
          have sAB := sA.trans sB
          refine ⟨_, rfl, (by show 5 ≤ sizeLine; decide), fun res nres => ?_⟩
          have sC := sameUpd (o := .tup [.ref sa, .ref ma, .ref fa, .ref ra, .ref rd]) (Same.refl (upd (upd Hx fa (.tup (fs.map fun n : Nat => V.int n))) ra (.tup (ras.map V.ref)))) nres
          have sT := sAB.trans sC
          have hfin : PlanV _ res ⟨signs, moods, fs, rs, rules⟩ := ⟨sa, ma, fa, ra, rd, ras, upd_same, (sig hA.1).mono fun o z => sT _ _ z, (moo hA.1).mono fun o z => sT _ _ z, sC _ _ (sB _ _ upd_same), sC _ _ upd_same,
            Paired.mapP hA.2.2.2 fun a q z => sT _ _ z, kvs, sT _ _ r1, Paired.mapP r2 fun a q z => z.mono fun _ _ y => sT _ _ y⟩
          refine k res _ ⟨signs, moods, fs, rs, rules⟩ ⟨fun b o hb e => sT _ _ (keepH e hb), ?_⟩ ?_ ?_ ?_ r3 ?_ hfin
          · obtain ⟨a, b, c, l, e⟩ := hA.1.2
            exact ⟨a, b, c, l, sT _ _ e⟩
          · refine ⟨sN, mN, ?_, ?_, ?_, ?_, ?_, ?_, hfs, ?_, ?_, ?_, ?_, fun kv hk => (r4 kv hk).1⟩
            · intro z
              have z' : signs = [] := z
              rw [z'] at sl
              simp at sl
              omega
            · show signs.length ≤ 4
              omega
            · intro z
              have z' : moods = [] := z
              rw [z'] at ml
              simp at ml
              omega
            · show moods.length ≤ 6
              omega
            · show 1 ≤ fs.length
              omega
            · show fs.length ≤ 16
              omega
            · intro z
              have z' : rs = [] := z
              rw [z'] at hrl2
              simp at hrl2
              omega
            · show rs.length ≤ 3
              omega
            · intro r hr
              have := hrs2 r hr
              show r.1 < fs.length
              omega
            · refine List.Pairwise.imp ?_ r3
              intro a b hab z
              rw [z] at hab
              omega
          · show fs.length ≤ most
            omega
          · refine ⟨?_, sIn, mIn⟩
            show moods.length ≤ 3
            omega
          · cases e : H res with
            | none => rfl
            | some o =>
              exfalso
              by_cases hb : res = d
              · obtain ⟨_, _, _, _, q⟩ := hA.1.2
                have := sAB _ _ q
                rw [← hb, nres] at this
                cases this
              · have := sAB _ _ (keepH e hb)
                rw [nres] at this
                cases this
end
end Sw

end

section
set_option maxRecDepth 100000
set_option maxHeartbeats 4000000
/-! sorted(d) of a dict whose keys are pairs of ints -/
namespace Sw
open PySem PySem.Spec PyProof.Rows L2 SwA
def PairAt (H : Hp) (b : Addr) (k : Nat × Nat) : Prop := H b = some (.tup [.int k.1, .int k.2])
def LeP (a b : Nat × Nat) : Prop := a.1 < b.1 ∨ (a.1 = b.1 ∧ a.2 ≤ b.2)
def rSortedDT : List V → Hp → VK → Prop := fun vs H Q => ∃ (d : Addr) (kvs : List (List Key × V)) (ks : List (Nat × Nat)), vs = [.ref d] ∧ Rd H d (.dT kvs) ∧ kvs.map (·.1) = ks.map keyT ∧
  ∀ (ys : List (Nat × Nat)) (bs : List Addr) (p : Addr), ys.Perm ks → ys.Pairwise LeP → Paired (PairAt H) bs ys → H p = none → Q (.ref p) (upd H p (.lst (bs.map V.ref)))
/-- what a value is to the order -/
def kOf (H : Hp) : Value → Int × Int
  | .ref t => match H t with
    | some (.tup [.int i, .int j]) => (i, j)
    | _ => (0, 0)
  | _ => (0, 0)
theorem kOf_at {H : Hp} {b : Addr} {k : Nat × Nat} (h : PairAt H b k) : kOf H (Value.ref b) = ((k.1 : Int), (k.2 : Int)) := by
  simp only [kOf, show H b = some (.tup [.int k.1, .int k.2]) from h]
theorem pairedL {α β : Type} {R : α → β → Prop} : ∀ {xs : List α} {ys : List β}, Paired R xs ys → ∀ {j : Nat} {x : α}, xs[j]? = some x → ∃ y, ys[j]? = some y ∧ R x y
  | _, _, .nil, _, _, h => by cases h
  | _, _, .cons r t, 0, _, h => by cases h; exact ⟨_, rfl, r⟩
  | _, _, .cons r t, j + 1, _, h => pairedL t (j := j) (by simpa using h)
theorem pairedR {α β : Type} {R : α → β → Prop} : ∀ {xs : List α} {ys : List β}, Paired R xs ys → ∀ {j : Nat} {y : β}, ys[j]? = some y → ∃ x, xs[j]? = some x ∧ R x y
  | _, _, .nil, _, _, h => by cases h
  | _, _, .cons r t, 0, _, h => by cases h; exact ⟨_, rfl, r⟩
  | _, _, .cons r t, j + 1, _, h => pairedR t (j := j) (by simpa using h)
theorem isKeys_pairs {H : Hp} : ∀ {kvs : List (List Key × V)} {bs : List Addr} {ks : List (Nat × Nat)}, IsKeys H kvs bs → kvs.map (·.1) = ks.map keyT → Paired (PairAt H) bs ks
  | _, _, [], .nil, _ => .nil
  | _, _, [], .cons _ _, e => by cases e
  | _, _, k :: ks, .nil, e => by cases e
  | _, _, k :: ks, .cons h t, e => by
    rw [List.map_cons, List.map_cons] at e
    injection e with e1 e2
    refine .cons ?_ (isKeys_pairs t e2)
    unfold PairAt
    rw [h, e1]
    rfl
theorem paired_perm {α β : Type} {R : α → β → Prop} {xs xs' : List α} (hp : xs'.Perm xs) : ∀ {ys : List β}, Paired R xs ys → ∃ ys', ys'.Perm ys ∧ Paired R xs' ys' := by
  induction hp with
  | nil => intro ys h; exact ⟨ys, .refl _, h⟩
  | @cons x l1 l2 _ ih =>
    intro ys h
    cases h with
    | cons r t =>
      obtain ⟨ys', p, q⟩ := ih t
      exact ⟨_ :: ys', p.cons _, .cons r q⟩
  | @swap x y l =>
    intro ys h
    cases h with
    | cons r t =>
      cases t with
      | cons r2 t2 => exact ⟨_, .swap _ _ _, .cons r2 (.cons r t2)⟩
  | @trans l1 l2 l3 _ _ ih1 ih2 =>
    intro ys h
    obtain ⟨y2, p2, q2⟩ := ih2 h
    obtain ⟨y1, p1, q1⟩ := ih1 q2
    exact ⟨y1, p1.trans p2, q1⟩
theorem pairs_sorted {H : Hp} : ∀ {bs : List Addr} {ys : List (Nat × Nat)}, Paired (PairAt H) bs ys → SrtO.Srtd (fun v u => SrtO.lexB (kOf H v) (kOf H u)) (bs.map Value.ref) → ys.Pairwise LeP
  | [], [], _, _ => .nil
  | b :: bs, y :: ys, .cons h t, hs => by
    obtain ⟨h1, h2⟩ := List.pairwise_cons.mp hs
    refine .cons (fun z hz => ?_) (pairs_sorted t h2)
    obtain ⟨j, hj⟩ := List.getElem?_of_mem hz
    obtain ⟨b2, hb2, hP⟩ := pairedR t hj
    have h3 := h1 (Value.ref b2) (List.mem_map.mpr ⟨b2, List.mem_of_getElem? hb2, rfl⟩)
    have e1 := kOf_at h
    have e2 := kOf_at hP
    simp only [e1, e2] at h3
    have h4 := SrtO.lexB_no.mp h3
    simp only at h4
    unfold LeP
    omega
theorem cr_sortedDT {X : Cx} (hc : X.calm = true) : CallR X (.builtin "sorted") rSortedDT := by
  intro pins s σ H xs us Q I r h
  obtain ⟨d, kvs, kks, rfl, hd, hkk, q⟩ := h
  obtain ⟨u, rfl, rx⟩ := r.one
  cases rx
  obtain ⟨z, hs, ks, pr, o, es, ep, ho, hx, hdt, he, hn⟩ := (show ObjOk X.prog X.w H s.heap d (.dT kvs) from hd.ok I.hok)
  have l1 : es.size = ks.length := size_of_entries he
  have l2 : kvs.length = ks.length := Paired.length pr
  refine Calls.call_function_entry PyProof.Rows.kind_sorted PyProof.Rows.plain_sorted PyProof.Rows.entry_sorted (PyProof.Rows.args_sorted1 _) ?_
  unfold Builtin.«sorted»
  refine wpAny_bind (m := checkCount "sorted" 1 1 _) (wpAny_pure ?_)
  refine wpAny_bind (PySem.W.kdu_collect (A := X.A.in1) (kdl_raw hs hx hdt) (I.ok.hd hc) ho (by omega) fun h' tk acc hk it => ?_)
  have ea : acc.toList = ks.map fun x => Value.ref x.2.1 := by
    have hl : acc.toList.length = ks.length := by rw [Array.length_toList, it.1]; exact l1
    apply List.ext_getElem?
    intro j
    rw [List.getElem?_map]
    cases hj : acc.toList[j]? with
    | none =>
      have h1 := List.getElem?_eq_none_iff.mp hj
      rw [List.getElem?_eq_none (by omega)]
      all_goals rfl
    | some v =>
      obtain ⟨en, hen, hv⟩ := it.2 j v (by rw [← Array.getElem?_toList]; exact hj)
      have qe := entry_at he j
      rw [hen] at qe
      cases hb : ks[j]? with
      | none =>
        rw [hb] at qe
        exact nomatch (show some en = none from qe)
      | some b =>
        rw [hb] at qe
        have e2 : en = entryOfKey (tupleKind (mixKind X.prog X.w)) b := Option.some.inj qe
        rw [hv, e2]
        all_goals rfl
  have eb : acc.toList = (ks.map fun x => x.2.1).map Value.ref := by rw [ea, List.map_map]; all_goals rfl
  have hP := isKeys_pairs (isKeys_of pr) hkk
  generalize (ks.map fun x => x.2.1) = bs0 at eb hP
  have hbl : bs0.length = ks.length := by
    have e := congrArg List.length eb
    rw [List.length_map, Array.length_toList, it.1] at e
    omega
  rw [eb]
  have hzz : (bs0.map Value.ref).length ≤ sizeLine := by rw [List.length_map]; omega
  have I1 : Inv X pins σ H { s with heap := h', toks := tk } := I.kept hk
  refine wpAny_bind (wpAny_newList ?_ hzz)
  have hoL : (h'.push (seqObj "list" (bs0.map Value.ref).toArray 0)).get? h'.objs.size = some (seqObj "list" (bs0.map Value.ref).toArray 0) := Heap.get?_push_size _ rfl
  show wpAny _ _ _ _ _ { s with heap := h'.push (seqObj "list" (bs0.map Value.ref).toArray 0), toks := tk }
  refine wpAny_bind (wpAny_holding (wpAny_call_entry PyProof.Rows.slot_list_sort ⟨_, hoL, rfl⟩ PyProof.Rows.entry_list_sort
    (SrtO.list_sort_ord (s := { s with heap := h'.push (seqObj "list" (bs0.map Value.ref).toArray 0), toks := tk }) (SrtO.swo_lex (kOf H)) hoL hzz (fun h2 => SrtO.pairs_sortableO (by omega) (fun v hv => ?_) (fun o e => ?_)) fun out hs2 hb2 => ⟨_, rfl, ?_⟩)
    (PyProof.Rows.args_list_sort _)))
  · obtain ⟨b, hb, rfl⟩ := List.mem_map.mp hv
    obtain ⟨j, hj⟩ := List.getElem?_of_mem hb
    obtain ⟨k, _, hk2⟩ := pairedL hP hj
    have e1 := kOf_at hk2
    rw [e1]
    obtain ⟨_, its2, r2, o2, ho2, hc2, n2, hd2⟩ := I1.hok _ _ hk2
    obtain ⟨u1, u2, rfl, ri, rj⟩ := vals2 r2
    obtain ⟨t1, rfl⟩ := ri
    obtain ⟨t2, rfl⟩ := rj
    exact ⟨b, o2, t1, t2, n2, rfl, Heap.get?_push_of_some _ ho2, hc2, hd2⟩
  · have e' : some o = some (seqObj "list" (bs0.map Value.ref).toArray 0) := e.symm.trans hoL
    cases e'
    intro c
    exact absurd (Value.type.inj c) (by decide)
  · obtain ⟨e', he'⟩ := PyProof.Rows.sortedHeap_at (vs := bs0.map Value.ref) (out := out.toArray) hoL
    have h3 : ∀ u ∈ out, ∃ a, u = Value.ref a := fun u hu => by
      obtain ⟨b, _, e⟩ := List.mem_map.mp (hb2.perm.mem_iff.mp hu)
      exact ⟨b, e.symm⟩
    obtain ⟨bs, rfl⟩ : ∃ bs : List Addr, out = bs.map Value.ref := by
      clear hs2 hb2 he'
      induction out with
      | nil => exact ⟨[], rfl⟩
      | cons u out ih =>
        obtain ⟨a, rfl⟩ := h3 u List.mem_cons_self
        obtain ⟨bs, rfl⟩ := ih fun v hv => h3 v (List.mem_cons_of_mem _ hv)
        exact ⟨a :: bs, rfl⟩
    have hperm : bs.Perm bs0 := by
      have := hb2.perm.map (fun v : Value => match v with | .ref a => a | _ => 0)
      simpa [List.map_map, Function.comp_def] using this
    obtain ⟨ys, hyp, hyP⟩ := paired_perm hperm hP
    have hlen : (bs.map V.ref).length ≤ sizeLine := by
      rw [List.length_map, hperm.length_eq]
      omega
    refine wpAny_pure ⟨_, rfl, .ref h'.objs.size, upd H h'.objs.size (.lst (bs.map V.ref)), I1.laid (t' := tk) (fun b u e => ?_) (Nat.le_refl _)
      (show ObjOk X.prog X.w _ _ _ (.lst (bs.map V.ref)) from ⟨hlen, bs.map Value.ref, e', vals_refs _, he'⟩), rfl, q ys bs _ hyp (pairs_sorted hyP hs2) hyP (I1.hok.fresh (Nat.le_refl _))⟩
    have hb : b < h'.objs.size := Heap.lt_size e
    rw [PyProof.Rows.sortedHeap_old (Nat.ne_of_lt hb) (by rw [size_push']; exact Nat.lt_succ_of_lt hb)]
    exact Heap.get?_push_of_some _ e
end Sw

end

section
set_option maxRecDepth 100000
set_option maxHeartbeats 4000000
/-! the law's own: the lines of a plan -/
namespace Sw
open PySem PySem.Spec PyProof.Rows L2 SwA
theorem sx_app (a b : Cs) : sx a ++ sx b = sx (a ++ b) := by
  have e : (sx a).cps ++ (sx b).cps = (sx (a ++ b)).cps := by simp [sx]
  exact congrArg Str.mk e
theorem sx_len (a : Cs) : (sx a).length = a.length := by simp [sx, Str.length]
theorem words_join : ∀ ws : List Cs, wordsOf ws = TL.joinL [32] ws
  | [] => rfl
  | [w] => rfl
  | w :: v :: r => by
    show w ++ 32 :: wordsOf (v :: r) = w ++ ([32] ++ TL.joinL [32] (v :: r))
    rw [words_join (v :: r)]
    rfl
theorem join_sx (a : Cs) (ys : List Cs) : Txt.join (sx a) (ys.map sx) = sx (TL.joinL a ys) := SX.join_S a ys
theorem str_dec {n : Nat} (h : n < 100) : (toString (n : Int) : Str) = sx (dec n) := by
  have : ∀ m < 100, (toString ((m : Nat) : Int) : Str) = sx (dec m) := by decide +kernel
  exact this n h
theorem log_small {n : Nat} (h : n < 100) : ((n : Nat) : Int).natAbs.log2 < 1920 := by
  rw [Int.natAbs_natCast]
  by_cases h0 : n = 0
  · subst h0; decide
  · have : n.log2 < 7 := (Nat.log2_lt h0).mpr (by omega)
    omega
theorem joinL_len (S : Cs) : ∀ ws : List Cs, (TL.joinL S ws).length ≤ (ws.map (·.length)).sum + ws.length * S.length
  | [] => by simp [TL.joinL]
  | [w] => by simp [TL.joinL]
  | w :: v :: r => by
    have ih := joinL_len S (v :: r)
    show (w ++ (S ++ TL.joinL S (v :: r))).length ≤ _
    rw [List.length_append, List.length_append]
    rw [List.map_cons, List.sum_cons, List.length_cons (a := w), Nat.add_mul, Nat.one_mul]
    omega
theorem sum_le {ws : List Cs} {b : Nat} (h : ∀ w ∈ ws, w.length ≤ b) : (ws.map (·.length)).sum ≤ ws.length * b := by
  induction ws with
  | nil => simp
  | cons w r ih =>
    have h1 := h w List.mem_cons_self
    have h2 := ih fun v hv => h v (List.mem_cons_of_mem _ hv)
    rw [List.map_cons, List.sum_cons, List.length_cons, Nat.add_mul, Nat.one_mul]
    omega
theorem lens_sx (ws : List Cs) : ((ws.map sx).map (·.length)) = ws.map (·.length) := by
  rw [List.map_map]
  exact List.map_congr_left fun w _ => sx_len w
theorem names_len {ws : List Cs} (h : NamesOk ws) : ∀ w ∈ ws, w.length ≤ 8 := fun w hw => (h.ok w hw).1.2.2
theorem dec_len (n : Nat) : (dec n).length ≤ 2 := by unfold dec; split <;> simp
abbrev lnV (ws : List Cs) : V := sV (lineOf ws)
theorem map_sV (ws : List Cs) : ws.map sV = (ws.map sx).map V.str := by rw [List.map_map]; rfl
theorem lenS {a b : Cs} (hl : a.length + b.length ≤ 10000) : (sx a).length + (sx b).length ≤ sizeLine := by rw [sx_len, sx_len, sizeLine_eq]; omega
theorem lenJ {a : Cs} {ys : List Cs} (hl : (ys.map (·.length)).sum + ys.length * a.length ≤ 100000) : ((ys.map sx).map (·.length)).sum + (ys.map sx).length * (sx a).length ≤ 16777216 := by rw [lens_sx, List.length_map, sx_len]; omega
theorem sqJ {K : PySem.W.Frag} {H : Hp} {p : Addr} {ys : List Cs} (h : SqL K H p (ys.map sV) ∨ SqT K H p (ys.map sV)) : SqL K H p ((ys.map sx).map V.str) ∨ SqT K H p ((ys.map sx).map V.str) := by rw [← map_sV]; exact h
theorem LeP.antisymm {a b : Nat × Nat} (h1 : LeP a b) (h2 : LeP b a) : a = b := by
  unfold LeP at h1 h2
  exact Prod.ext (by omega) (by omega)
theorem perm_sorted : ∀ {ys ks : List (Nat × Nat)}, ys.Perm ks → ys.Pairwise LeP → ks.Pairwise LeP → ys = ks
  | [], ks, hp, _, _ => (List.nil_perm.mp hp).symm
  | y :: ys, [], hp, _, _ => absurd (List.perm_nil.mp hp) (by simp)
  | y :: ys, k :: ks, hp, h1, h2 => by
    obtain ⟨a1, a2⟩ := List.pairwise_cons.mp h1
    obtain ⟨b1, b2⟩ := List.pairwise_cons.mp h2
    have e : y = k := by
      rcases List.mem_cons.mp (hp.mem_iff.mp List.mem_cons_self) with z | z
      · exact z
      · rcases List.mem_cons.mp (hp.mem_iff.mpr (List.mem_cons_self (a := k) (l := ks))) with q | q
        · exact q.symm
        · exact LeP.antisymm (a1 k q) (b1 y z)
    subst e
    rw [perm_sorted (hp.cons_inv) a2 b2]
theorem SortedR.le {rules : List ((Nat × Nat) × Rule)} (h : SortedR rules) : (rules.map (·.1)).Pairwise LeP := List.Pairwise.imp (fun {a b} q => by unfold LeP; omega) h
theorem head_lines {n : Nat} {signs moods : List Cs} (h1 : signs ≠ []) (h2 : moods ≠ []) :
    [V.str (sx (wCorridor ++ [32] ++ dec n ++ [59])), V.str (sx (wSigns ++ [32] ++ TL.joinL [32] signs ++ [59])), V.str (sx (wMoods ++ [32] ++ TL.joinL [32] moods ++ [59]))] = (headW n signs moods).map lnV := by
  obtain ⟨s0, sr, rfl⟩ := List.exists_cons_of_ne_nil h1
  obtain ⟨m0, mr, rfl⟩ := List.exists_cons_of_ne_nil h2
  show _ = [lnV [wCorridor, dec n], lnV (wSigns :: s0 :: sr), lnV (wMoods :: m0 :: mr)]
  unfold lnV lineOf
  rw [words_join, words_join, words_join]
  simp [TL.joinL]
theorem put_range {floor : List Nat} {i : Nat} : (List.range (i + 1)).filterMap (fun t => if 0 < floor.getD t 0 then some (t, floor.getD t 0) else none) = (List.range i).filterMap (fun t => if 0 < floor.getD t 0 then some (t, floor.getD t 0) else none) ++ (if 0 < floor.getD i 0 then [(i, floor.getD i 0)] else []) := by
  rw [List.range_succ, List.filterMap_append]
  congr 1
  by_cases h : 0 < floor.getD i 0
  · simp only [List.filterMap_cons, List.filterMap_nil, if_pos h]
  · simp only [List.filterMap_cons, List.filterMap_nil, if_neg h]
theorem snoc_ln {A B : List (List Cs)} {x : List Cs} {v : V} (h : lnV x = v) : (A ++ B).map lnV ++ [v] = (A ++ (B ++ [x])).map lnV := by
  rw [← h]
  simp
theorem snoc_lf {α : Type} {A : List (List Cs)} {L : List α} {f : α → List Cs} {q : α} {v : V} (h : lnV (f q) = v) : (A ++ L.map f).map lnV ++ [v] = (A ++ (L ++ [q]).map f).map lnV := by
  rw [← h]
  simp
theorem inc_len {n : Nat} : ∀ {l : List Nat} {lo : Nat}, l.Pairwise (· < ·) → (∀ x ∈ l, lo ≤ x ∧ x < n) → l.length ≤ n - lo
  | [], _, _, _ => Nat.zero_le _
  | x :: r, lo, hp, h => by
    obtain ⟨h1, h2⟩ := List.pairwise_cons.mp hp
    have hx := h x List.mem_cons_self
    have ih := inc_len (lo := x + 1) h2 fun y hy => ⟨h1 y hy, (h y (List.mem_cons_of_mem _ hy)).2⟩
    rw [List.length_cons]
    omega
theorem rules_few {pl : Plan} (wf : WfP pl) (so : SortedR pl.rules) : pl.rules.length ≤ 24 := by
  have h4 := wf.s4
  have h6 := wf.m6
  have := inc_len (n := 24) (lo := 0) (l := pl.rules.map fun kv => kv.1.1 * 4 + kv.1.2) ?_ ?_
  · rw [List.length_map] at this
    exact this
  · rw [List.pairwise_map]
    unfold SortedR at so
    rw [List.pairwise_map] at so
    refine List.Pairwise.imp_of_mem (fun {a b} ha hb q => ?_) so
    have := (wf.ru a ha).k2
    have := (wf.ru b hb).k2
    omega
  · intro x hx
    obtain ⟨kv, hk, rfl⟩ := List.mem_map.mp hx
    have := (wf.ru kv hk).k2
    have := (wf.ru kv hk).k1
    omega
theorem rules_keys {H : Hp} : ∀ {rs : List ((Nat × Nat) × Rule)} {kvs : List (List Key × V)}, Paired (RuleAt H) rs kvs → kvs.map (·.1) = (rs.map (·.1)).map keyT
  | _, _, .nil => rfl
  | _, _, .cons h t => by rw [List.map_cons, List.map_cons, List.map_cons, rules_keys t, h.1]
theorem nm_get {ws : List Cs} {g : Nat} (h : g < ws.length) : (ws.map sV)[g]? = some (sV (ws.getD g [])) := by
  rw [List.getElem?_map, List.getD_eq_getElem?_getD, List.getElem?_eq_getElem h]
  rfl
theorem line_len {pl : Plan} (wf : WfP pl) : ∀ ws ∈ linesW pl, (lineOf ws).length ≤ 100 := by
  have key : ∀ (ws : List Cs), ws.length ≤ 7 → (∀ w ∈ ws, w.length ≤ 8) → (lineOf ws).length ≤ 100 := by
    intro ws h7 h8
    have h1 := joinL_len [32] ws
    have h2 := sum_le h8
    have h3 : ws.length * 8 ≤ 7 * 8 := Nat.mul_le_mul_right 8 h7
    simp only [List.length_singleton, Nat.mul_one] at h1
    unfold lineOf
    rw [words_join, List.length_append, List.length_singleton]
    omega
  have h4 := wf.s4
  have h6 := wf.m6
  intro ws hws
  rcases List.mem_append.mp hws with h | h
  · simp only [headW, List.mem_cons, List.not_mem_nil, or_false] at h
    rcases h with z | z | z <;> rw [z]
    · refine key _ (by simp) fun w hw => ?_
      simp only [List.mem_cons, List.not_mem_nil, or_false] at hw
      rcases hw with q | q <;> rw [q]
      · decide
      · exact Nat.le_trans (dec_len _) (by decide)
    · refine key _ (by simp; omega) fun w hw => ?_
      rcases List.mem_cons.mp hw with q | q
      · rw [q]; decide
      · exact names_len wf.sN w q
    · refine key _ (by simp; omega) fun w hw => ?_
      rcases List.mem_cons.mp hw with q | q
      · rw [q]; decide
      · exact names_len wf.mN w q
  · obtain ⟨st, hst, rfl⟩ := List.mem_map.mp h
    obtain ⟨_, hw⟩ := stm_words wf st hst
    refine key _ (by cases st <;> simp [stmW]) fun w hw2 => ?_
    rcases hw w hw2 with q | q
    · exact q.2.2
    · exact Nat.le_trans q.2.2.1 (by decide)
theorem lines_few {pl : Plan} (wf : WfP pl) (so : SortedR pl.rules) : (linesW pl).length ≤ 50 := by
  have h1 := rules_few wf so
  have h2 := List.length_filterMap_le (fun t => if 0 < pl.floor.getD t 0 then some (t, pl.floor.getD t 0) else none) (List.range pl.floor.length)
  rw [List.length_range] at h2
  have h3 := wf.r3
  have h4 := wf.n16
  unfold linesW stmsOf putsL
  simp only [List.length_append, List.length_map, headW, List.length_cons, List.length_nil]
  omega
theorem text_len {pl : Plan} (wf : WfP pl) (so : SortedR pl.rules) : (((linesW pl).map lineOf).map (·.length)).sum + (linesW pl).length ≤ 5100 ∧ (textOf pl).length ≤ 6000 := by
  have h1 : (((linesW pl).map lineOf).map (·.length)).sum ≤ ((linesW pl).map lineOf).length * 100 := sum_le fun w hw => by
    obtain ⟨ws, h, rfl⟩ := List.mem_map.mp hw
    exact line_len wf ws h
  have h2 := lines_few wf so
  have h3 := joinL_len [10] ((linesW pl).map lineOf)
  rw [List.length_map] at h1 h3
  simp only [List.length_singleton] at h3
  unfold textOf
  omega
structure LinT (K : PySem.W.Frag) (mg : Str → Option Value) : Prop where
  p : PlaT K mg
  str : mg "str" = none
  sorted : mg "sorted" = none
  lines : DeT K mg "_law_lines" s__law_lines
  text : DeT K mg "_law_text" s__law_text
section
variable {P : Program} {w : World} {K : PySem.W.Frag} {mg : Str → Option Value} {base : Heap}
/-- the rules' dict may have another order -/
def spLinesP : Sp := fun vs H Q _ => ∃ (a : Addr) (pl : Plan) (rs : List ((Nat × Nat) × Rule)), vs = [.ref a] ∧ PlanV H a { pl with rules := rs } ∧ rs.Perm pl.rules ∧ WfP pl ∧ SortedR pl.rules ∧
  ∀ (l : Addr) (H' : Hp), H l = none → Same H H' → H' l = some (.lst ((linesW pl).map lnV)) → Q (.ref l) H'
def spLines : Sp := fun vs H Q _ => ∃ (a : Addr) (pl : Plan), vs = [.ref a] ∧ PlanV H a pl ∧ WfP pl ∧ SortedR pl.rules ∧
  ∀ (l : Addr) (H' : Hp), H l = none → Same H H' → H' l = some (.lst ((linesW pl).map lnV)) → Q (.ref l) H'
abbrev liN : List Str := ["_law_plan_here", "_law_signs", "_law_moods", "_law_floor", "_law_robots", "_law_rules", "_law_lines_here", "_law_tile", "_law_is_right", "_law_mood", "_law_sign", "_law_left", "_law_move", "_law_later", "_law_words"]
theorem sc_lines : FnScope liN ["_law_plan_here"] (defScope s__law_lines) := ⟨rfl, rfl, rfl, by decide +kernel, rfl, by decide +kernel, by decide +kernel⟩
theorem ok_linesP (T : LinT K mg) : FnE P w K mg base CX0 1 ("_law_lines", none) ["_law_plan_here"] spLinesP := by
  obtain ⟨fd, F⟩ := T.lines.d
  refine ⟨fd, F.ok sc_lines (fun vs H Q E h => ?_) (fun cdv A outer s H vs Q E hr h => ?_), F.bindsN fun _ _ _ _ _ _ us hl => match us, hl with | [_], _ => rfl, F.kp⟩
  · obtain ⟨a, pl, rs, rfl, _⟩ := h
    rfl
  · obtain ⟨a, pl, rs, rfl, hP, hpm, wf, so, k⟩ := h
    have hu := hu_of hr
    refine ⟨_, PSs.nox (pss_cons (ps_asg (pv 0)
        (pg_tup rfl (pgs_cons (pg_name (i := 1) sc_lines.nd rfl (.inl rfl)) (pgs_cons (pg_name (i := 2) sc_lines.nd rfl (.inl rfl)) (pgs_cons (pg_name (i := 3) sc_lines.nd rfl (.inl rfl)) (pgs_cons (pg_name (i := 4) sc_lines.nd rfl (.inl rfl)) (pgs_cons (pg_name (i := 5) sc_lines.nd rfl (.inl rfl)) pgs_nil)))))))
      (pss_cons (ps_set (i := 6) sc_lines.nd rfl (.inl rfl) (pe_lst (pa_cons (pe_op op_add_str (pe_op op_add_str pe_str (pe_callTy call_str_int (by rfl) T.str (by decide +kernel) (pa_cons (pe_callB call_len_seq (by rfl) T.p.s.l.len boot_len (pa_cons (pv 3) pa_nil)) pa_nil))) pe_str) (pa_cons (pe_op op_add_str (pe_op op_add_str pe_str (pe_join pe_str (pv 1))) pe_str) (pa_cons (pe_op op_add_str (pe_op op_add_str pe_str (pe_join pe_str (pv 2))) pe_str) pa_nil)))))
      (pss_cons (ps_for PassesOwn.never rfl (pi_tup (pv 4)) (pg_tup rfl (pgs_cons (pg_name (i := 7) sc_lines.nd rfl (.inl rfl)) (pgs_cons (pg_name (i := 8) sc_lines.nd rfl (.inl rfl)) pgs_nil)))
        (pss_one (ps_expr (pe_bm PySem.F.plainAttrs_list PySem.F.slot_list_append PySem.F.type_list_append mt_append (pv 6) (pa_cons (pe_op op_add_str (pe_op op_add_str pe_str (pe_callTy call_str_int (by rfl) T.str (by decide +kernel) (pa_cons (pv 7) pa_nil))) (pe_ifExp (pt_val (pv 8)) pe_str pe_str)) pa_nil)))))
      (pss_cons (ps_for PassesOwn.never rfl (pi_range1 (by rfl) T.p.s.l.range (pa_cons (pe_callB call_len_seq (by rfl) T.p.s.l.len boot_len (pa_cons (pv 3) pa_nil)) pa_nil)) (pg_name (i := 7) sc_lines.nd rfl (.inl rfl))
        (pss_one (ps_if (pt_cmpR op_gt (pe_ix ix_tup (pv 3) (pv 7) (fun _ _ => rfl)) pe_int (nomark _))
          (pss_one (ps_expr (pe_bm PySem.F.plainAttrs_list PySem.F.slot_list_append PySem.F.type_list_append mt_append (pv 6) (pa_cons (pe_op op_add_str (pe_op op_add_str (pe_op op_add_str (pe_op op_add_str pe_str (pe_ix ix_tup (pv 1) (pe_ix ix_tup (pv 3) (pv 7) (fun _ _ => rfl)) (fun _ _ => rfl))) pe_str) (pe_callTy call_str_int (by rfl) T.str (by decide +kernel) (pa_cons (pv 7) pa_nil))) pe_str) pa_nil)))) pss_nil)))
      (pss_cons (ps_for PassesOwn.never rfl (pi_list (pe_callB (cr_sortedDT rfl) (by rfl) T.sorted (by decide +kernel) (pa_cons (pv 5) pa_nil))) (pg_tup rfl (pgs_cons (pg_name (i := 9) sc_lines.nd rfl (.inl rfl)) (pgs_cons (pg_name (i := 10) sc_lines.nd rfl (.inl rfl)) pgs_nil)))
        (pss_cons (ps_asg (pe_dget hu (pv 5) (pe_tup (pa_cons (pv 9) (pa_cons (pv 10) pa_nil))) (fun _ _ => rfl))
          (pg_tup rfl (pgs_cons (pg_name (i := 11) sc_lines.nd rfl (.inl rfl)) (pgs_cons (pg_name (i := 12) sc_lines.nd rfl (.inl rfl)) (pgs_cons (pg_name (i := 13) sc_lines.nd rfl (.inl rfl)) pgs_nil)))))
        (pss_cons (ps_set (i := 14) sc_lines.nd rfl (.inl rfl) (pe_lst (pa_cons pe_str (pa_cons (pe_ix ix_tup (pv 2) (pv 9) (fun _ _ => rfl)) (pa_cons (pe_ix ix_tup (pv 1) (pv 10) (fun _ _ => rfl)) (pa_cons pe_str (pa_cons (pe_ix ix_tup (pv 1) (pv 11) (fun _ _ => rfl)) (pa_cons (pv 12) (pa_cons (pe_ix ix_tup (pv 2) (pv 13) (fun _ _ => rfl)) pa_nil)))))))))
        (pss_one (ps_expr (pe_bm PySem.F.plainAttrs_list PySem.F.slot_list_append PySem.F.type_list_append mt_append (pv 6) (pa_cons (pe_op op_add_str (pe_join pe_str (pv 14)) pe_str) pa_nil)))))))
      (pss_one (ps_ret (pv 6)))))))), ?_⟩
    obtain ⟨sa, ma, fa, ra, rd, ras, e0, e1, e2, e3, e4, e5, kvs, e6, e7⟩ := hP
    replace e1 : TupN H sa (pl.signs.map sV) := e1
    replace e2 : TupN H ma (pl.moods.map sV) := e2
    replace e3 : H fa = some (.tup (pl.floor.map fun n : Nat => V.int n)) := e3
    replace e5 : Paired (RobAt H) ras pl.robots := e5
    replace e7 : Paired (RuleAt H) rs kvs := e7
    refine ⟨_, rfl, a, _, rfl, SqT.of e0, rfl, _, _, rfl, _, _, rfl, _, _, rfl, _, _, rfl, _, _, rfl, rfl, ?_⟩
    have h16 := wf.n16
    have hdn := dec_len pl.floor.length
    have hsl : (pl.signs.map (·.length)).sum ≤ 4 * 8 := Nat.le_trans (sum_le (names_len wf.sN)) (Nat.mul_le_mul_right 8 wf.s4)
    have hml : (pl.moods.map (·.length)).sum ≤ 6 * 8 := Nat.le_trans (sum_le (names_len wf.mN)) (Nat.mul_le_mul_right 8 wf.m6)
    have hs4 := wf.s4
    have hm6 := wf.m6
    refine ⟨_, rfl, fa, _, rfl, .inr (SqT.of e3), _, rfl, ?_⟩
    rw [List.length_map]
    refine ⟨log_small (by omega), ?_⟩
    rw [str_dec (show pl.floor.length < 100 by omega)]
    refine ⟨sx (wCorridor ++ [32]), sx (dec pl.floor.length), (by kernel_rfl), rfl, lenS (by simp [wCorridor]; omega), ?_⟩
    rw [sx_app]
    refine ⟨sx (wCorridor ++ [32] ++ dec pl.floor.length), sx ([59]), rfl, (by kernel_rfl), lenS (by simp [wCorridor]; omega), ?_⟩
    rw [sx_app]
    have lj1 := joinL_len [32] pl.signs
    have lj2 := joinL_len [32] pl.moods
    simp only [List.length_singleton, Nat.mul_one] at lj1 lj2
    refine ⟨⟨_, rfl⟩, _, rfl, sx [32], _, (pl.signs).map sx, (by kernel_rfl), rfl, sqJ (.inr e1.sq), lenJ (by simp only [List.length_singleton]; omega), ?_⟩
    rw [join_sx]
    refine ⟨sx (wSigns ++ [32]), sx (TL.joinL [32] pl.signs), (by kernel_rfl), rfl, lenS (by simp [wSigns]; omega), ?_⟩
    rw [sx_app]
    refine ⟨sx (wSigns ++ [32] ++ TL.joinL [32] pl.signs), sx ([59]), rfl, (by kernel_rfl), lenS (by simp [wSigns]; omega), ?_⟩
    rw [sx_app]
    refine ⟨⟨_, rfl⟩, _, rfl, sx [32], _, (pl.moods).map sx, (by kernel_rfl), rfl, sqJ (.inr e2.sq), lenJ (by simp only [List.length_singleton]; omega), ?_⟩
    rw [join_sx]
    refine ⟨sx (wMoods ++ [32]), sx (TL.joinL [32] pl.moods), (by kernel_rfl), rfl, lenS (by simp [wMoods]; omega), ?_⟩
    rw [sx_app]
    refine ⟨sx (wMoods ++ [32] ++ TL.joinL [32] pl.moods), sx ([59]), rfl, (by kernel_rfl), lenS (by simp [wMoods]; omega), ?_⟩
    rw [sx_app]
    refine ⟨(by show 3 ≤ sizeLine; decide), fun l nl => ?_⟩
    have s1 : Same H (upd H l (.lst ((headW pl.floor.length pl.signs pl.moods).map lnV))) := sameUpd (Same.refl H) nl
    rw [head_lines wf.s1 wf.m1]
    have hl1 := @upd_same H l (.lst ((headW pl.floor.length pl.signs pl.moods).map lnV))
    generalize upd H l (.lst ((headW pl.floor.length pl.signs pl.moods).map lnV)) = H1 at *
    -- robots
    refine ⟨_, rfl, ra, rfl, ⟨_, SqT.of (s1 _ _ e4)⟩, ?_⟩
    refine for_tup (K := K) (a := ra) (xs := ras.map V.ref) (fun i σ H2 => ∃ o7 o8 : Option V, σ = [some (.ref a), some (.ref sa), some (.ref ma), some (.ref fa), some (.ref ra), some (.ref rd), some (.ref l), o7, o8, none, none, none, none, none, none] ∧ Same H H2 ∧
      H2 l = some (.lst ((headW pl.floor.length pl.signs pl.moods ++ (pl.robots.take i).map fun r => stmW pl.signs pl.moods (robS r)).map lnV))) ⟨none, none, rfl, s1, by rw [List.take_zero, List.map_nil, List.append_nil]; exact hl1⟩ (fun i σ H2 _ ⟨_, _, _, sm, _⟩ => SqT.of (sm _ _ e4)) ?_ ?_
    · rintro i x σ H2 hx ⟨o7, o8, rfl, sm, hl2⟩
      rw [List.getElem?_map] at hx
      cases hra : ras[i]? with
      | none => rw [hra] at hx; cases hx
      | some rai =>
        rw [hra] at hx
        cases hx
        obtain ⟨r, hr', hrob⟩ := pairedL e5 hra
        have hrt := wf.rt r (List.mem_of_getElem? hr')
        have hir : i < pl.robots.length := (List.getElem?_eq_some_iff.mp hr').1
        have hr3 := wf.r3
        have dl := dec_len r.1
        refine ⟨rai, _, rfl, SqT.of (sm _ _ hrob), rfl, _, _, rfl, _, _, rfl, rfl, ?_⟩
        refine ⟨_, rfl, .inl ⟨rfl, _, SqL.of hl2⟩, _, rfl, _, rfl, log_small (by omega), ?_⟩
        rw [str_dec (show r.1 < 100 by omega)]
        refine ⟨sx (wRobot ++ [32]), sx (dec r.1), (by kernel_rfl), rfl, lenS (by simp [wRobot]; omega), ?_⟩
        rw [sx_app]
        have et : (pl.robots.take (i + 1)).map (fun r => stmW pl.signs pl.moods (robS r)) = (pl.robots.take i).map (fun r => stmW pl.signs pl.moods (robS r)) ++ [stmW pl.signs pl.moods (robS r)] := by
          rw [List.take_succ, hr', List.map_append]
          rfl
        have hll : ((headW pl.floor.length pl.signs pl.moods ++ (pl.robots.take i).map fun r => stmW pl.signs pl.moods (robS r)).map lnV).length < sizeLine := by
          rw [List.length_map, List.length_append, List.length_map, List.length_take, sizeLine_eq]
          simp [headW]
          omega
        refine ⟨_, rfl, _, rfl, ?_⟩
        cases hb : r.2 with
        | true =>
          refine ⟨sx (wRobot ++ [32] ++ dec r.1), sx (32 :: wRight ++ [59]), rfl, (by kernel_rfl), lenS (by simp [wRobot, wRight]; omega), ?_⟩
          rw [sx_app]
          refine ⟨l, _, _, rfl, rfl, hl2, hll, _, _, rfl, sameUpd sm nl, ?_⟩
          rw [upd_same, et]
          have : lnV (stmW pl.signs pl.moods (robS r)) = V.str (sx (wRobot ++ [32] ++ dec r.1 ++ (32 :: wRight ++ [59]))) := by
            unfold lnV lineOf robS
            rw [words_join, hb]
            simp [stmW, TL.joinL, wayOf]
          rw [snoc_ln this]
        | false =>
          refine ⟨sx (wRobot ++ [32] ++ dec r.1), sx (32 :: wLeft ++ [59]), rfl, (by kernel_rfl), lenS (by simp [wRobot, wLeft]; omega), ?_⟩
          rw [sx_app]
          refine ⟨l, _, _, rfl, rfl, hl2, hll, _, _, rfl, sameUpd sm nl, ?_⟩
          rw [upd_same, et]
          have : lnV (stmW pl.signs pl.moods (robS r)) = V.str (sx (wRobot ++ [32] ++ dec r.1 ++ (32 :: wLeft ++ [59]))) := by
            unfold lnV lineOf robS
            rw [words_join, hb]
            simp [stmW, TL.joinL, wayOf]
          rw [snoc_ln this]
    rintro σ H2 ⟨o7, o8, rfl, s2, hl2⟩
    rw [List.length_map, e5.length, List.take_length] at hl2
    generalize hA : headW pl.floor.length pl.signs pl.moods ++ pl.robots.map (fun r => stmW pl.signs pl.moods (robS r)) = LA at hl2
    have hLA : LA.length ≤ 6 := by
      rw [← hA, List.length_append, List.length_map]
      have := wf.r3
      simp [headW]
      omega
    -- puts
    refine ⟨_, rfl, fa, _, rfl, .inr (SqT.of (s2 _ _ e3)), ?_⟩
    refine ⟨_, rfl, by rw [List.length_map]; omega, by rw [List.length_map]; omega, ?_⟩
    refine for_range (lo := 0) (n := ((pl.floor.map fun n : Nat => V.int n).length : Int).toNat) (fun i σ H3 => ∃ o7 : Option V, σ = [some (.ref a), some (.ref sa), some (.ref ma), some (.ref fa), some (.ref ra), some (.ref rd), some (.ref l), o7, o8, none, none, none, none, none, none] ∧ Same H H3 ∧
      H3 l = some (.lst ((LA ++ ((List.range i).filterMap (fun t => if 0 < pl.floor.getD t 0 then some (t, pl.floor.getD t 0) else none)).map fun q => stmW pl.signs pl.moods (putS q)).map lnV))) ⟨o7, rfl, s2, by rw [List.range_zero, List.filterMap_nil, List.map_nil, List.append_nil]; exact hl2⟩ ?_ ?_
    · rintro i σ H3 hi ⟨o7, rfl, sm, hl3⟩
      rw [Int.toNat_natCast, List.length_map] at hi
      have hg : (pl.floor.map fun n : Nat => V.int n)[i]? = some (.int (pl.floor.getD i 0 : Nat)) := by
        rw [List.getElem?_map, List.getD_eq_getElem?_getD, List.getElem?_eq_getElem hi]
        rfl
      have hgs : pl.floor.getD i 0 < pl.signs.length := by
        rw [List.getD_eq_getElem?_getD, List.getElem?_eq_getElem hi]
        exact wf.fl _ (List.getElem_mem hi)
      have ez : (0 : Int) + (i : Nat) = (i : Nat) := by omega
      rw [ez]
      refine ⟨_, rfl, _, rfl, fa, _, _, _, rfl, rfl, SqT.of (sm _ _ e3), atI_nat hg, _, _, rfl, rfl, _, rfl, ?_⟩
      refine ite2 (fun h => ?_) (fun h => ?_)
      · have h0 : 0 < pl.floor.getD i 0 := by
          have := of_decide_eq_true h
          omega
        have hsg : (pl.signs.map sV)[pl.floor.getD i 0]? = some (sV (pl.signs.getD (pl.floor.getD i 0) [])) := by
          rw [List.getElem?_map, List.getD_eq_getElem?_getD (l := pl.signs), List.getElem?_eq_getElem hgs]
          rfl
        have hs8 : (pl.signs.getD (pl.floor.getD i 0) []).length ≤ 8 := names_len wf.sN _ (getD_in hgs)
        have hsa := e1.mono (fun o z => sm _ _ z)
        have dl := dec_len i
        refine ⟨_, rfl, .inl ⟨rfl, _, SqL.of hl3⟩, _, rfl, _, rfl, _, rfl, fa, _, _, _, rfl, rfl, SqT.of (sm _ _ e3), atI_nat hg, sa, _, _, _, rfl, rfl, hsa.sq, atI_nat hsg, ?_⟩
        generalize hgg : pl.floor.getD i 0 = g at *
        refine ⟨sx (wPut ++ [32]), sx (pl.signs.getD g []), (by kernel_rfl), rfl, lenS (by simp [wPut] at hs8 ⊢; omega), ?_⟩
        rw [sx_app]
        refine ⟨sx (wPut ++ [32] ++ pl.signs.getD g []), sx [32], rfl, (by kernel_rfl), lenS (by simp [wPut] at hs8 ⊢; omega), ?_⟩
        rw [sx_app]
        refine ⟨_, rfl, _, rfl, log_small (by omega), ?_⟩
        rw [str_dec (show i < 100 by omega)]
        refine ⟨sx (wPut ++ [32] ++ pl.signs.getD g [] ++ [32]), sx (dec i), rfl, rfl, lenS (by simp [wPut] at hs8 ⊢; omega), ?_⟩
        rw [sx_app]
        refine ⟨sx (wPut ++ [32] ++ pl.signs.getD g [] ++ [32] ++ dec i), sx [59], rfl, (by kernel_rfl), lenS (by simp [wPut] at hs8 ⊢; omega), ?_⟩
        rw [sx_app]
        have hfl := List.length_filterMap_le (fun t => if 0 < pl.floor.getD t 0 then some (t, pl.floor.getD t 0) else none) (List.range i)
        rw [List.length_range] at hfl
        refine ⟨l, _, _, rfl, rfl, hl3, ?_, _, rfl, sameUpd sm nl, ?_⟩
        · rw [List.length_map, List.length_append, List.length_map, sizeLine_eq]
          omega
        · have : lnV (stmW pl.signs pl.moods (putS (i, g))) = V.str (sx (wPut ++ [32] ++ pl.signs.getD g [] ++ [32] ++ dec i ++ [59])) := by
            unfold lnV lineOf putS
            rw [words_join]
            simp [stmW, TL.joinL]
          rw [upd_same, put_range, hgg, if_pos h0, snoc_lf (f := fun q => stmW pl.signs pl.moods (putS q)) this]
      · have h0 : ¬ 0 < pl.floor.getD i 0 := by
          have := of_decide_eq_false (Bool.eq_false_iff.mpr h)
          omega
        refine ⟨_, rfl, sm, ?_⟩
        rw [put_range, if_neg h0, List.append_nil]
        exact hl3
    rintro σ H3 ⟨o7', rfl, s3, hl3⟩
    rw [Int.toNat_natCast, List.length_map] at hl3
    have hLB : (LA ++ (putsL pl.floor).map fun q => stmW pl.signs pl.moods (putS q)).length ≤ 30 := by
      have hfl := List.length_filterMap_le (fun t => if 0 < pl.floor.getD t 0 then some (t, pl.floor.getD t 0) else none) (List.range pl.floor.length)
      rw [List.length_range] at hfl
      rw [List.length_append, List.length_map]
      unfold putsL
      omega
    replace hl3 : H3 l = some (.lst ((LA ++ (putsL pl.floor).map fun q => stmW pl.signs pl.moods (putS q)).map lnV)) := hl3
    generalize hB : LA ++ (putsL pl.floor).map (fun q => stmW pl.signs pl.moods (putS q)) = LB at hl3 hLB
    -- rules
    have hru := rules_few wf so
    refine ⟨_, rfl, rd, kvs, rs.map (·.1), rfl, Rd.of (s3 _ _ e6), rules_keys e7, fun ys bs p hperm hso hpair np => ?_⟩
    obtain rfl := perm_sorted (hperm.trans (hpm.map _)) hso so.le
    have s4 := sameUpd (o := .lst (bs.map V.ref)) (Same.refl H3) np
    have hp4 := @upd_same H3 p (.lst (bs.map V.ref))
    have hpl : p ≠ l := fun z => by rw [z, hl3] at np; cases np
    replace hl3 := s4 _ _ hl3
    have np0 : H p = none := s3.free np
    replace s3 := s3.trans s4
    have hpair : Paired (PairAt (upd H3 p (.lst (bs.map V.ref)))) bs (pl.rules.map (·.1)) := Paired.mapP hpair fun _ _ q => s4 _ _ q
    generalize upd H3 p (.lst (bs.map V.ref)) = H4 at *
    refine ⟨p, rfl, ⟨_, SqL.of hp4⟩, ?_⟩
    refine for_list (K := K) (a := p) (xs := bs.map V.ref) (fun i σ H5 => ∃ o9 o10 o11 o12 o13 o14 : Option V, σ = [some (.ref a), some (.ref sa), some (.ref ma), some (.ref fa), some (.ref ra), some (.ref rd), some (.ref l), o7', o8, o9, o10, o11, o12, o13, o14] ∧ Same (cutH H4 [l]) H5 ∧
      H5 l = some (.lst ((LB ++ (pl.rules.take i).map fun r => stmW pl.signs pl.moods (rulS r)).map lnV))) ⟨none, none, none, none, none, none, rfl, cutH_same, by rw [List.take_zero, List.map_nil, List.append_nil]; exact hl3⟩
      (fun i σ H5 _ ⟨_, _, _, _, _, _, _, sm, _⟩ => SqL.of (sm _ _ (by rw [cutH_out (by simpa using hpl)]; exact hp4))) ?_ ?_
    · rintro i x σ H5 hx ⟨o9, o10, o11, o12, o13, o14, rfl, sm, hl5⟩
      have up : ∀ b o, b ≠ l → H4 b = some o → H5 b = some o := fun b o hb e => sm _ _ (by rw [cutH_out (by simpa using hb)]; exact e)
      rw [List.getElem?_map] at hx
      cases hbi : bs[i]? with
      | none => rw [hbi] at hx; cases hx
      | some bi =>
        rw [hbi] at hx
        cases hx
        obtain ⟨ky, hky, hpr⟩ := pairedL hpair hbi
        rw [List.getElem?_map] at hky
        cases hri : pl.rules[i]? with
        | none => rw [hri] at hky; cases hky
        | some kv =>
          rw [hri] at hky
          cases hky
          have hmem := List.mem_of_getElem? hri
          have rk := wf.ru kv hmem
          have hir : i < pl.rules.length := (List.getElem?_eq_some_iff.mp hri).1
          have nel : ∀ {b : Addr} {o : HO}, H b = some o → b ≠ l := fun e z => by rw [z, nl] at e; cases e
          have bil : bi ≠ l := fun z => by
            have q : H4 bi = _ := hpr
            rw [z, hl3] at q
            cases q
          refine ⟨bi, _, rfl, SqT.of (up _ _ bil hpr), rfl, _, _, rfl, _, _, rfl, rfl, ?_⟩
          refine ⟨_, rfl, _, rfl, _, rfl, (by show 2 ≤ sizeLine; decide), fun t nt => ?_⟩
          have s6 := sameUpd (o := .tup [.int kv.1.1, .int kv.1.2]) (Same.refl H5) nt
          have ht := @upd_same H5 t (.tup [.int kv.1.1, .int kv.1.2])
          have sm6 := sm.trans s6
          replace hl5 := s6 _ _ hl5
          replace up : ∀ b o, b ≠ l → H4 b = some o → (upd H5 t (.tup [.int kv.1.1, .int kv.1.2])) b = some o := fun b o hb e => s6 _ _ (up b o hb e)
          generalize upd H5 t (.tup [.int kv.1.1, .int kv.1.2]) = H6 at *
          have e7' : Paired (RuleAt H6) rs kvs := Paired.mapP e7 fun _ _ q => q.mono fun b xs z => up _ _ (nel z) (s3 _ _ z)
          obtain ⟨tv, hv1, hv2⟩ := (rules_get (k := kv.1) e7').2 kv.2 (getA_mem ((hpm.map _).nodup_iff.mpr wf.rn) (hpm.mem_iff.mpr hmem))
          refine ⟨rd, .ref tv, rfl, by rw [← hv1]; exact DGet.t (k := keyT kv.1) (up _ _ (nel e6) (s3 _ _ e6)) ht, ?_⟩
          refine ⟨tv, _, rfl, SqT.of hv2, rfl, _, _, rfl, _, _, rfl, _, _, rfl, rfl, ?_⟩
          have hma : TupN H6 ma (pl.moods.map sV) := e2.mono fun o z => up _ _ (nel z) (s3 _ _ z)
          have hsa : TupN H6 sa (pl.signs.map sV) := e1.mono fun o z => up _ _ (nel z) (s3 _ _ z)
          refine ⟨_, rfl, _, rfl, ma, _, _, _, rfl, rfl, hma.sq, atI_nat (nm_get rk.k1), _, rfl, _, rfl, sa, _, _, _, rfl, rfl, hsa.sq, atI_nat (nm_get rk.k2), _, rfl, _, rfl, sa, _, _, _, rfl, rfl, hsa.sq, atI_nat (nm_get rk.l), _, rfl, _, rfl, _, rfl, ma, _, _, _, rfl, rfl, hma.sq, atI_nat (nm_get rk.la), ?_⟩
          refine ⟨(by show 7 ≤ sizeLine; decide), fun wl nwl => ?_⟩
          have e8 : [V.str (Str.ofString "when"), sV (pl.moods.getD kv.1.1 []), sV (pl.signs.getD kv.1.2 []), V.str (Str.ofString "leave"), sV (pl.signs.getD kv.2.left []), sV kv.2.move, sV (pl.moods.getD kv.2.later [])] = (stmW pl.signs pl.moods (rulS kv)).map sV := by
            show _ = [sV wWhen, sV (pl.moods.getD kv.1.1 []), sV (pl.signs.getD kv.1.2 []), sV wLeave, sV (pl.signs.getD kv.2.left []), sV kv.2.move, sV (pl.moods.getD kv.2.later [])]
            congr 1
          rw [e8]
          have s7 := sameUpd (o := .lst ((stmW pl.signs pl.moods (rulS kv)).map sV)) (Same.refl H6) nwl
          have hwl := @upd_same H6 wl (.lst ((stmW pl.signs pl.moods (rulS kv)).map sV))
          have sm7 := sm6.trans s7
          replace hl5 := s7 _ _ hl5
          generalize upd H6 wl (.lst ((stmW pl.signs pl.moods (rulS kv)).map sV)) = H7 at *
          have l8 : ∀ w ∈ stmW pl.signs pl.moods (rulS kv), w.length ≤ 8 := by
            have hmv : ∀ m ∈ moves, m.length ≤ 8 := by decide +kernel
            intro w hw
            have hw' : w = wWhen ∨ w = pl.moods.getD kv.1.1 [] ∨ w = pl.signs.getD kv.1.2 [] ∨ w = wLeave ∨ w = pl.signs.getD kv.2.left [] ∨ w = kv.2.move ∨ w = pl.moods.getD kv.2.later [] := by simpa [rulS, stmW] using hw
            rcases hw' with z | z | z | z | z | z | z <;> rw [z]
            · decide
            · exact names_len wf.mN _ (getD_in rk.k1)
            · exact names_len wf.sN _ (getD_in rk.k2)
            · decide
            · exact names_len wf.sN _ (getD_in rk.l)
            · exact hmv _ rk.mv
            · exact names_len wf.mN _ (getD_in rk.la)
          have ls := sum_le l8
          have l7 : (stmW pl.signs pl.moods (rulS kv)).length = 7 := rfl
          rw [l7] at ls
          have lj := joinL_len [32] (stmW pl.signs pl.moods (rulS kv))
          rw [l7] at lj
          simp only [List.length_singleton] at lj
          refine ⟨_, rfl, .inl ⟨rfl, _, SqL.of hl5⟩, ⟨_, rfl⟩, _, rfl, sx [32], wl, (stmW pl.signs pl.moods (rulS kv)).map sx, (by kernel_rfl), rfl, sqJ (.inl (SqL.of hwl)), lenJ (by rw [l7]; simp only [List.length_singleton]; omega), ?_⟩
          rw [join_sx]
          refine ⟨sx (TL.joinL [32] (stmW pl.signs pl.moods (rulS kv))), sx [59], rfl, (by kernel_rfl), lenS (by simp only [List.length_singleton]; omega), ?_⟩
          rw [sx_app]
          refine ⟨l, _, _, rfl, rfl, hl5, ?_, _, _, _, _, _, _, rfl, cutS sm7 (by simp), ?_⟩
          · rw [List.length_map, List.length_append, List.length_map, List.length_take, sizeLine_eq]
            omega
          · have : lnV (stmW pl.signs pl.moods (rulS kv)) = V.str (sx (TL.joinL [32] (stmW pl.signs pl.moods (rulS kv)) ++ [59])) := by
              unfold lnV lineOf
              rw [words_join]
            have et : (pl.rules.take (i + 1)) = pl.rules.take i ++ [kv] := by
              rw [List.take_succ, hri]
              rfl
            rw [upd_same, et, snoc_lf (f := fun r => stmW pl.signs pl.moods (rulS r)) this]
    rintro σ H5 ⟨o9, o10, o11, o12, o13, o14, rfl, sm, hl5⟩
    have hbl : bs.length = pl.rules.length := by rw [hpair.length, List.length_map]
    rw [List.length_map, hbl, List.take_length] at hl5
    refine ⟨_, rfl, k l H5 nl (fun b o e => sm _ _ ?_) ?_⟩
    · rw [cutH_out]
      · exact s3 _ _ e
      · intro z
        rw [List.mem_singleton.mp z, nl] at e
        cases e
    · rw [hl5, ← hB, ← hA]
      unfold linesW stmsOf
      simp [List.append_assoc, Function.comp_def]
/-! ### _law_text -/
theorem ok_lines (T : LinT K mg) : FnE P w K mg base CX0 1 ("_law_lines", none) ["_law_plan_here"] spLines := by
  obtain ⟨fd, G, b, k⟩ := ok_linesP (P := P) (w := w) (base := base) T
  exact ⟨fd, G.imp fun vs H Q E ⟨a, pl, e, hP, wf, so, k⟩ => ⟨a, pl, pl.rules, e, hP, .refl _, wf, so, k⟩, b, k⟩
def spTextP : Sp := fun vs H Q _ => ∃ (a : Addr) (pl : Plan) (rs : List ((Nat × Nat) × Rule)), vs = [.ref a] ∧ PlanV H a { pl with rules := rs } ∧ rs.Perm pl.rules ∧ WfP pl ∧ SortedR pl.rules ∧ ∀ H' : Hp, Same H H' → Q (sV (textOf pl)) H'
def spText : Sp := fun vs H Q _ => ∃ (a : Addr) (pl : Plan), vs = [.ref a] ∧ PlanV H a pl ∧ WfP pl ∧ SortedR pl.rules ∧ ∀ H' : Hp, Same H H' → Q (sV (textOf pl)) H'
theorem sc_text : FnScope ["_law_plan_here"] ["_law_plan_here"] (defScope s__law_text) := ⟨rfl, rfl, rfl, by decide +kernel, rfl, by decide +kernel, by decide +kernel⟩
theorem ok_textP (T : LinT K mg) : FnE P w K mg base CX0 2 ("_law_text", none) ["_law_plan_here"] spTextP := by
  obtain ⟨fd, F⟩ := T.text.d
  obtain ⟨fdL, GL, bL, kL⟩ := ok_linesP (P := P) (w := w) (base := base) T
  refine ⟨fd, F.ok sc_text (fun vs H Q E h => ?_) (fun cdv A outer s H vs Q E hr h => ?_), F.bindsN fun _ _ _ _ _ _ us hl => match us, hl with | [_], _ => rfl, F.kp⟩
  · obtain ⟨a, pl, rs, rfl, _⟩ := h
    rfl
  · obtain ⟨a, pl, rs, rfl, hP, hpm, wf, so, k⟩ := h
    refine ⟨_, PSs.nox (pss_one (ps_ret (pe_join pe_str (pe_call GL hr rfl T.lines.g kL bL .nil pass0 (pa_cons (pv 0) pa_nil))))), ?_⟩
    obtain ⟨t1, t2⟩ := text_len wf so
    refine ⟨⟨_, rfl⟩, _, rfl, a, pl, rs, rfl, hP, hpm, wf, so, fun l H' nl sm hl => ?_⟩
    have e : (linesW pl).map lnV = (((linesW pl).map lineOf).map sx).map V.str := by rw [List.map_map, List.map_map]; rfl
    rw [e] at hl
    refine ⟨sx [10], l, ((linesW pl).map lineOf).map sx, (by kernel_rfl), rfl, .inl (SqL.of hl), lenJ (by rw [List.length_map]; simp only [List.length_singleton]; omega), ?_⟩
    rw [join_sx]
    exact k H' sm
theorem ok_text (T : LinT K mg) : FnE P w K mg base CX0 2 ("_law_text", none) ["_law_plan_here"] spText := by
  obtain ⟨fd, G, b, k⟩ := ok_textP (P := P) (w := w) (base := base) T
  exact ⟨fd, G.imp fun vs H Q E ⟨a, pl, e, hP, wf, so, k⟩ => ⟨a, pl, pl.rules, e, hP, .refl _, wf, so, k⟩, b, k⟩
end
end Sw

end

section
set_option maxRecDepth 100000
set_option maxHeartbeats 4000000
/-! data: what may be compared -/
namespace Sw
open PySem PySem.Spec PyProof.Rows L2 SwA
def ShD (n : Nat) (d : PyData) : Prop := d.canLay0 = true ∧ d.depth ≤ n
theorem ShD.mono {n m : Nat} {d : PyData} (h : ShD n d) (hl : n ≤ m) : ShD m d := ⟨h.1, Nat.le_trans h.2 hl⟩
theorem shd_all {n : Nat} : ∀ {ds : List PyData}, (∀ d ∈ ds, ShD n d) → PyData.canLayAll0 ds = true ∧ PyData.depthAll ds ≤ n
  | [], _ => ⟨rfl, by simp [PyData.depthAll]⟩
  | d :: ds, h => by
    have h1 := h d List.mem_cons_self
    have h2 := shd_all (ds := ds) fun x hx => h x (List.mem_cons_of_mem _ hx)
    refine ⟨?_, ?_⟩
    · rw [PyData.canLayAll0, h1.1, h2.1]; rfl
    · rw [PyData.depthAll]
      have := h1.2
      have := h2.2
      omega
theorem shd_list {n : Nat} {ds : List PyData} (h : ∀ d ∈ ds, ShD n d) : ShD (n + 1) (.list ds) := by
  have h2 := shd_all h
  refine ⟨by rw [PyData.canLay0]; exact h2.1, ?_⟩
  rw [PyData.depth]
  have := h2.2
  omega
theorem shd_tuple {n : Nat} {ds : List PyData} (h : ∀ d ∈ ds, ShD n d) : ShD (n + 1) (.tuple ds) := by
  have h2 := shd_all h
  refine ⟨by rw [PyData.canLay0]; exact h2.1, ?_⟩
  rw [PyData.depth]
  have := h2.2
  omega
theorem shd_int (i : Int) : ShD 1 (.int i) := ⟨by rw [PyData.canLay0], by rw [PyData.depth]; decide⟩
theorem shd_bool (i : Bool) : ShD 1 (.bool i) := ⟨by rw [PyData.canLay0], by rw [PyData.depth]; decide⟩
theorem shd_none : ShD 1 .none := ⟨by rw [PyData.canLay0], by rw [PyData.depth]; decide⟩
theorem shd_str {x : Str} (h : x.cps.all (· < 0x110000) = true) : ShD 1 (.str x) := ⟨by rw [PyData.canLay0]; exact h, by rw [PyData.depth]; decide⟩
theorem shd_sx {cs : Cs} (h : ∀ c ∈ cs, c < 0x110000) : ShD 1 (.str (sx cs)) := shd_str (by
  rw [← Array.all_toList]
  simpa [sx] using h)
theorem shd_nm {cs : Cs} (h : ∀ c ∈ cs, isL c = true) : ShD 1 (.str (sx cs)) := shd_sx fun c hc => by
  have := h c hc
  unfold isL at this
  rw [Bool.and_eq_true, Nat.ble_eq, Nat.ble_eq] at this
  omega
theorem ShD.shaped {n : Nat} {d : PyData} (h : ShD n d) (hn : n ≤ 64) : SeqAt.shaped d = true := Bool.and_eq_true_iff.mpr ⟨h.1, decide_eq_true (Nat.le_trans h.2 hn)⟩
theorem ShD.eqv {n : Nat} {d : PyData} (h : ShD n d) : PyData.eqv d d = true := SeqAt.eqv_refl _ h.1
end Sw

end

section
set_option maxRecDepth 100000
set_option maxHeartbeats 4000000
/-! the law's own: the error of a call -/
namespace SwA
open PySem PySem.Spec PyProof.Rows L2
/-! ### xs.count(True) of a list of truth values -/
def rCntB (K : PySem.W.Frag) : V → List V → Hp → VK → Prop := fun x xs H Q => ∃ (p : Addr) (bs : List Bool), x = .ref p ∧ xs = [.bl true] ∧ SqL K H p (bs.map V.bl) ∧ Q (.int ((bs.countP id : Nat) : Int)) H
theorem dp_bools {K : PySem.W.Frag} {H : Hp} : ∀ l : List Bool, DpAll K H (l.map V.bl) (l.map PyData.bool)
  | [] => .nil
  | b :: l => .cons (.bl b) (dp_bools l)
theorem count_bools : ∀ l : List Bool, (l.map PyData.bool).countP (fun y => PyData.eqv y (.bool true)) = l.countP id
  | [] => rfl
  | b :: l => by
    rw [List.map_cons, List.countP_cons, List.countP_cons, count_bools l]
    cases b <;> simp [PyData.eqv]
theorem plain_bools : ∀ l : List Bool, PyData.plainAll (l.map PyData.bool) = true
  | [] => rfl
  | b :: l => by
    rw [List.map_cons, PyData.plainAll, plain_bools l]
    rfl
theorem mt_bcount {X : Cx} (hu : X.A.units + 3 < cLine) : MtR X "list.count" (rCntB X.K) := by
  intro pins s σ H x xs v us Q I rx rxs h
  obtain ⟨p, bs, rfl, rfl, hs, q⟩ := h
  cases rx
  obtain ⟨u, rfl, ru⟩ := rxs.one
  cases ru
  obtain ⟨its, rv, ⟨o, n, ho, hc, hdn, hd⟩, hlen⟩ := I.list hs
  obtain ⟨as, ra⟩ := Dp.readsAll I _ _ _ (dp_bools bs) rv
  refine SeqAt.count_list_data (xs := bs.map PyData.bool) (d := .bool true) ⟨o, ho, hc, n, hd⟩ (by simpa using ra) (Reads.bool true) (plain_bools bs) rfl ?_ ?_
  · have : min (PyData.depthAll (bs.map PyData.bool)) (PyData.depth (.bool true)) ≤ 1 := Nat.le_trans (Nat.min_le_right _ _) (by rw [PyData.depth]; decide)
    omega
  · rw [count_bools]
    exact ⟨.int _, H, I.tok _, ⟨_, rfl⟩, q⟩
/-! ### isinstance(e, ..) in the suite that holds e -/
def rIsEx (K : PySem.W.Frag) (cls : Value) (d : Option Addr) (a : Addr) : List V → Hp → VK → Prop := fun xs H Q => ∃ (D : Addr) (c : V) (cv : Value) (b : Bool), cls = .ref D ∧ d = none ∧ L2.ExcC K D ∧ xs = [.ref a, c] ∧ (∀ u, RelV c u → u = cv) ∧ PySem.W.kitOne K (.ref D) cv = some b ∧ Q (.bl b) H
theorem call_isEx {X : Cx} {a : Addr} {cls : Value} {d : Option Addr} {oe : Obj} {pn : List (Addr × Obj)} (hz : Zc cls d oe) (hf : ∃ vs, oe.data = .fields vs) : CallR (X.suite a ((a, oe) :: pn)) (.builtin "isinstance") (rIsEx X.K cls d a) := by
  intro pins s σ H xs us Q I r h
  obtain ⟨D, c, cv, b, rfl, rfl, C, h⟩ := h
  exact call_isE C hz hf pins s σ H xs us Q I r ⟨c, cv, b, h⟩
theorem pe_no {X : Cx} {e : Expr} : PE X e (fun _ _ _ => False) := ⟨fun pins s σ H Q I h => h.elim⟩
/-- the slots are as many as the names -/
theorem pss_len {X : Cx} {sts : List Stmt} {t : TS} (n : Nat) (hn : X.N.length = n) (h : PSs X sts t) : PSs X sts (fun D σ H => σ.length = n → t D σ H) := ⟨fun pins s σ H D I q => h.run pins s σ H D I (q (I.len.trans hn))⟩
theorem ps_try_asL {X : Cx} {body suite : List Stmt} {b₀ : Stmt} {x n : Str} {np pos pos' : Pos} {i : Nat} {c : Value} {Wout : WX} {tb : WX → TS} {ts : Addr → Value → Option Addr → TS} (k : Nat) (hk : X.N.length = k) (hs : X.stack = X.env :: X.outer) (hf : X.env.frame = some X.env.locals) (hN : X.N.Nodup) (hi : X.N[i]? = some n) (hln : X.env.kindOf n = some .local) (hc : Names X x c) (tk : Takes X Wout)
    (hb : ∀ (W : WX) (pn : List (Addr × Obj)) (xe : Value → Shared → Prop), Takes (X.tr pn xe) W → PassesOwn (model X.prog X.w) X.A X.env xe → PSs (X.tr pn xe) body (tb W))
    (hsu : ∀ (a : Addr) (oe : Obj) (cls : Value) (d : Option Addr) (pn : List (Addr × Obj)), Zc cls d oe → (∃ vs, oe.data = .fields vs) → PSs (X.suite a ((a, oe) :: pn)) (b₀ :: suite) (ts a cls d)) :
    PS X (.Try body [.ExceptHandler (some (.Name x np)) (some n) (b₀ :: suite) pos'] [] [] pos) (fun D σ H => tb (wAs X.K c i (fun a cls d D σ H => σ.length = k → ts a cls d D σ H) Wout D) D σ H) :=
  ps_try_as hs hf hN hi hln hc tk hb (fun a oe cls d pn hz hf => pss_len k hk (hsu a oe cls d pn hz hf))
end SwA

namespace Sw
open PySem PySem.Spec PyProof.Rows L2 SwA
def wordN : List Str := ["tick", "number", "sign", "long", "other", "contradiction", "name", "unknown", "syntax", "check", "code", "operation"]
theorem xcB_ok {K : PySem.W.Frag} {D : Addr} (h : xcB K D = true) : L2.ExcC K D := by
  obtain ⟨h1, h⟩ := He.ba h
  obtain ⟨h2, h⟩ := He.ba h
  obtain ⟨h3, h⟩ := He.ba h
  obtain ⟨h4, h⟩ := He.ba h
  obtain ⟨h5, h⟩ := He.ba h
  obtain ⟨h6, h⟩ := He.ba h
  obtain ⟨h7, h8⟩ := He.ba h
  exact ⟨He.eqO_ok h1, He.eqO_ok h2, of_decide_eq_true h3, h4, He.eqO_ok h5, He.eqO_ok h6, of_decide_eq_true h7, of_decide_eq_true h8⟩
/-- an error's class, the j-th -/
structure EKind (K : PySem.W.Frag) (D : Str) (j : Nat) : Prop where
  ex : L2.ExcC K (He.ga K D)
  exm : PySem.W.exmOne K (.ref (He.ga K D)) (.ref (He.ga K "SweepError")) = some true
  ve : PySem.W.kitOne K (.ref (He.ga K D)) (.type "ValueError") = some true
  kd : ∀ q ∈ clsN.zipIdx, PySem.W.kitOne K (.ref (He.ga K D)) (.ref (He.ga K q.1)) = some (decide (q.2 = j))
theorem ekB_ok {K : PySem.W.Frag} {D : Str} {j : Nat} (h : ekB K D j = true) : EKind K D j := by
  obtain ⟨h1, h⟩ := He.ba h
  obtain ⟨h2, h⟩ := He.ba h
  obtain ⟨h3, h4⟩ := He.ba h
  exact ⟨xcB_ok h1, of_decide_eq_true h2, of_decide_eq_true h3, fun q hq => of_decide_eq_true (List.all_eq_true.mp h4 q hq)⟩
structure EofT (K : PySem.W.Frag) (mg : Str → Option Value) : Prop where
  isinstance : mg "isinstance" = none
  VE : mg "ValueError" = none
  sw : mg "SweepError" = some (.ref (He.ga K "SweepError"))
  g : ∀ n ∈ clsN, mg n = some (.ref (He.ga K n))
  d : DeT K mg "_law_error_of" s__law_error_of
abbrev eofN : List Str := ["_law_call", "e", "_law_kinds", "_law_names", "_law_name"]
theorem sc_eof : FnScope eofN ["_law_call"] (defScope s__law_error_of) := ⟨rfl, rfl, rfl, by decide +kernel, rfl, by decide +kernel, by decide +kernel⟩
/-- an error of no fields, told by the law -/
def ErrW (K : PySem.W.Frag) (cls : Value) (d : Option Addr) (H : Hp) (Q : VK) : Prop := ∃ (D : Str) (j : Nat) (z : Str), cls = .ref (He.ga K D) ∧ d = none ∧ EKind K D j ∧ j < 8 ∧ wordN[j]? = some z ∧ ∀ (t : Addr) (H' : Hp), Same H H' → H' t = some (.tup [.str z, .int 0]) → Q (.ref t) H'
def TErr (K : PySem.W.Frag) : (XK → Hp → VK → Prop) → Hp → VK → Prop := fun tl H Q => tl (fun cls d H' => ErrW K cls d H' Q) H (fun _ H' => Q .non H')
abbrev bsJ (j : Nat) : List Bool := [decide (0 = j), decide (1 = j), decide (2 = j), decide (3 = j), decide (4 = j), decide (5 = j), decide (6 = j), decide (7 = j), decide (8 = j), decide (9 = j), decide (10 = j), decide (11 = j)]
theorem bs_count : ∀ {j : Nat}, j < 12 → (bsJ j).countP id = 1 := by decide
theorem bs_at {j : Nat} (h : j < 12) : ((bsJ j).map V.bl)[j]? = some (.bl true) ∧ ∀ (m : Nat) (z : V), m < j → ((bsJ j).map V.bl)[m]? = some z → eqV z (.bl true) = false := by
  have a : ∀ j, j < 12 → (bsJ j)[j]? = some true ∧ ∀ m, m < j → (bsJ j)[m]? = some false := by decide
  obtain ⟨a1, a2⟩ := a j h
  refine ⟨by rw [List.getElem?_map, a1]; rfl, fun m z hm hz => ?_⟩
  rw [List.getElem?_map, a2 m hm] at hz
  cases hz
  rfl
theorem wordV {j : Nat} {z : Str} (h : wordN[j]? = some z) : (wordN.map V.str)[j]? = some (.str z) := by rw [List.getElem?_map, h]; rfl
theorem word_out {j : Nat} {z : Str} (hj : j < 8) (h : wordN[j]? = some z) : inV (.str z) [.str "syntax", .str "check"] = false ∧ inV (.str z) [.str "code", .str "operation"] = false := by
  have a : ∀ j, j < 8 → ∀ z, wordN[j]? = some z → inV (.str z) [.str "syntax", .str "check"] = false ∧ inV (.str z) [.str "code", .str "operation"] = false := by
    intro j hj z hz
    match j, hj with
    | 0, _ => cases hz; exact ⟨by decide +kernel, by decide +kernel⟩
    | 1, _ => cases hz; exact ⟨by decide +kernel, by decide +kernel⟩
    | 2, _ => cases hz; exact ⟨by decide +kernel, by decide +kernel⟩
    | 3, _ => cases hz; exact ⟨by decide +kernel, by decide +kernel⟩
    | 4, _ => cases hz; exact ⟨by decide +kernel, by decide +kernel⟩
    | 5, _ => cases hz; exact ⟨by decide +kernel, by decide +kernel⟩
    | 6, _ => cases hz; exact ⟨by decide +kernel, by decide +kernel⟩
    | 7, _ => cases hz; exact ⟨by decide +kernel, by decide +kernel⟩
  exact a j hj z h
section
variable {X : Cx}
def hdB : List Stmt → List Stmt
  | (.Try _ [.ExceptHandler _ _ b _] _ _ _) :: _ => b
  | _ => []
abbrev eofX (X : Cx) (g : Addr) (cdg : Value) (s : Shared) (H : Hp) : Cx := (cxOf C8.CX0 X.prog X.w X.K X.mg X.base eofN "_law_error_of" (defScope s__law_error_of) g cdg X.A X.stack s H C8.E0).nox
theorem err_gives (T : EofT X.K X.mg) {g : Addr} {cdg : Value} {q : Str} (hu3 : ∀ s : Shared, (X.A.deeper (envOfC "_law_error_of" (defScope s__law_error_of) s.heap.objs.size g cdg)).units + 3 < cLine) : LamX.GivesTo X eofN "_law_error_of" (defScope s__law_error_of) g cdg (defBody s__law_error_of) "_law_call" q (TErr X.K) := by
  intro f c' s H Q tl act hc h
  replace hu3 := hu3 s
  refine ⟨_, pss_cons (ps_try_asL (X := eofX X g cdg s H) (i := 1) (c := .ref (He.ga X.K "SweepError")) (ts := ?ts)
      (tb := fun W D σ H => ∃ Ech : XK, (∀ cls d σ' H', Ech cls d H' → W cls d σ' H') ∧ σ[0]? = some (some (.ref f)) ∧ H c' = some (LamX.CodeO c' q) ∧ tl Ech H (fun _ H' => D.nx σ H'))
      5 rfl rfl rfl sc_eof.nd rfl rfl ⟨rfl, by decide, .inl T.sw⟩ LamX.takes0 ?bo ?su)
    (pss_one (ps_ret pe_non)), ?fin⟩
  case su =>
    intro a oe cls d pn hz hf
    have su : PSs ((eofX X g cdg s H).suite a ((a, oe) :: pn)) (hdB (defBody s__law_error_of)) _ := (pss_cons (ps_set (i := 2) sc_eof.nd rfl (.inl rfl) (pe_lst (pa_cons (pe_callB (call_isEx (X := eofX X g cdg s H) hz hf) (by rfl) T.isinstance (by decide +kernel) (pa_cons (pv 1) (pa_cons (pe_glob (v := .ref (He.ga X.K "InvalidTick")) (by rfl) (T.g "InvalidTick" (by decide +kernel)) rfl) pa_nil))) (pa_cons (pe_callB (call_isEx (X := eofX X g cdg s H) hz hf) (by rfl) T.isinstance (by decide +kernel) (pa_cons (pv 1) (pa_cons (pe_glob (v := .ref (He.ga X.K "InvalidNumber")) (by rfl) (T.g "InvalidNumber" (by decide +kernel)) rfl) pa_nil))) (pa_cons (pe_callB (call_isEx (X := eofX X g cdg s H) hz hf) (by rfl) T.isinstance (by decide +kernel) (pa_cons (pv 1) (pa_cons (pe_glob (v := .ref (He.ga X.K "UnknownSign")) (by rfl) (T.g "UnknownSign" (by decide +kernel)) rfl) pa_nil))) pa_nil)))))
      (pss_cons (ps_set (i := 2) sc_eof.nd rfl (.inl rfl) (pe_op op_cat (pv 2) (pe_lst (pa_cons (pe_callB (call_isEx (X := eofX X g cdg s H) hz hf) (by rfl) T.isinstance (by decide +kernel) (pa_cons (pv 1) (pa_cons (pe_glob (v := .ref (He.ga X.K "TooLong")) (by rfl) (T.g "TooLong" (by decide +kernel)) rfl) pa_nil))) (pa_cons (pe_callB (call_isEx (X := eofX X g cdg s H) hz hf) (by rfl) T.isinstance (by decide +kernel) (pa_cons (pv 1) (pa_cons (pe_glob (v := .ref (He.ga X.K "OtherCorridor")) (by rfl) (T.g "OtherCorridor" (by decide +kernel)) rfl) pa_nil))) (pa_cons (pe_callB (call_isEx (X := eofX X g cdg s H) hz hf) (by rfl) T.isinstance (by decide +kernel) (pa_cons (pv 1) (pa_cons (pe_glob (v := .ref (He.ga X.K "Contradiction")) (by rfl) (T.g "Contradiction" (by decide +kernel)) rfl) pa_nil))) pa_nil))))))
      (pss_cons (ps_set (i := 2) sc_eof.nd rfl (.inl rfl) (pe_op op_cat (pv 2) (pe_lst (pa_cons (pe_callB (call_isEx (X := eofX X g cdg s H) hz hf) (by rfl) T.isinstance (by decide +kernel) (pa_cons (pv 1) (pa_cons (pe_glob (v := .ref (He.ga X.K "InvalidName")) (by rfl) (T.g "InvalidName" (by decide +kernel)) rfl) pa_nil))) (pa_cons (pe_callB (call_isEx (X := eofX X g cdg s H) hz hf) (by rfl) T.isinstance (by decide +kernel) (pa_cons (pv 1) (pa_cons (pe_glob (v := .ref (He.ga X.K "UnknownName")) (by rfl) (T.g "UnknownName" (by decide +kernel)) rfl) pa_nil))) (pa_cons (pe_callB (call_isEx (X := eofX X g cdg s H) hz hf) (by rfl) T.isinstance (by decide +kernel) (pa_cons (pv 1) (pa_cons (pe_glob (v := .ref (He.ga X.K "SyntaxFault")) (by rfl) (T.g "SyntaxFault" (by decide +kernel)) rfl) pa_nil))) pa_nil))))))
      (pss_cons (ps_set (i := 2) sc_eof.nd rfl (.inl rfl) (pe_op op_cat (pv 2) (pe_lst (pa_cons (pe_callB (call_isEx (X := eofX X g cdg s H) hz hf) (by rfl) T.isinstance (by decide +kernel) (pa_cons (pv 1) (pa_cons (pe_glob (v := .ref (He.ga X.K "CheckFault")) (by rfl) (T.g "CheckFault" (by decide +kernel)) rfl) pa_nil))) (pa_cons (pe_callB (call_isEx (X := eofX X g cdg s H) hz hf) (by rfl) T.isinstance (by decide +kernel) (pa_cons (pv 1) (pa_cons (pe_glob (v := .ref (He.ga X.K "InvalidCode")) (by rfl) (T.g "InvalidCode" (by decide +kernel)) rfl) pa_nil))) (pa_cons (pe_callB (call_isEx (X := eofX X g cdg s H) hz hf) (by rfl) T.isinstance (by decide +kernel) (pa_cons (pv 1) (pa_cons (pe_glob (v := .ref (He.ga X.K "InvalidOperation")) (by rfl) (T.g "InvalidOperation" (by decide +kernel)) rfl) pa_nil))) pa_nil))))))
      (pss_cons (ps_if (PW.pt (pw_or (pt_cmpR op_ne (pe_bm PySem.F.plainAttrs_list PySem.F.slot_list_count PySem.F.type_list_count (mt_bcount (X := (eofX X g cdg s H).suite a ((a, oe) :: pn)) hu3) (pv 2) (pa_cons pe_bl pa_nil)) pe_int (nomark _)) (pw_or1 (pt_not (pt_val (pe_callB (call_isEx (X := eofX X g cdg s H) hz hf) (by rfl) T.isinstance (by decide +kernel) (pa_cons (pv 1) (pa_cons (pe_bltn (v := .ty "ValueError") (by rfl) T.VE (by decide +kernel) rfl) pa_nil))))))))
        (pss_one (ps_ret (pe_tup (pa_cons pe_str (pa_cons pe_int pa_nil))))) pss_nil)
      (pss_cons (ps_set (i := 3) sc_eof.nd rfl (.inl rfl) (pe_lst (pa_cons pe_str (pa_cons pe_str (pa_cons pe_str (pa_cons pe_str (pa_cons pe_str (pa_cons pe_str (pa_cons pe_str (pa_cons pe_str (pa_cons pe_str (pa_cons pe_str pa_nil))))))))))))
      (pss_cons (ps_set (i := 4) sc_eof.nd rfl (.inl rfl) (pe_ix ix_list (pe_op op_cat (pv 3) (pe_lst (pa_cons pe_str (pa_cons pe_str pa_nil)))) (pe_bm PySem.F.plainAttrs_list PySem.F.slot_list_index PySem.F.type_list_index mt_index (pv 2) (pa_cons pe_bl pa_nil)) (fun _ _ => rfl)))
      (pss_cons (ps_if (pt_cmpR op_in_seq (pv 4) (pe_lst (pa_cons pe_str (pa_cons pe_str pa_nil))) (by rfl))
        (pss_one (ps_ret (pe_tup (pa_cons (pv 4) (pa_cons (pe_ifExp (pt_cmpR op_eq (pv 4) pe_str (nomark _)) pe_no pe_no) pa_nil))))) pss_nil)
      (pss_one (ps_ret (pe_tup (pa_cons (pv 4) (pa_cons (pe_ifExp (pt_cmpR op_in_seq (pv 4) (pe_lst (pa_cons pe_str (pa_cons pe_str pa_nil))) (by rfl)) pe_no pe_int) pa_nil)))))))))))))
    have hK : ((eofX X g cdg s H).suite a ((a, oe) :: pn)).K = X.K := rfl
    rw [hK] at su
    exact su
  case bo =>
    intro W pn xe tk _
    refine ⟨fun pins s' σ H' D I h' => ?_⟩
    obtain ⟨Ech, hW, h1, h2, h3⟩ := h'
    exact (pss_one (ps_expr (act W pn xe Ech _ _ tk hW))).run pins s' σ H' D I ⟨h1, h2, h3⟩
  case fin =>
    refine ⟨fun cls d H' => ErrW X.K cls d H' Q, fun cls d σ' H' hE => ?_, rfl, hc, h⟩
    obtain ⟨D, j, z, rfl, rfl, ek, hj, hz, kq⟩ := hE
    refine ⟨true, ek.exm, fun _ a na hl => ?_, fun z => nomatch z⟩
    obtain ⟨x0, x1, x2, x3, x4, rfl⟩ : ∃ x0 x1 x2 x3 x4, σ' = [x0, x1, x2, x3, x4] := by
      have hl : (σ'.set 1 (some (.ref a))).length = 5 := hl
      rw [List.length_set] at hl
      match σ', hl with
      | [x0, x1, x2, x3, x4], _ => exact ⟨x0, x1, x2, x3, x4, rfl⟩
    clear hl
    refine ⟨_, rfl, He.ga X.K D, _, _, decide (0 = j), rfl, rfl, ek.ex, rfl, (fun _ h => h), ek.kd ("InvalidTick", 0) (by decide +kernel), _, rfl, He.ga X.K D, _, _, decide (1 = j), rfl, rfl, ek.ex, rfl, (fun _ h => h), ek.kd ("InvalidNumber", 1) (by decide +kernel), _, rfl, He.ga X.K D, _, _, decide (2 = j), rfl, rfl, ek.ex, rfl, (fun _ h => h), ek.kd ("UnknownSign", 2) (by decide +kernel), (by show 3 ≤ sizeLine; decide), fun p1 np1 => ?_⟩
    have s1 := sameUpd (o := .lst [.bl (decide (0 = j)), .bl (decide (1 = j)), .bl (decide (2 = j))]) (Same.refl H') np1
    have hp1 := @upd_same H' p1 (.lst [.bl (decide (0 = j)), .bl (decide (1 = j)), .bl (decide (2 = j))])
    generalize upd H' p1 (.lst [.bl (decide (0 = j)), .bl (decide (1 = j)), .bl (decide (2 = j))]) = H1 at *
    refine ⟨_, rfl, _, rfl, He.ga X.K D, _, _, decide (3 = j), rfl, rfl, ek.ex, rfl, (fun _ h => h), ek.kd ("TooLong", 3) (by decide +kernel), _, rfl, He.ga X.K D, _, _, decide (4 = j), rfl, rfl, ek.ex, rfl, (fun _ h => h), ek.kd ("OtherCorridor", 4) (by decide +kernel), _, rfl, He.ga X.K D, _, _, decide (5 = j), rfl, rfl, ek.ex, rfl, (fun _ h => h), ek.kd ("Contradiction", 5) (by decide +kernel), (by show 3 ≤ sizeLine; decide), fun p2 np2 => ?_⟩
    have u0 := sameUpd (o := .lst [.bl (decide (3 = j)), .bl (decide (4 = j)), .bl (decide (5 = j))]) (Same.refl H1) np2
    have hp2 := @upd_same H1 p2 (.lst [.bl (decide (3 = j)), .bl (decide (4 = j)), .bl (decide (5 = j))])
    replace hp1 := u0 _ _ hp1
    replace s1 := s1.trans u0
    generalize upd H1 p2 (.lst [.bl (decide (3 = j)), .bl (decide (4 = j)), .bl (decide (5 = j))]) = H2 at *
    refine ⟨p1, p2, _, _, rfl, rfl, hp1, hp2, (by show 6 ≤ sizeLine; decide), fun p3 np3 => ?_⟩
    have u1 := sameUpd (o := .lst ([.bl (decide (0 = j)), .bl (decide (1 = j)), .bl (decide (2 = j))] ++ [.bl (decide (3 = j)), .bl (decide (4 = j)), .bl (decide (5 = j))])) (Same.refl H2) np3
    have hp3 := @upd_same H2 p3 (.lst ([.bl (decide (0 = j)), .bl (decide (1 = j)), .bl (decide (2 = j))] ++ [.bl (decide (3 = j)), .bl (decide (4 = j)), .bl (decide (5 = j))]))
    replace s1 := s1.trans u1
    generalize upd H2 p3 (.lst ([.bl (decide (0 = j)), .bl (decide (1 = j)), .bl (decide (2 = j))] ++ [.bl (decide (3 = j)), .bl (decide (4 = j)), .bl (decide (5 = j))])) = H3 at *
    refine ⟨_, rfl, _, rfl, He.ga X.K D, _, _, decide (6 = j), rfl, rfl, ek.ex, rfl, (fun _ h => h), ek.kd ("InvalidName", 6) (by decide +kernel), _, rfl, He.ga X.K D, _, _, decide (7 = j), rfl, rfl, ek.ex, rfl, (fun _ h => h), ek.kd ("UnknownName", 7) (by decide +kernel), _, rfl, He.ga X.K D, _, _, decide (8 = j), rfl, rfl, ek.ex, rfl, (fun _ h => h), ek.kd ("SyntaxFault", 8) (by decide +kernel), (by show 3 ≤ sizeLine; decide), fun p4 np4 => ?_⟩
    have u2 := sameUpd (o := .lst [.bl (decide (6 = j)), .bl (decide (7 = j)), .bl (decide (8 = j))]) (Same.refl H3) np4
    have hp4 := @upd_same H3 p4 (.lst [.bl (decide (6 = j)), .bl (decide (7 = j)), .bl (decide (8 = j))])
    replace hp3 := u2 _ _ hp3
    replace s1 := s1.trans u2
    generalize upd H3 p4 (.lst [.bl (decide (6 = j)), .bl (decide (7 = j)), .bl (decide (8 = j))]) = H4 at *
    refine ⟨p3, p4, _, _, rfl, rfl, hp3, hp4, (by show 9 ≤ sizeLine; decide), fun p5 np5 => ?_⟩
    have u3 := sameUpd (o := .lst (([.bl (decide (0 = j)), .bl (decide (1 = j)), .bl (decide (2 = j))] ++ [.bl (decide (3 = j)), .bl (decide (4 = j)), .bl (decide (5 = j))]) ++ [.bl (decide (6 = j)), .bl (decide (7 = j)), .bl (decide (8 = j))])) (Same.refl H4) np5
    have hp5 := @upd_same H4 p5 (.lst (([.bl (decide (0 = j)), .bl (decide (1 = j)), .bl (decide (2 = j))] ++ [.bl (decide (3 = j)), .bl (decide (4 = j)), .bl (decide (5 = j))]) ++ [.bl (decide (6 = j)), .bl (decide (7 = j)), .bl (decide (8 = j))]))
    replace s1 := s1.trans u3
    generalize upd H4 p5 (.lst (([.bl (decide (0 = j)), .bl (decide (1 = j)), .bl (decide (2 = j))] ++ [.bl (decide (3 = j)), .bl (decide (4 = j)), .bl (decide (5 = j))]) ++ [.bl (decide (6 = j)), .bl (decide (7 = j)), .bl (decide (8 = j))])) = H5 at *
    refine ⟨_, rfl, _, rfl, He.ga X.K D, _, _, decide (9 = j), rfl, rfl, ek.ex, rfl, (fun _ h => h), ek.kd ("CheckFault", 9) (by decide +kernel), _, rfl, He.ga X.K D, _, _, decide (10 = j), rfl, rfl, ek.ex, rfl, (fun _ h => h), ek.kd ("InvalidCode", 10) (by decide +kernel), _, rfl, He.ga X.K D, _, _, decide (11 = j), rfl, rfl, ek.ex, rfl, (fun _ h => h), ek.kd ("InvalidOperation", 11) (by decide +kernel), (by show 3 ≤ sizeLine; decide), fun p6 np6 => ?_⟩
    have u4 := sameUpd (o := .lst [.bl (decide (9 = j)), .bl (decide (10 = j)), .bl (decide (11 = j))]) (Same.refl H5) np6
    have hp6 := @upd_same H5 p6 (.lst [.bl (decide (9 = j)), .bl (decide (10 = j)), .bl (decide (11 = j))])
    replace hp5 := u4 _ _ hp5
    replace s1 := s1.trans u4
    generalize upd H5 p6 (.lst [.bl (decide (9 = j)), .bl (decide (10 = j)), .bl (decide (11 = j))]) = H6 at *
    refine ⟨p5, p6, _, _, rfl, rfl, hp5, hp6, (by show 12 ≤ sizeLine; decide), fun p7 np7 => ?_⟩
    have u5 := sameUpd (o := .lst ((([.bl (decide (0 = j)), .bl (decide (1 = j)), .bl (decide (2 = j))] ++ [.bl (decide (3 = j)), .bl (decide (4 = j)), .bl (decide (5 = j))]) ++ [.bl (decide (6 = j)), .bl (decide (7 = j)), .bl (decide (8 = j))]) ++ [.bl (decide (9 = j)), .bl (decide (10 = j)), .bl (decide (11 = j))])) (Same.refl H6) np7
    have hp7 := @upd_same H6 p7 (.lst ((([.bl (decide (0 = j)), .bl (decide (1 = j)), .bl (decide (2 = j))] ++ [.bl (decide (3 = j)), .bl (decide (4 = j)), .bl (decide (5 = j))]) ++ [.bl (decide (6 = j)), .bl (decide (7 = j)), .bl (decide (8 = j))]) ++ [.bl (decide (9 = j)), .bl (decide (10 = j)), .bl (decide (11 = j))]))
    replace s1 := s1.trans u5
    generalize upd H6 p7 (.lst ((([.bl (decide (0 = j)), .bl (decide (1 = j)), .bl (decide (2 = j))] ++ [.bl (decide (3 = j)), .bl (decide (4 = j)), .bl (decide (5 = j))]) ++ [.bl (decide (6 = j)), .bl (decide (7 = j)), .bl (decide (8 = j))]) ++ [.bl (decide (9 = j)), .bl (decide (10 = j)), .bl (decide (11 = j))])) = H7 at *
    have hk : H7 p7 = some (.lst ((bsJ j).map V.bl)) := hp7
    have hj12 : j < 12 := by omega
    refine ⟨_, rfl, .inl ⟨rfl, _, SqL.of hk⟩, p7, bsJ j, rfl, rfl, SqL.of hk, ?_⟩
    rw [bs_count hj12]
    refine ⟨rfl, false, rfl, iteF ?_⟩
    refine ⟨_, rfl, He.ga X.K D, _, _, true, rfl, rfl, ek.ex, rfl, (fun _ h => h), ek.ve, _, rfl, ?_⟩
    refine ⟨(by show 10 ≤ sizeLine; decide), fun p8 np8 => ?_⟩
    have u6 := sameUpd (o := .lst [.str "tick", .str "number", .str "sign", .str "long", .str "other", .str "contradiction", .str "name", .str "unknown", .str "syntax", .str "check"]) (Same.refl H7) np8
    have hp8 := @upd_same H7 p8 (.lst [.str "tick", .str "number", .str "sign", .str "long", .str "other", .str "contradiction", .str "name", .str "unknown", .str "syntax", .str "check"])
    replace hk := u6 _ _ hk
    replace s1 := s1.trans u6
    generalize upd H7 p8 (.lst [.str "tick", .str "number", .str "sign", .str "long", .str "other", .str "contradiction", .str "name", .str "unknown", .str "syntax", .str "check"]) = H8 at *
    refine ⟨_, rfl, (by show 2 ≤ sizeLine; decide), fun p9 np9 => ?_⟩
    have u7 := sameUpd (o := .lst [.str "code", .str "operation"]) (Same.refl H8) np9
    have hp9 := @upd_same H8 p9 (.lst [.str "code", .str "operation"])
    replace hk := u7 _ _ hk
    replace hp8 := u7 _ _ hp8
    replace s1 := s1.trans u7
    generalize upd H8 p9 (.lst [.str "code", .str "operation"]) = H9 at *
    refine ⟨p8, p9, _, _, rfl, rfl, hp8, hp9, (by show 12 ≤ sizeLine; decide), fun p10 np10 => ?_⟩
    have u8 := sameUpd (o := .lst ([.str "tick", .str "number", .str "sign", .str "long", .str "other", .str "contradiction", .str "name", .str "unknown", .str "syntax", .str "check"] ++ [.str "code", .str "operation"])) (Same.refl H9) np10
    have hp10 := @upd_same H9 p10 (.lst ([.str "tick", .str "number", .str "sign", .str "long", .str "other", .str "contradiction", .str "name", .str "unknown", .str "syntax", .str "check"] ++ [.str "code", .str "operation"]))
    replace hk := u8 _ _ hk
    replace s1 := s1.trans u8
    generalize upd H9 p10 (.lst ([.str "tick", .str "number", .str "sign", .str "long", .str "other", .str "contradiction", .str "name", .str "unknown", .str "syntax", .str "check"] ++ [.str "code", .str "operation"])) = H10 at *
    obtain ⟨b1, b2⟩ := bs_at hj12
    refine ⟨_, rfl, .inl ⟨rfl, _, SqL.of hk⟩, p7, _, _, j, .bl true, rfl, rfl, SqL.of hk, rfl, rfl, b1, rfl, b2, p10, _, _, _, rfl, rfl, SqL.of hp10, atI_nat (wordV hz), ?_⟩
    obtain ⟨w1, w2⟩ := word_out hj hz
    refine ⟨_, rfl, (by show 2 ≤ sizeLine; decide), fun p11 np11 => ?_⟩
    have u9 := sameUpd (o := .lst [.str "syntax", .str "check"]) (Same.refl H10) np11
    have hp11 := @upd_same H10 p11 (.lst [.str "syntax", .str "check"])
    replace s1 := s1.trans u9
    generalize upd H10 p11 (.lst [.str "syntax", .str "check"]) = H11 at *
    refine ⟨p11, _, rfl, .inl (SqL.of hp11), rfl, rfl, false, congrArg V.bl w1, iteF ?_⟩
    refine ⟨_, rfl, _, rfl, (by show 2 ≤ sizeLine; decide), fun p12 np12 => ?_⟩
    have u10 := sameUpd (o := .lst [.str "code", .str "operation"]) (Same.refl H11) np12
    have hp12 := @upd_same H11 p12 (.lst [.str "code", .str "operation"])
    replace s1 := s1.trans u10
    generalize upd H11 p12 (.lst [.str "code", .str "operation"]) = H12 at *
    refine ⟨p12, _, rfl, .inl (SqL.of hp12), rfl, rfl, false, congrArg V.bl w2, iteF ?_⟩
    exact ⟨(by show 2 ≤ sizeLine; decide), fun t nt => kq t _ (s1.trans (sameUpd (Same.refl _) nt)) upd_same⟩
end
end Sw

end

section
set_option maxRecDepth 100000
set_option maxHeartbeats 4000000
/-! a lambda with parameters, handed to a method that calls it: its object is tracked, what it captured lies in a larger base -/
namespace SwA
open PySem PySem.Spec PyProof.Rows L2 LamX NdefX
/-- the object at f is the lambda F, its body e -/
def LamO (f : Addr) (F : NF) (e : Expr) : HO := .ext fun h => ∃ (od : Option Addr) (sl : Array (Option Value)) (pm ctv : Value), h.get? f = some (⟨.type "function", od, .func (PySem.W.kla_fn F.name F.qual F.params e F.scope F.cl pm (.ref F.c) ctv), sl⟩ : Obj)
theorem lamO_ne {f : Addr} {F : NF} {e : Expr} (ps : Array Value) : LamO f F e ≠ .tbl ps := fun z => by
  unfold LamO at z
  cases z
theorem lamO_at {P : Program} {w : World} {H : Hp} {h : Heap} {f : Addr} {F : NF} {e : Expr} (hok : HOk P w H h) (q : H f = some (LamO f F e)) :
    ∃ (od : Option Addr) (sl : Array (Option Value)) (pm ctv : Value), h.get? f = some (⟨.type "function", od, .func (PySem.W.kla_fn F.name F.qual F.params e F.scope F.cl pm (.ref F.c) ctv), sl⟩ : Obj) := (hok f _ q).1
section
variable {X : Cx} {pins : List (Addr × Obj)} {σ : L2.St} {H : Hp} {s : Shared}
theorem inv_lam {F : NF} {e : Expr} {o : Obj} {tk : Nat} {pm ctv : Value} (I : Inv X pins σ H s) (ho : o = PySem.W.kla_obj F.name F.qual F.params e F.scope F.cl pm F.c ctv) :
    Inv X pins σ (upd H s.heap.objs.size (LamO s.heap.objs.size F e)) { s with heap := s.heap.push o, toks := tk } := by
  have g : (s.heap.push o).get? s.heap.objs.size = some o := Heap.get?_push_size _ (by rw [ho]; rfl)
  refine I.laid (a := s.heap.objs.size) (fun b u q => Heap.get?_push_of_some _ q) (Nat.le_refl _) ⟨⟨none, #[], pm, ctv, ?_⟩, ⟨o, g⟩, fun h1 h2 z st => ?_⟩
  · rw [g, ho]
  · obtain ⟨a, b, c, d, z⟩ := z
    exact ⟨a, b, c, d, st _ z⟩
abbrev mkL (X : Cx) (params : Arguments) (scope : Scope) (c' : Addr) : NF := ⟨"<lambda>", X.env.qual ++ "<lambda>", params, [], scope, cloFrom X.env.cells scope.names [], c'⟩
theorem lam_track {T : List (Addr × Str)} {c P : Addr} {params : Arguments} {body : Expr} {scope : Scope} {pos : Pos} {E Q : Value → Shared → Prop} (I : Inv X pins σ H s) (TB : TabB X.base X.mg c P) (hcode : X.env.code = .ref c)
    (hm : (P, X.env.qual ++ "<lambda>") ∈ T) (hu : ∀ p ∈ T, p.1 = P → p.2 = X.env.qual ++ "<lambda>") (hT : Tabs T H) (hdef : defaultsOf params X.env = ([], [])) (hfree : ∀ y ∈ scope.names, y.2 = .free → ∃ c, X.env.cells.lookup y.1 = some c)
    (h : ∀ (f c' : Addr) (H1 : Hp) (s' : Shared), Inv X pins σ H1 s' → ExtN H H1 → Tabs T H1 → H f = none → H1 f = some (LamO f (mkL X params scope c') body) → H1 c' = some (CodeO c' (X.env.qual ++ "<lambda>")) → Q (.ref f) s') :
    wpAny (model X.prog X.w) X.A (eval (.Lambda params body scope pos) X.env) Q E s := by
  obtain ⟨ps, hP, ht, ha⟩ := hT _ hm
  have bP := TB.bm.keeps I.bk
  have gP : s.heap.get? P = some { cls := .none, data := .fields ps } := I.hok P _ hP
  refine PySem.W.kla_eval hdef ?_
  -- the end: the function's object is tracked
  have fin : ∀ (H1 : Hp) (h1 : Heap) (t1 tk : Nat) (c' : Addr) (ctv : Value), Inv X pins σ H1 { s with heap := h1, toks := t1 } → ExtN H H1 → Tabs T H1 → H1 c' = some (CodeO c' (X.env.qual ++ "<lambda>")) → s.heap.objs.size ≤ h1.objs.size →
      Q (.ref h1.objs.size) { s with heap := h1.push (PySem.W.kla_obj "<lambda>" (X.env.qual ++ "<lambda>") params body scope (cloFrom X.env.cells scope.names []) ((X.mg "__name__").getD .none) c' ctv), toks := tk } := fun H1 h1 t1 tk c' ctv I1 e1 T1 hc hz => by
    have n1 : H1 h1.objs.size = none := I1.hok.fresh (Nat.le_refl _)
    have I2 := inv_lam (F := mkL X params scope c') (e := body) (tk := tk) (pm := (X.mg "__name__").getD .none) (ctv := ctv) I1 rfl
    have up : ∀ b o, H1 b = some o → upd H1 h1.objs.size (LamO h1.objs.size (mkL X params scope c') body) b = some o := fun b o q => (upd_ne (ne_of_none q n1)).trans q
    exact h h1.objs.size c' _ _ I2 (fun b o q n => up b o (e1 b o q n)) (T1.ext up) (I.hok.fresh hz) upd_same (up _ _ hc)
  cases hc : codeAmong pos ps.toList with
  | some cv =>
    obtain ⟨c', e, hco⟩ := ha pos cv hc
    subst e
    exact PySem.W.kla_makeFunctionHit (mg := X.mg) (c := c) (P := P) (ps := ps) (closure_ok hfree) I.ok.glob (I.mod.glob.keeps I.bk) hcode (TB.code.keeps I.bk) gP ht hc bP fun ctv h' tk hx hz =>
      fin H h' tk tk c' ctv (I.kept hx) (ExtN.refl H) hT hco hz
  | none =>
    refine PySem.W.kla_makeFunction (mg := X.mg) (c := c) (P := P) (ps := ps) (closure_ok hfree) I.ok.glob (I.mod.glob.keeps I.bk) hcode (TB.code.keeps I.bk) gP ht hc TB.gP bP fun c' ctv h' tk hx hge hlt hrec htb => ?_
    obtain ⟨c2, oc, vs, t, e2, r⟩ := hrec
    cases e2
    have nC : H c' = none := I.hok.fresh hge
    have I1 := inv_table (t' := tk) (more := #[rawInt pos.line, rawInt pos.col, .ref c']) (h' := h') (q := X.env.qual ++ "<lambda>") I hP (fun b o nb q => hx b o nb q) htb hge ⟨oc, vs, t, r⟩
    have up : ExtN H (upd (upd H P (.tbl (ps ++ #[rawInt pos.line, rawInt pos.col, .ref c']))) c' (CodeO c' (X.env.qual ++ "<lambda>"))) := fun b o q n =>
      (upd_ne (ne_of_none q nC)).trans ((upd_ne fun (z : b = P) => n ps (Option.some.inj (q.symm.trans (by rw [z]; exact hP)))).trans q)
    refine fin _ h' tk tk c' ctv I1 up (fun p hp => ?_) upd_same (Nat.le_trans hge (Nat.le_of_lt hlt))
    by_cases hb : p.1 = P
    · have eL : (ps ++ #[rawInt pos.line, rawInt pos.col, .ref c']).toList = ps.toList ++ [rawInt pos.line, rawInt pos.col, .ref c'] := by simp
      rw [hu p hp hb, hb]
      refine ⟨_, (upd_ne (ne_of_none hP nC)).trans upd_same, eL ▸ PySem.TriplesOk_snoc _ _ _ _ ht, fun p' cv hcv => ?_⟩
      rcases among_app _ ht (eL ▸ hcv) with z | z
      · obtain ⟨c0, z1, z2⟩ := ha p' cv z
        exact ⟨c0, z1, up _ _ z2 codeO_ne⟩
      · exact ⟨c', z, upd_same⟩
    · obtain ⟨qs, a1, a2, a3⟩ := hT p hp
      refine ⟨qs, (upd_ne (ne_of_none a1 nC)).trans ((upd_ne hb).trans a1), a2, fun p' cv hcv => ?_⟩
      obtain ⟨c0, z1, z2⟩ := a3 p' cv hcv
      exact ⟨c0, z1, up _ _ z2 codeO_ne⟩
end
/-- the reading of a lambda: a new function that is known from now on -/
def tLamT (T : List (Addr × Str)) (mk : Addr → NF) (e : Expr) : TE := fun σ H Q => Tabs T H ∧ ∀ (f c' : Addr) (H1 : Hp), ExtN H H1 → Tabs T H1 → H f = none → H1 f = some (LamO f (mk c') e) → H1 c' = some (CodeO c' (mk c').qual) → Q (.ref f) H1
theorem pe_lamT {X : Cx} {T : List (Addr × Str)} {c P : Addr} {params : Arguments} {body : Expr} {scope : Scope} {pos : Pos} (TB : TabB X.base X.mg c P) (hcode : X.env.code = .ref c) (hm : (P, X.env.qual ++ "<lambda>") ∈ T) (hu : ∀ p ∈ T, p.1 = P → p.2 = X.env.qual ++ "<lambda>")
    (hdef : defaultsOf params X.env = ([], [])) (hfree : ∀ y ∈ scope.names, y.2 = .free → X.env.scope.names.lookup y.1 = some .cell ∨ X.env.scope.names.lookup y.1 = some .free) : PE X (.Lambda params body scope pos) (tLamT T (mkL X params scope) body) :=
  ⟨fun pins s σ H Q I ⟨hT, h⟩ => lam_track I TB hcode hm hu hT hdef (fun y hy e => (hfree y hy e).elim (fun z => I.ok.has _ (.inl z)) fun z => I.ok.has _ (.inr z)) fun f c' H1 s' I1 e1 T1 n f1 c1 => ⟨.ref f, H1, I1, rfl, h f c' H1 e1 T1 n f1 c1⟩⟩
/-- what the function at f promises while G stands -/
structure VOk (P : Program) (w : World) (K : PySem.W.Frag) (mg : Str → Option Value) (base : Heap) (CX : CXT) (k : Nat) (f : Addr) (G : Hp → Prop) (sp : Sp) : Prop where
  isf : ∀ {H : Hp} {h : Heap}, HOk P w H h → G H → PySem.W.FnAt f h
  run : ∀ (A : Around) (outer : List Env) (s : Shared) (H : Hp) (us : List Value) (vs : List V) (Q : VK) (E : XK), Room k A → Env0 P w K mg base A outer s H → G H → Vals vs us → sp vs H Q E → codeAny (model P w) A (.call (.ref f) ⟨us, []⟩) (CR CX outer P w H s Q E) s
abbrev gLam (f : Addr) (F : NF) (e : Expr) : Hp → Prop := fun H => H f = some (LamO f F e) ∧ H F.c = some (CodeO F.c F.qual)
section
variable {CX : CXT} {P : Program} {w : World} {K : PySem.W.Frag} {mg : Str → Option Value} {base : Heap} {N ps fr : List Str} {F : NF} {f : Addr} {e : Expr} {k j : Nat} {sp : Sp} {ws : List (Option V)}
theorem cells_base {cl : List (Str × Addr)} {h : Heap} {H : Hp} (C : CellsAt cl fr ws base fun _ => none) (hb : ∀ b o, base.get? b = some o → h.get? b = some o ∧ H b = none) : CellsAt cl fr ws h H := by
  have kp : ∀ {c : Addr} {v : Option Value}, base.IsCell c v → h.IsCell c v ∧ H c = none := fun ⟨o, ho, hd⟩ => ⟨⟨o, (hb _ _ ho).1, hd⟩, (hb _ _ ho).2⟩
  refine ⟨C.len, fun y c q => ?_, C.inj, fun i y q => ?_⟩
  · obtain ⟨_, v, z⟩ := C.all y c q
    exact ⟨(kp z).2, v, (kp z).1⟩
  · obtain ⟨c, hc, hv⟩ := C.has i y q
    refine ⟨c, hc, fun v ev => ?_⟩
    obtain ⟨u, r, z⟩ := hv v ev
    exact ⟨u, r, (kp z).1⟩
/-- a lambda by its body, what it captured lies in the base -/
theorem vok_lam (S : NScope N ps fr F.scope) (hbind : ∀ (pm ctv : Value) (us : List Value), us.length = ps.length → bindArgs (PySem.W.kla_fn F.name F.qual F.params e F.scope F.cl pm (.ref F.c) ctv) ⟨us, []⟩ = pure (ps.zip us)) (C : CellsAt F.cl fr ws base fun _ => none)
    (len : ∀ vs H Q E, sp vs H Q E → vs.length = ps.length)
    (hbody : ∀ (A : Around) (outer : List Env) (s : Shared) (H : Hp) (vs : List V) (Q : VK) (E : XK), Room k (A.deeper (envF F f s.heap.objs.size)) → sp vs H Q E → ∃ t, PE (ncx CX P w K mg base N F f A outer s H E) e t ∧ t (startF N vs ws) H Q) :
    VOk P w K mg base CX (k + 1) f (gLam f F e) sp := by
  refine ⟨fun hok ⟨g, _⟩ => ?_, fun A outer s H us vs Q E hr e0 ⟨hf, hc⟩ r hsp => ?_⟩
  · obtain ⟨od, sl, pm, ctv, z⟩ := lamO_at hok g
    exact ⟨_, od, _, sl, z⟩
  have hl := len _ _ _ _ hsp
  obtain ⟨od, sl, pm, ctv, ho⟩ := lamO_at e0.hok hf
  refine PySem.W.kla_callFunE hr.depth ho rfl S.co S.gen rfl (codeO_at e0.hok hc) ?_
  rw [hbind pm ctv us (by rw [← r.length]; exact hl)]
  have lim : s.heap.NoLimit := e0.mod.nolimit.keeps fun b o q => (e0.bs b o q).1
  refine wpAny_pure (wpAny_newFunctionEnv S.nocell (fun ⟨n, _⟩ hy => S.par n (List.of_mem_zip hy).1) (fun h₁ hns hsb => ⟨lim.fresh _ hsb, ?_⟩) S.kind)
  show codeAny _ _ (.expr e (envF F f s.heap.objs.size)) _ _
  have kp : ∀ b o, s.heap.get? b = some o → h₁.get? b = some o := fun b o q => hsb.extBut b o (Nat.ne_of_lt (Heap.lt_size q)) (Heap.get?_push_of_some _ q)
  obtain ⟨t, ht, hq⟩ := hbody A outer s H vs Q E (hr.deeper _) hsp
  have J := inv_startN (CX := CX) (E := E) (f := f) (tk := s.toks + (ps.zip us).length) S hr.hd e0 hl r (cells_base C e0.bs) hns kp
  refine PySem.W.kla_codeExpr (wpAny_mono (ht.run [] _ (startF N vs ws) H Q J hq) (fun v s' z => ?_) fun _ _ z => z)
  obtain ⟨x, H', J', rv, q⟩ := z
  exact ⟨x, H', J'.os, J'.bare, J'.base, J'.hok, rv, q⟩
end
/-- x(..), x a name that holds the function at f -/
def tCallVal (f : Addr) (G : Hp → Prop) (i : Nat) (sp : Sp) (E : XK) (t : TA) : TE := fun σ H Q => σ[i]? = some (some (.ref f)) ∧ G H ∧ t σ H fun vs H1 => G H1 ∧ sp vs H1 Q E
section
variable {X : Cx} {CX : CXT} {i j k : Nat} {x : Str} {f : Addr} {G : Hp → Prop} {sp : Sp} {E : XK} {t : TA} {e : Expr} {es : List Expr} {p pos apos : Pos}
theorem run_val {pins : List (Addr × Obj)} {σ : L2.St} {H : Hp} {s : Shared} {Q : VK} {us : List Value} {vs : List V} (V : VOk X.prog X.w X.K X.mg X.base CX k f G sp) (hr : Room k X.A) (hx : Passes CX X E) (I : Inv X pins σ H s) (g : G H) (r : Vals vs us) (q : sp vs H Q E) :
    wpAny (model X.prog X.w) X.A (call (.ref f) us) (EP X pins σ Q) X.xe s := by
  refine wpAny_call (codeAny_mono (V.run X.A X.stack s H us vs Q E hr I.env0 g r q) fun r s' hq => ?_)
  match r, hq with
  | .error e, hq => exact hx pins σ H s e s' I hq
  | .ok (.ret u), hq => exact I.after hq
theorem pe_callVal (V : VOk X.prog X.w X.K X.mg X.base CX k f G sp) (hr : Room k X.A) (hx : Passes CX X E) (hN : X.N[i]? = some x) (hv : Vis X.env.scope x) (ha : PA X (e :: es) t)
    (hd : (x == ("__debug__" : Str)) = false := by decide) (hcd : (x == ("__classdict__" : Str)) = false := by decide)
    (he : starEach (e :: es) X.env = (false, eval e X.env) :: starEach es X.env := by rfl) (hpl : (backTo pos (starEach es X.env)).any (·.1) = false := by rfl) :
    PE X (.Call (.Name x p) (e :: es) [] pos) (tCallVal f G i sp E t) := by
  refine ⟨fun pins s σ H Q I ⟨hs, g, ht⟩ => ?_⟩
  refine wpAny_Call_Name_kw (thn ((pe_var (pos := p) hN hv hd hcd).run pins s σ H (fun v H1 => v = .ref f ∧ H1 = H) I ⟨.ref f, hs, rfl, rfl⟩) fun u s1 ⟨v, H1, I1, r1, ev, eH⟩ => ?_)
  subst ev eH
  obtain rfl : u = Value.ref f := r1
  exact PySem.W.callWith_F (first := []) (V.isf I1.hok g) (thn (ha.run pos pins s1 σ _ _ I1 ht) fun us s2 ⟨vs, H2, I2, r, g2, q⟩ => ⟨V.isf I2.hok g2, run_val V hr hx I2 g2 r q⟩) he hpl
end
/-! a method whose argument reads cells of the running def: the base grows by all that is not tracked -/
theorem frames_base {h base base' : Heap} : ∀ {l : List Env}, (∀ b ∈ frs l, base'.get? b = none) → h.FunFrames base l → h.FunFrames base' l
  | [], _, _ => trivial
  | env :: r, hn, ⟨hk, ⟨L, o, hf, _, ho⟩, hr⟩ => by
    have e : frs (env :: r) = L :: frs r := by
      unfold frs
      rw [List.filterMap_cons, hf]
    rw [e] at hn
    exact ⟨hk, ⟨L, o, hf, hn L List.mem_cons_self, ho⟩, frames_base (fun b hb => hn b (List.mem_cons_of_mem _ hb)) hr⟩
section
variable {X : Cx} {CX : CXT} {k : Nat} {C g : Addr} {fd : FuncData} {ps : List Str} {E : XK} {m : Str} {p pos apos : Pos} {z o : Expr} {zs : List Expr} {ta : TE} {t : TA} {cl : List (Str × Addr)} {fr : List Str} {js : List Nat} {ws : List (Option V)}
theorem run_lent {pins : List (Addr × Obj)} {σ : L2.St} {H : Hp} {s : Shared} {Q : VK} {us : List Value} {vs : List V} {sp : Sp} (I : Inv X pins σ H s) (hfn : ∀ y, X.fn y = true) (hcl : ∀ y c, cl.lookup y = some c → X.env.cells.lookup y = some c) (Cs : CellsAt cl fr ws s.heap H)
    (F : ∀ base' : Heap, (∀ b ob, X.base.get? b = some ob → base'.get? b = some ob) → (CellsAt cl fr ws base' fun _ => none) → FnOk X.prog X.w X.K X.mg base' CX k g fd ps sp) (hr : Room k X.A) (hb : L2.Binds X.K fd ps []) (hx : Passes CX X E) (r : Vals vs us) (h : sp vs H Q E) :
    wpAny (model X.prog X.w) X.A (call (.ref g) us) (EP X pins σ Q) X.xe s := by
  obtain ⟨B, hB⟩ : ∃ B, B = PySem.W.hideAll s.heap (trk s.heap H ++ frs X.stack) := ⟨_, rfl⟩
  have hid : ∀ b, b ∈ trk s.heap H ++ frs X.stack → B.get? b = none := fun b hb => hB ▸ PySem.W.hideAll_none _ hb
  have ofB : ∀ b ob, B.get? b = some ob → s.heap.get? b = some ob ∧ H b = none := fun b ob q => by
    have q' : s.heap.get? b = some ob := PySem.W.of_hideAll _ (hB ▸ q)
    refine ⟨q', ?_⟩
    cases hz : H b with
    | none => rfl
    | some u =>
      have := hid b (List.mem_append_left _ (List.mem_filter.mpr ⟨List.mem_range.mpr (Heap.lt_size q'), by rw [hz]; rfl⟩))
      rw [this] at q
      cases q
  have toB : ∀ b ob, s.heap.get? b = some ob → H b = none → b ∉ frs X.stack → B.get? b = some ob := fun b ob q n nf => by
    rw [hB]
    refine PySem.W.hideAll_get _ q fun hm => ?_
    rcases List.mem_append.mp hm with z | z
    · have z2 := (List.mem_filter.mp z).2
      rw [n] at z2
      cases z2
    · exact nf z
  have kb : ∀ b ob, X.base.get? b = some ob → B.get? b = some ob := fun b ob q => toB b ob (I.bs b ob q).1 (I.bs b ob q).2 fun z => by
    have := (I.stack.mem z).1
    rw [q] at this
    cases this
  have nfr : ∀ y c, cl.lookup y = some c → c ∉ frs X.stack := fun y c q z => by
    have qe := hcl y c q
    rcases List.mem_cons.mp (I.stkSub c z) with z | z
    · exact I.cne y c qe z
    · obtain ⟨_, ob, ho, _⟩ := I.ok.funs.mem z
      exact absurd (Nat.lt_of_lt_of_le (Heap.lt_size ho) (I.ok.cab y c (hfn y) qe)) (Nat.lt_irrefl _)
  have cB : CellsAt cl fr ws B fun _ => none := by
    have kc : ∀ {y c} {v : Option Value}, cl.lookup y = some c → s.heap.IsCell c v → B.IsCell c v := fun {y c v} q ⟨ob, ho, hd⟩ => ⟨ob, toB c ob ho (Cs.all y c q).1 (nfr y c q), hd⟩
    refine ⟨Cs.len, fun y c q => ?_, Cs.inj, fun i y q => ?_⟩
    · obtain ⟨_, v, z⟩ := Cs.all y c q
      exact ⟨rfl, v, kc q z⟩
    · obtain ⟨c, hc, hv⟩ := Cs.has i y q
      refine ⟨c, hc, fun v ev => ?_⟩
      obtain ⟨u, ru, z⟩ := hv v ev
      exact ⟨u, ru, kc hc z⟩
  have M : Mod X.K X.mg B := ⟨I.mod.kin.keeps kb, I.mod.glob.keeps kb, let ⟨mb, h1, h2⟩ := I.mod.blt; ⟨mb, h1.keeps kb, h2⟩, I.mod.nolimit.keeps kb⟩
  have e0 : Env0 X.prog X.w X.K X.mg B X.A X.stack s H := ⟨I.ok.frames, M, ofB, Nat.le_of_eq (by rw [hB, PySem.W.hideAll_size]), frames_base (fun b hb => hid b (List.mem_append_right _ hb)) I.stack, I.stkFree, I.hok, I.bare⟩
  have Fn := F B kb cB
  have hl : (us ++ []).length = ps.length := by
    rw [List.append_nil, ← r.length]
    exact Fn.len _ _ _ _ h
  have hb2 := hb s us I.kIn hl
  rw [List.append_nil] at hb2
  refine wpAny_call (codeAny_mono (Fn.run X.A X.stack s H ⟨us, []⟩ us vs Q E hr e0 hb2 r h) fun r s' hq => ?_)
  match r, hq with
  | .error e, hq => exact hx pins σ H s e s' I hq
  | .ok (.ret u), hq => exact I.after hq
/-- o.m(e, ..), one of the arguments a lambda that was just made -/
def tMethB (C : Addr) (m : Str) (sp : Addr → Addr → List (Option V) → Sp) (js : List Nat) (E : XK) (ta : TE) (t : TA) : TE := fun σ H Q => ta σ H fun x H1 => ∃ a dx fs, x = .ref a ∧ H1 a = some (.ins C dx fs) ∧ fs.lookup m = none ∧
  t σ H1 fun vs H2 => ∃ f c', sp f c' (js.map (slotAt σ)) (x :: vs) H2 Q E
theorem pe_methB {pl : Sem Bool} {sp : Addr → Addr → List (Option V) → Sp} (hfn : ∀ y, X.fn y = true) (he : PE X o ta) (c : Cls X.K C) (hm : Meth X.K C m g) (cp : X.Ok → NdefX.Caps X cl fr js)
    (F : ∀ (f c' : Addr) (ws : List (Option V)) (base' : Heap), (∀ b ob, X.base.get? b = some ob → base'.get? b = some ob) → (CellsAt cl fr ws base' fun _ => none) → FnOk X.prog X.w X.K X.mg base' CX k g fd ps (sp f c' ws))
    (hr : Room k X.A) (hb : L2.Binds X.K fd ps []) (hx : Passes CX X E) (ha : PA X (z :: zs) t)
    (hst : starEach (z :: zs) X.env = (false, eval z X.env) :: starEach zs X.env := by rfl)
    (hpl : (backTo pos (starEach zs X.env)).any (·.1) = false := by rfl)
    (ht : eval (.Call (.Attribute o m apos) (z :: zs) [] pos) X.env = (do let ov ← eval o X.env; standAt apos.atName; let (f, first) ← holding [ov] (getMethod ov m pl); callWith pos f first (backTo pos (starEach (z :: zs) X.env)) (backToKw pos (keywordEach [] X.env))) := by rfl) :
    PE X (.Call (.Attribute o m apos) (z :: zs) [] pos) (tMethB C m sp js E ta t) := by
  refine ⟨fun pins s σ H Q I h => ?_⟩
  refine PySem.W.methodCall_KW (pl := pl) (thn (he.run pins s σ H _ I h) fun u s1 ⟨x, H1, I1, rx, a, dx, fs, ex, ea, l, q⟩ => by
    subst ex
    cases (show u = Value.ref a from rx)
    refine getmeth_ok I1 ea c hm l (PySem.W.callWith_K (first := [.ref a]) (h₀ := X.base) I.ok.mod.kin hm.kp (thn (ha.run pos pins s1 σ H1 _ I1 q) fun us s2 ⟨vs, H2, I2, r, f, c', q2⟩ => ⟨I2.kIn, ?_⟩) hst hpl)
    exact run_lent (us := .ref a :: us) (vs := .ref a :: vs) I2 hfn (cp I2.ok).sub (cells_of I2 (cp I2.ok)) (F f c' _) hr hb hx (.cons rfl r) q2) ht
end
end SwA

end

section
set_option maxRecDepth 100000
set_option maxHeartbeats 4000000
/-! lambdas without parameters or with one that has a default, laid in lists and called by other defs -/
namespace SwA
open PySem PySem.Spec PyProof.Rows L2 LamX NdefX
/-- the object at f is the lambda F, its body e, its defaults dV -/
def LamV (f : Addr) (F : NF) (e : Expr) (dV : Value) : HO := .ext fun h => ∃ (od : Option Addr) (sl : Array (Option Value)) (doc pm ctv : Value), h.get? f = some (⟨.type "function", od, .func (PySem.W.kdv_fn F.name F.qual F.params (.expr e) F.scope F.cl dV doc pm (.ref F.c) ctv), sl⟩ : Obj)
theorem lamV_ne {f : Addr} {F : NF} {e : Expr} {dV : Value} (ps : Array Value) : LamV f F e dV ≠ .tbl ps := fun z => by
  unfold LamV at z
  cases z
theorem lamV_at {P : Program} {w : World} {H : Hp} {h : Heap} {f : Addr} {F : NF} {e : Expr} {dV : Value} (hok : HOk P w H h) (q : H f = some (LamV f F e dV)) :
    ∃ (od : Option Addr) (sl : Array (Option Value)) (doc pm ctv : Value), h.get? f = some (⟨.type "function", od, .func (PySem.W.kdv_fn F.name F.qual F.params (.expr e) F.scope F.cl dV doc pm (.ref F.c) ctv), sl⟩ : Obj) := (hok f _ q).1
section
variable {X : Cx} {pins : List (Addr × Obj)} {σ : L2.St} {H : Hp} {s : Shared}
theorem inv_lamV {F : NF} {e : Expr} {dV : Value} {o : Obj} {tk : Nat} {doc pm ctv : Value} (I : Inv X pins σ H s) (ho : o = PySem.W.kdv_obj F.name F.qual F.params (.expr e) F.scope F.cl dV doc pm F.c ctv) :
    Inv X pins σ (upd H s.heap.objs.size (LamV s.heap.objs.size F e dV)) { s with heap := s.heap.push o, toks := tk } := by
  have g : (s.heap.push o).get? s.heap.objs.size = some o := Heap.get?_push_size _ (by rw [ho]; rfl)
  refine I.laid (a := s.heap.objs.size) (fun b u q => Heap.get?_push_of_some _ q) (Nat.le_refl _) ⟨⟨none, #[], doc, pm, ctv, ?_⟩, ⟨o, g⟩, fun h1 h2 z st => ?_⟩
  · rw [g, ho]
  · obtain ⟨a, b, c, d, e, z⟩ := z
    exact ⟨a, b, c, d, e, st _ z⟩
/-- the function is made: its object is known from now on -/
theorem tail_track {T : List (Addr × Str)} {c P : Addr} {params : Arguments} {body : Expr} {scope : Scope} {dV : Value} {pos : Pos} {E Q : Value → Shared → Prop} (I : Inv X pins σ H s) (TB : TabB X.base X.mg c P) (hcode : X.env.code = .ref c)
    (hm : (P, X.env.qual ++ "<lambda>") ∈ T) (hu : ∀ p ∈ T, p.1 = P → p.2 = X.env.qual ++ "<lambda>") (hT : Tabs T H) (hfree : ∀ y ∈ scope.names, y.2 = .free → ∃ c, X.env.cells.lookup y.1 = some c)
    (h : ∀ (f c' : Addr) (H1 : Hp) (s' : Shared), Inv X pins σ H1 s' → ExtN H H1 → Tabs T H1 → H f = none → H1 f = some (LamV f (mkL X params scope c') body dV) → H1 c' = some (CodeO c' (X.env.qual ++ "<lambda>")) → Q (.ref f) s') :
    wpAny (model X.prog X.w) X.A (makeTail "<lambda>" (X.env.qual ++ "<lambda>") params (.expr body) scope X.env dV .none none pos pos.line) Q E s := by
  obtain ⟨ps, hP, ht, ha⟩ := hT _ hm
  have bP := TB.bm.keeps I.bk
  have gP : s.heap.get? P = some { cls := .none, data := .fields ps } := I.hok P _ hP
  -- the end: the function's object is tracked
  have fin : ∀ (H1 : Hp) (h1 : Heap) (t1 tk : Nat) (c' : Addr) (doc ctv : Value), Inv X pins σ H1 { s with heap := h1, toks := t1 } → ExtN H H1 → Tabs T H1 → H1 c' = some (CodeO c' (X.env.qual ++ "<lambda>")) → s.heap.objs.size ≤ h1.objs.size →
      Q (.ref h1.objs.size) { s with heap := h1.push (PySem.W.kdv_obj "<lambda>" (X.env.qual ++ "<lambda>") params (.expr body) scope (cloFrom X.env.cells scope.names []) dV doc ((X.mg "__name__").getD .none) c' ctv), toks := tk } := fun H1 h1 t1 tk c' doc ctv I1 e1 T1 hc hz => by
    have n1 : H1 h1.objs.size = none := I1.hok.fresh (Nat.le_refl _)
    have I2 := inv_lamV (F := mkL X params scope c') (e := body) (dV := dV) (tk := tk) (doc := doc) (pm := (X.mg "__name__").getD .none) (ctv := ctv) I1 rfl
    have up : ∀ b o, H1 b = some o → upd H1 h1.objs.size (LamV h1.objs.size (mkL X params scope c') body dV) b = some o := fun b o q => (upd_ne (ne_of_none q n1)).trans q
    exact h h1.objs.size c' _ _ I2 (fun b o q n => up b o (e1 b o q n)) (T1.ext up) (I.hok.fresh hz) upd_same (up _ _ hc)
  cases hc : codeAmong pos ps.toList with
  | some cv =>
    obtain ⟨c', e, hco⟩ := ha pos cv hc
    subst e
    exact PySem.W.kdv_makeTailHit (mg := X.mg) (c := c) (P := P) (ps := ps) (closure_ok hfree) I.ok.glob (I.mod.glob.keeps I.bk) hcode (TB.code.keeps I.bk) gP ht hc bP fun ctv doc h' tk hx hz =>
      fin H h' tk tk c' doc ctv (I.kept hx) (ExtN.refl H) hT hco hz
  | none =>
    refine PySem.W.kdv_makeTail (mg := X.mg) (c := c) (P := P) (ps := ps) (closure_ok hfree) I.ok.glob (I.mod.glob.keeps I.bk) hcode (TB.code.keeps I.bk) gP ht hc TB.gP bP fun c' ctv doc h' tk hx hge hlt hrec htb => ?_
    obtain ⟨c2, oc, vs, t, e2, r⟩ := hrec
    cases e2
    have nC : H c' = none := I.hok.fresh hge
    have I1 := inv_table (t' := tk) (more := #[rawInt pos.line, rawInt pos.col, .ref c']) (h' := h') (q := X.env.qual ++ "<lambda>") I hP (fun b o nb q => hx b o nb q) htb hge ⟨oc, vs, t, r⟩
    have up : ExtN H (upd (upd H P (.tbl (ps ++ #[rawInt pos.line, rawInt pos.col, .ref c']))) c' (CodeO c' (X.env.qual ++ "<lambda>"))) := fun b o q n =>
      (upd_ne (ne_of_none q nC)).trans ((upd_ne fun (z : b = P) => n ps (Option.some.inj (q.symm.trans (by rw [z]; exact hP)))).trans q)
    refine fin _ h' tk tk c' doc ctv I1 up (fun p hp => ?_) upd_same (Nat.le_trans hge (Nat.le_of_lt hlt))
    by_cases hb : p.1 = P
    · have eL : (ps ++ #[rawInt pos.line, rawInt pos.col, .ref c']).toList = ps.toList ++ [rawInt pos.line, rawInt pos.col, .ref c'] := by simp
      rw [hu p hp hb, hb]
      refine ⟨_, (upd_ne (ne_of_none hP nC)).trans upd_same, eL ▸ PySem.TriplesOk_snoc _ _ _ _ ht, fun p' cv hcv => ?_⟩
      rcases among_app _ ht (eL ▸ hcv) with z | z
      · obtain ⟨c0, z1, z2⟩ := ha p' cv z
        exact ⟨c0, z1, up _ _ z2 codeO_ne⟩
      · exact ⟨c', z, upd_same⟩
    · obtain ⟨qs, a1, a2, a3⟩ := hT p hp
      refine ⟨qs, (upd_ne (ne_of_none a1 nC)).trans ((upd_ne hb).trans a1), a2, fun p' cv hcv => ?_⟩
      obtain ⟨c0, z1, z2⟩ := a3 p' cv hcv
      exact ⟨c0, z1, up _ _ z2 codeO_ne⟩
end
/-- the readings: a new function that is known from now on; without defaults, and with one default, the number 0 -/
def tLamV0 (T : List (Addr × Str)) (mk : Addr → NF) (e : Expr) : TE := fun σ H Q => Tabs T H ∧ ∀ (f c' : Addr) (H1 : Hp), ExtN H H1 → Tabs T H1 → H f = none → H1 f = some (LamV f (mk c') e .none) → H1 c' = some (CodeO c' (mk c').qual) → Q (.ref f) H1
def tLamV1 (T : List (Addr × Str)) (mk : Addr → NF) (e : Expr) : TE := fun σ H Q => Tabs T H ∧ ∀ (f c' t0 : Addr) (H1 : Hp), ExtN H H1 → Tabs T H1 → H f = none → H1 t0 = some (.tup [.int 0]) → H1 f = some (LamV f (mk c') e (.ref t0)) → H1 c' = some (CodeO c' (mk c').qual) → Q (.ref f) H1
theorem pe_lamV0 {X : Cx} {T : List (Addr × Str)} {c P : Addr} {params : Arguments} {body : Expr} {scope : Scope} {pos : Pos} (TB : TabB X.base X.mg c P) (hcode : X.env.code = .ref c) (hm : (P, X.env.qual ++ "<lambda>") ∈ T) (hu : ∀ p ∈ T, p.1 = P → p.2 = X.env.qual ++ "<lambda>")
    (hdef : defaultsOf params X.env = ([], [])) (hfree : ∀ y ∈ scope.names, y.2 = .free → X.env.scope.names.lookup y.1 = some .cell ∨ X.env.scope.names.lookup y.1 = some .free) : PE X (.Lambda params body scope pos) (tLamV0 T (mkL X params scope) body) := by
  refine ⟨fun pins s σ H Q I ⟨hT, h⟩ => ?_⟩
  refine PySem.W.kla_eval hdef ?_
  rw [makeFunction_eq]
  simp only [List.zip_nil_right, List.filterMap_nil, List.isEmpty_nil, if_true, pure_bind]
  exact tail_track I TB hcode hm hu hT (fun y hy e => (hfree y hy e).elim (fun z => I.ok.has _ (.inl z)) fun z => I.ok.has _ (.inr z)) fun f c' H1 s' I1 e1 T1 n f1 c1 => ⟨.ref f, H1, I1, rfl, h f c' H1 e1 T1 n f1 c1⟩
theorem pe_lamV1 {X : Cx} {T : List (Addr × Str)} {c P : Addr} {params : Arguments} {body e0 : Expr} {scope : Scope} {pos : Pos} (TB : TabB X.base X.mg c P) (hcode : X.env.code = .ref c) (hm : (P, X.env.qual ++ "<lambda>") ∈ T) (hu : ∀ p ∈ T, p.1 = P → p.2 = X.env.qual ++ "<lambda>")
    (hdef : params.defaults = [e0]) (hkw : params.kw_defaults = []) (he0 : PE X e0 (tC (.int 0))) (hfree : ∀ y ∈ scope.names, y.2 = .free → X.env.scope.names.lookup y.1 = some .cell ∨ X.env.scope.names.lookup y.1 = some .free) : PE X (.Lambda params body scope pos) (tLamV1 T (mkL X params scope) body) := by
  refine ⟨fun pins s σ H Q I ⟨hT, h⟩ => ?_⟩
  refine PySem.W.kdv_lam (by rw [hdef]; rfl) hkw ?_
  rw [hdef]
  refine PySem.W.kdv_all1 (wpAny_mono (he0.run pins s σ H (fun v H1 => v = .int 0 ∧ H1 = H) I ⟨rfl, rfl⟩) (fun u s1 z => ?_) fun _ _ z => z)
  obtain ⟨x, H1, I1, rx, rfl, rfl⟩ := z
  refine PySem.W.kdv_all0 ?_
  rw [makeFunction_eq]
  simp only [List.zip_nil_right, List.filterMap_nil, List.isEmpty_nil, if_true, pure_bind, List.isEmpty_cons, Bool.false_eq_true, if_false]
  refine wpAny_bind (wpAny_newTextTuple ?_)
  have hf : H1 s1.heap.objs.size = none := I1.hok.fresh (Nat.le_refl _)
  have I2 : Inv X pins σ (upd H1 s1.heap.objs.size (.tup [.int 0])) { s1 with heap := s1.heap.push { cls := .type "tuple", data := .seq [u].toArray } } :=
    I1.laid (t' := s1.toks) (fun b u e => Heap.get?_push_of_some _ e) (Nat.le_refl _) ⟨(by show 1 ≤ sizeLine; decide), [u], .cons rx .nil, ⟨_, Heap.get?_push_size _ rfl, rfl, _, rfl⟩⟩
  have s12 : ∀ b o, H1 b = some o → upd H1 s1.heap.objs.size (.tup [.int 0]) b = some o := fun b o q => (upd_ne (ne_of_none q hf)).trans q
  refine tail_track I2 TB hcode hm hu (hT.ext fun b o q => s12 b o q) (fun y hy e => (hfree y hy e).elim (fun z => I.ok.has _ (.inl z)) fun z => I.ok.has _ (.inr z)) fun f c' H3 s' I3 e3 T3 n f1 c1 => ⟨.ref f, H3, I3, rfl, ?_⟩
  exact h f c' s1.heap.objs.size H3 (fun b o q m => e3 b o (s12 b o q) m) T3 (by cases hz : H1 f with | none => rfl | some o => rw [s12 f o hz] at n; cases n) (e3 _ _ upd_same fun ps z => by cases z) f1 c1
/-! what such a function promises -/
abbrev gLamV0 (f : Addr) (F : NF) (e : Expr) : Hp → Prop := fun H => H f = some (LamV f F e .none) ∧ H F.c = some (CodeO F.c F.qual)
abbrev gLamV1 (f t0 : Addr) (F : NF) (e : Expr) : Hp → Prop := fun H => H f = some (LamV f F e (.ref t0)) ∧ H t0 = some (.tup [.int 0]) ∧ H F.c = some (CodeO F.c F.qual)
section
variable {CX : CXT} {P : Program} {w : World} {K : PySem.W.Frag} {mg : Str → Option Value} {base : Heap} {N ps fr : List Str} {F : NF} {f t0 : Addr} {e : Expr} {k : Nat} {sp : Sp} {ws : List (Option V)}
theorem vok_V {G : Hp → Prop} {dV : Value} {vs0 : List V} (S : NScope N ps fr F.scope) (hG : ∀ H, G H → H f = some (LamV f F e dV) ∧ H F.c = some (CodeO F.c F.qual)) (hl : vs0.length = ps.length)
    (hbind : ∀ (H : Hp) (s : Shared), HOk P w H s.heap → G H → ∃ us, Vals vs0 us ∧ ∀ (doc pm ctv : Value), BindsTo s (PySem.W.kdv_fn F.name F.qual F.params (.expr e) F.scope F.cl dV doc pm (.ref F.c) ctv) ⟨[], []⟩ (ps.zip us)) (C : CellsAt F.cl fr ws base fun _ => none)
    (hbody : ∀ (A : Around) (outer : List Env) (s : Shared) (H : Hp) (Q : VK) (E : XK), Room k (A.deeper (envF F f s.heap.objs.size)) → sp [] H Q E → ∃ t, PE (ncx CX P w K mg base N F f A outer s H E) e t ∧ t (startF N vs0 ws) H Q) :
    VOk P w K mg base CX (k + 1) f G (fun vs H Q E => vs = [] ∧ sp [] H Q E) := by
  refine ⟨fun hok g => ?_, fun A outer s H us vs Q E hr e0 g r hsp => ?_⟩
  · obtain ⟨od, sl, doc, pm, ctv, z⟩ := lamV_at hok (hG _ g).1
    exact ⟨_, od, _, sl, z⟩
  obtain ⟨rfl, hsp⟩ := hsp
  obtain rfl : us = [] := by cases r; rfl
  obtain ⟨od, sl, doc, pm, ctv, ho⟩ := lamV_at e0.hok (hG _ g).1
  obtain ⟨us0, r0, hb⟩ := hbind H s e0.hok g
  refine PySem.W.kla_callFunE hr.depth ho rfl S.co S.gen rfl (codeO_at e0.hok (hG _ g).2) (hb doc pm ctv _ _ _ _ ?_)
  have lim : s.heap.NoLimit := e0.mod.nolimit.keeps fun b o q => (e0.bs b o q).1
  refine wpAny_newFunctionEnv S.nocell (fun ⟨n, _⟩ hy => S.par n (List.of_mem_zip hy).1) (fun h₁ hns hsb => ⟨lim.fresh _ hsb, ?_⟩) S.kind
  show codeAny _ _ (.expr e (envF F f s.heap.objs.size)) _ _
  have kp : ∀ b o, s.heap.get? b = some o → h₁.get? b = some o := fun b o q => hsb.extBut b o (Nat.ne_of_lt (Heap.lt_size q)) (Heap.get?_push_of_some _ q)
  obtain ⟨t, ht, hq⟩ := hbody A outer s H Q E (hr.deeper _) hsp
  have J := inv_startN (CX := CX) (E := E) (f := f) (tk := s.toks + (ps.zip us0).length) S hr.hd e0 hl r0 (cells_base C e0.bs) hns kp
  refine PySem.W.kla_codeExpr (wpAny_mono (ht.run [] _ (startF N vs0 ws) H Q J hq) (fun v s' z => ?_) fun _ _ z => z)
  obtain ⟨x, H', J', rv, q⟩ := z
  exact ⟨x, H', J'.os, J'.bare, J'.base, J'.hok, rv, q⟩
/-- no parameters -/
theorem vok_V0 (S : NScope N [] fr F.scope) (hbind : ∀ (doc pm ctv : Value), bindArgs (PySem.W.kdv_fn F.name F.qual F.params (.expr e) F.scope F.cl .none doc pm (.ref F.c) ctv) ⟨[], []⟩ = pure []) (C : CellsAt F.cl fr ws base fun _ => none)
    (hbody : ∀ (A : Around) (outer : List Env) (s : Shared) (H : Hp) (Q : VK) (E : XK), Room k (A.deeper (envF F f s.heap.objs.size)) → sp [] H Q E → ∃ t, PE (ncx CX P w K mg base N F f A outer s H E) e t ∧ t (startF N [] ws) H Q) :
    VOk P w K mg base CX (k + 1) f (gLamV0 f F e) (fun vs H Q E => vs = [] ∧ sp [] H Q E) :=
  vok_V (vs0 := []) S (fun H g => g) rfl (fun H s _ _ => ⟨[], .nil, fun doc pm ctv => BindsTo.of_eq (hbind doc pm ctv)⟩) C hbody
/-- one parameter, its default 0 -/
theorem vok_V1 {x : Str} (S : NScope N [x] fr F.scope) (hbind : ∀ (doc pm ctv : Value), ∃ kk : Option (Array Value) → Sem (List (Str × Value)), bindArgs (PySem.W.kdv_fn F.name F.qual F.params (.expr e) F.scope F.cl (.ref t0) doc pm (.ref F.c) ctv) ⟨[], []⟩ = seqItems? (.ref t0) >>= kk ∧ ∀ u : Value, kk (some #[u]) = pure [(x, u)]) (C : CellsAt F.cl fr ws base fun _ => none)
    (hbody : ∀ (A : Around) (outer : List Env) (s : Shared) (H : Hp) (Q : VK) (E : XK), Room k (A.deeper (envF F f s.heap.objs.size)) → sp [] H Q E → ∃ t, PE (ncx CX P w K mg base N F f A outer s H E) e t ∧ t (startF N [.int 0] ws) H Q) :
    VOk P w K mg base CX (k + 1) f (gLamV1 f t0 F e) (fun vs H Q E => vs = [] ∧ sp [] H Q E) := by
  refine vok_V (vs0 := [.int 0]) S (fun H g => ⟨g.1, g.2.2⟩) rfl (fun H s hok g => ?_) C hbody
  obtain ⟨_, its, rv, o, ho, hc, n, hd⟩ := (show ObjOk P w H s.heap t0 (.tup [.int 0]) from hok t0 _ g.2.1)
  obtain ⟨u, rfl, ru⟩ := rv.one
  refine ⟨[u], .cons ru .nil, fun doc pm ctv => ?_⟩
  obtain ⟨kk, h1, h2⟩ := hbind doc pm ctv
  exact BindsTo.of_defaults (T := t0) rfl ho hd h1 (h2 u)
end
/-- x(), x a name that holds the function at f -/
def tCallVal0 (f : Addr) (G : Hp → Prop) (i : Nat) (sp : Sp) (E : XK) : TE := fun σ H Q => σ[i]? = some (some (.ref f)) ∧ G H ∧ sp [] H Q E
section
variable {X : Cx} {CX : CXT} {i k : Nat} {x : Str} {f : Addr} {G : Hp → Prop} {sp : Sp} {E : XK} {p pos : Pos}
theorem pe_callVal0 (V : VOk X.prog X.w X.K X.mg X.base CX k f G sp) (hr : Room k X.A) (hx : Passes CX X E) (hN : X.N[i]? = some x) (hv : Vis X.env.scope x)
    (hd : (x == ("__debug__" : Str)) = false := by decide) (hcd : (x == ("__classdict__" : Str)) = false := by decide) :
    PE X (.Call (.Name x p) [] [] pos) (tCallVal0 f G i sp E) := by
  refine ⟨fun pins s σ H Q I ⟨hs, g, ht⟩ => ?_⟩
  refine wpAny_Call_Name_kw (thn ((pe_var (pos := p) hN hv hd hcd).run pins s σ H (fun v H1 => v = .ref f ∧ H1 = H) I ⟨.ref f, hs, rfl, rfl⟩) fun u s1 ⟨v, H1, I1, r1, ev, eH⟩ => ?_)
  subst ev eH
  obtain rfl : u = Value.ref f := r1
  exact PySem.W.callWith_F0 (first := []) (V.isf I1.hok g) (run_val V hr hx I1 g .nil ht)
end
/-! a def called with arguments that read cells of the running def: the base grows by all that is not tracked -/
/-- what is told of the larger base -/
structure Lent (X : Cx) (σ : L2.St) (base' : Heap) : Prop where
  up : ∀ b ob, X.base.get? b = some ob → base'.get? b = some ob
  ce : ∀ (cl : List (Str × Addr)) (fr : List Str) (js : List Nat), (X.Ok → NdefX.Caps X cl fr js) → CellsAt cl fr (js.map (slotAt σ)) base' fun _ => none
def tCallL (X : Cx) (sp : Heap → Sp) (E : XK) (t : TA) : TE := fun σ H Q => t σ H fun vs H1 => ∀ base' : Heap, Lent X σ base' → sp base' vs H1 Q E
section
variable {X : Cx} {CX : CXT} {k : Nat} {g : Addr} {ps : List Str} {E : XK} {x : Str} {p pos : Pos} {e : Expr} {es : List Expr} {t : TA}
theorem run_lentL {pins : List (Addr × Obj)} {σ : L2.St} {H : Hp} {s : Shared} {Q : VK} {us : List Value} {vs : List V} {sp : Heap → Sp} (I : Inv X pins σ H s) (hfn : ∀ y, X.fn y = true)
    (F : ∀ base' : Heap, ∃ fd, FnOk X.prog X.w X.K X.mg base' CX k g fd ps (sp base') ∧ L2.Binds X.K fd ps []) (hr : Room k X.A) (hx : Passes CX X E) (r : Vals vs us) (h : ∀ base', Lent X σ base' → sp base' vs H Q E) :
    wpAny (model X.prog X.w) X.A (call (.ref g) us) (EP X pins σ Q) X.xe s := by
  obtain ⟨B, hB⟩ : ∃ B, B = PySem.W.hideAll s.heap (trk s.heap H ++ frs X.stack) := ⟨_, rfl⟩
  have hid : ∀ b, b ∈ trk s.heap H ++ frs X.stack → B.get? b = none := fun b hb => hB ▸ PySem.W.hideAll_none _ hb
  have ofB : ∀ b ob, B.get? b = some ob → s.heap.get? b = some ob ∧ H b = none := fun b ob q => by
    have q' : s.heap.get? b = some ob := PySem.W.of_hideAll _ (hB ▸ q)
    refine ⟨q', ?_⟩
    cases hz : H b with
    | none => rfl
    | some u =>
      have := hid b (List.mem_append_left _ (List.mem_filter.mpr ⟨List.mem_range.mpr (Heap.lt_size q'), by rw [hz]; rfl⟩))
      rw [this] at q
      cases q
  have toB : ∀ b ob, s.heap.get? b = some ob → H b = none → b ∉ frs X.stack → B.get? b = some ob := fun b ob q n nf => by
    rw [hB]
    refine PySem.W.hideAll_get _ q fun hm => ?_
    rcases List.mem_append.mp hm with z | z
    · have z2 := (List.mem_filter.mp z).2
      rw [n] at z2
      cases z2
    · exact nf z
  have kb : ∀ b ob, X.base.get? b = some ob → B.get? b = some ob := fun b ob q => toB b ob (I.bs b ob q).1 (I.bs b ob q).2 fun z => by
    have := (I.stack.mem z).1
    rw [q] at this
    cases this
  have cB : ∀ (cl : List (Str × Addr)) (fr : List Str) (js : List Nat), (X.Ok → NdefX.Caps X cl fr js) → CellsAt cl fr (js.map (slotAt σ)) B fun _ => none := fun cl fr js cp => by
    have Cs := cells_of I (cp I.ok)
    have hcl := (cp I.ok).sub
    have nfr : ∀ y c, cl.lookup y = some c → c ∉ frs X.stack := fun y c q z => by
      have qe := hcl y c q
      rcases List.mem_cons.mp (I.stkSub c z) with z | z
      · exact I.cne y c qe z
      · obtain ⟨_, ob, ho, _⟩ := I.ok.funs.mem z
        exact absurd (Nat.lt_of_lt_of_le (Heap.lt_size ho) (I.ok.cab y c (hfn y) qe)) (Nat.lt_irrefl _)
    have kc : ∀ {y c} {v : Option Value}, cl.lookup y = some c → s.heap.IsCell c v → B.IsCell c v := fun {y c v} q ⟨ob, ho, hd⟩ => ⟨ob, toB c ob ho (Cs.all y c q).1 (nfr y c q), hd⟩
    refine ⟨Cs.len, fun y c q => ?_, Cs.inj, fun i y q => ?_⟩
    · obtain ⟨_, v, z⟩ := Cs.all y c q
      exact ⟨rfl, v, kc q z⟩
    · obtain ⟨c, hc, hv⟩ := Cs.has i y q
      refine ⟨c, hc, fun v ev => ?_⟩
      obtain ⟨u, ru, z⟩ := hv v ev
      exact ⟨u, ru, kc hc z⟩
  have M : Mod X.K X.mg B := ⟨I.mod.kin.keeps kb, I.mod.glob.keeps kb, let ⟨mb, h1, h2⟩ := I.mod.blt; ⟨mb, h1.keeps kb, h2⟩, I.mod.nolimit.keeps kb⟩
  have e0 : Env0 X.prog X.w X.K X.mg B X.A X.stack s H := ⟨I.ok.frames, M, ofB, Nat.le_of_eq (by rw [hB, PySem.W.hideAll_size]), frames_base (fun b hb => hid b (List.mem_append_right _ hb)) I.stack, I.stkFree, I.hok, I.bare⟩
  obtain ⟨fd, Fn, hb⟩ := F B
  have q := h B ⟨kb, cB⟩
  have hl : (us ++ []).length = ps.length := by
    rw [List.append_nil, ← r.length]
    exact Fn.len _ _ _ _ q
  have hb2 := hb s us I.kIn hl
  rw [List.append_nil] at hb2
  refine wpAny_call (codeAny_mono (Fn.run X.A X.stack s H ⟨us, []⟩ us vs Q E hr e0 hb2 r q) fun r s' hq => ?_)
  match r, hq with
  | .error e, hq => exact hx pins σ H s e s' I hq
  | .ok (.ret u), hq => exact I.after hq
theorem pe_callL {sp : Heap → Sp} (hfn : ∀ y, X.fn y = true) (F : ∀ base' : Heap, ∃ fd, FnOk X.prog X.w X.K X.mg base' CX k g fd ps (sp base') ∧ L2.Binds X.K fd ps []) (hr : Room k X.A) (hg : Gl X x) (hm : X.mg x = some (.ref g)) (hk : PySem.W.keepIn X.K (.ref g) = true)
    (hx : Passes CX X E) (ha : PA X (e :: es) t) (hdb : (x == ("__debug__" : Str)) = false := by decide)
    (he : starEach (e :: es) X.env = (false, eval e X.env) :: starEach es X.env := by rfl) (hpl : (backTo pos (starEach es X.env)).any (·.1) = false := by rfl) :
    PE X (.Call (.Name x p) (e :: es) [] pos) (tCallL X sp E t) := by
  refine ⟨fun pins s σ H Q I h => ?_⟩
  refine wpAny_Call_Name_kw (ld_glob I hg hm ?_ hdb)
  exact PySem.W.callWith_K (h₀ := X.base) I.ok.mod.kin hk (thn (ha.run pos pins s σ H _ I h) fun us s1 ⟨vs, H1, I1, r, q⟩ => ⟨I1.kIn, run_lentL I1 hfn F hr hx r q⟩) he hpl
end
end SwA

end

section
set_option maxRecDepth 100000
set_option maxHeartbeats 4000000
/-! the law's own: the error of a call, the call a function value -/
namespace Sw
open PySem PySem.Spec PyProof.Rows L2 SwA
def spEof (P : Program) (w : World) (K : PySem.W.Frag) (mg : Str → Option Value) (n : Nat) (base : Heap) : Sp := fun vs H Q _ => ∃ (f : Addr) (G : Hp → Prop) (sp : Sp), vs = [.ref f] ∧ VOk P w K mg base (L2.CX P w) n f G sp ∧ G H ∧ sp [] H (fun _ H' => Q .non H') (fun cls d H' => ErrW K cls d H' Q)
abbrev eoX (P : Program) (w : World) (K : PySem.W.Frag) (mg : Str → Option Value) (base : Heap) (cdv : Value) (A : Around) (outer : List Env) (s : Shared) (H : Hp) (E : XK) : Cx := (cxOf CX0 P w K mg base eofN "_law_error_of" (defScope s__law_error_of) (He.fAd K ("_law_error_of", none)) cdv A outer s H E).nox
section
variable {P : Program} {w : World} {K : PySem.W.Frag} {mg : Str → Option Value} {base : Heap}
theorem ok_eofV (T : EofT K mg) (n : Nat) : FnE P w K mg base CX0 (n + 1) ("_law_error_of", none) ["_law_call"] (spEof P w K mg n base) := by
  obtain ⟨fd, F⟩ := T.d.d
  refine ⟨fd, F.ok sc_eof (fun vs H Q E h => ?_) (fun cdv A outer s H vs Q E hr h => ?_), F.bindsN fun _ _ _ _ _ _ us hl => match us, hl with | [_], _ => rfl, F.kp⟩
  · obtain ⟨f, G, sp, rfl, _⟩ := h
    rfl
  · obtain ⟨f, G, sp, rfl, hVo, hG, hsp⟩ := h
    have hu3 : (eoX P w K mg base cdv A outer s H E).A.units + 3 < cLine := by
      have := hr.un
      show (A.deeper (envOfC "_law_error_of" (defScope s__law_error_of) s.heap.objs.size (He.fAd K ("_law_error_of", none)) cdv)).units + 3 < cLine
      omega
    refine ⟨_, PSs.nox (pss_cons (ps_try_asL (X := eoX P w K mg base cdv A outer s H E) (i := 1) (c := .ref (He.ga K "SweepError")) (ts := ?ts)
        (tb := fun W D σ H => ∃ Ech : XK, (∀ cls d σ' H', Ech cls d H' → W cls d σ' H') ∧ σ[0]? = some (some (.ref f)) ∧ G H ∧ sp [] H (fun _ H' => D.nx σ H') Ech)
        5 rfl rfl rfl sc_eof.nd rfl rfl ⟨rfl, by decide, .inl T.sw⟩ takes0 ?bo ?su)
      (pss_one (ps_ret pe_non))), ?fin⟩
    case su =>
      intro a oe cls d pn hz hf
      have su : PSs ((eoX P w K mg base cdv A outer s H E).suite a ((a, oe) :: pn)) (hdB (defBody s__law_error_of)) _ := (pss_cons (ps_set (i := 2) sc_eof.nd rfl (.inl rfl) (pe_lst (pa_cons (pe_callB (call_isEx (X := eoX P w K mg base cdv A outer s H E) hz hf) (by rfl) T.isinstance (by decide +kernel) (pa_cons (pv 1) (pa_cons (pe_glob (v := .ref (He.ga K "InvalidTick")) (by rfl) (T.g "InvalidTick" (by decide +kernel)) rfl) pa_nil))) (pa_cons (pe_callB (call_isEx (X := eoX P w K mg base cdv A outer s H E) hz hf) (by rfl) T.isinstance (by decide +kernel) (pa_cons (pv 1) (pa_cons (pe_glob (v := .ref (He.ga K "InvalidNumber")) (by rfl) (T.g "InvalidNumber" (by decide +kernel)) rfl) pa_nil))) (pa_cons (pe_callB (call_isEx (X := eoX P w K mg base cdv A outer s H E) hz hf) (by rfl) T.isinstance (by decide +kernel) (pa_cons (pv 1) (pa_cons (pe_glob (v := .ref (He.ga K "UnknownSign")) (by rfl) (T.g "UnknownSign" (by decide +kernel)) rfl) pa_nil))) pa_nil)))))
        (pss_cons (ps_set (i := 2) sc_eof.nd rfl (.inl rfl) (pe_op op_cat (pv 2) (pe_lst (pa_cons (pe_callB (call_isEx (X := eoX P w K mg base cdv A outer s H E) hz hf) (by rfl) T.isinstance (by decide +kernel) (pa_cons (pv 1) (pa_cons (pe_glob (v := .ref (He.ga K "TooLong")) (by rfl) (T.g "TooLong" (by decide +kernel)) rfl) pa_nil))) (pa_cons (pe_callB (call_isEx (X := eoX P w K mg base cdv A outer s H E) hz hf) (by rfl) T.isinstance (by decide +kernel) (pa_cons (pv 1) (pa_cons (pe_glob (v := .ref (He.ga K "OtherCorridor")) (by rfl) (T.g "OtherCorridor" (by decide +kernel)) rfl) pa_nil))) (pa_cons (pe_callB (call_isEx (X := eoX P w K mg base cdv A outer s H E) hz hf) (by rfl) T.isinstance (by decide +kernel) (pa_cons (pv 1) (pa_cons (pe_glob (v := .ref (He.ga K "Contradiction")) (by rfl) (T.g "Contradiction" (by decide +kernel)) rfl) pa_nil))) pa_nil))))))
        (pss_cons (ps_set (i := 2) sc_eof.nd rfl (.inl rfl) (pe_op op_cat (pv 2) (pe_lst (pa_cons (pe_callB (call_isEx (X := eoX P w K mg base cdv A outer s H E) hz hf) (by rfl) T.isinstance (by decide +kernel) (pa_cons (pv 1) (pa_cons (pe_glob (v := .ref (He.ga K "InvalidName")) (by rfl) (T.g "InvalidName" (by decide +kernel)) rfl) pa_nil))) (pa_cons (pe_callB (call_isEx (X := eoX P w K mg base cdv A outer s H E) hz hf) (by rfl) T.isinstance (by decide +kernel) (pa_cons (pv 1) (pa_cons (pe_glob (v := .ref (He.ga K "UnknownName")) (by rfl) (T.g "UnknownName" (by decide +kernel)) rfl) pa_nil))) (pa_cons (pe_callB (call_isEx (X := eoX P w K mg base cdv A outer s H E) hz hf) (by rfl) T.isinstance (by decide +kernel) (pa_cons (pv 1) (pa_cons (pe_glob (v := .ref (He.ga K "SyntaxFault")) (by rfl) (T.g "SyntaxFault" (by decide +kernel)) rfl) pa_nil))) pa_nil))))))
        (pss_cons (ps_set (i := 2) sc_eof.nd rfl (.inl rfl) (pe_op op_cat (pv 2) (pe_lst (pa_cons (pe_callB (call_isEx (X := eoX P w K mg base cdv A outer s H E) hz hf) (by rfl) T.isinstance (by decide +kernel) (pa_cons (pv 1) (pa_cons (pe_glob (v := .ref (He.ga K "CheckFault")) (by rfl) (T.g "CheckFault" (by decide +kernel)) rfl) pa_nil))) (pa_cons (pe_callB (call_isEx (X := eoX P w K mg base cdv A outer s H E) hz hf) (by rfl) T.isinstance (by decide +kernel) (pa_cons (pv 1) (pa_cons (pe_glob (v := .ref (He.ga K "InvalidCode")) (by rfl) (T.g "InvalidCode" (by decide +kernel)) rfl) pa_nil))) (pa_cons (pe_callB (call_isEx (X := eoX P w K mg base cdv A outer s H E) hz hf) (by rfl) T.isinstance (by decide +kernel) (pa_cons (pv 1) (pa_cons (pe_glob (v := .ref (He.ga K "InvalidOperation")) (by rfl) (T.g "InvalidOperation" (by decide +kernel)) rfl) pa_nil))) pa_nil))))))
        (pss_cons (ps_if (PW.pt (pw_or (pt_cmpR op_ne (pe_bm PySem.F.plainAttrs_list PySem.F.slot_list_count PySem.F.type_list_count (mt_bcount (X := (eoX P w K mg base cdv A outer s H E).suite a ((a, oe) :: pn)) hu3) (pv 2) (pa_cons pe_bl pa_nil)) pe_int (nomark _)) (pw_or1 (pt_not (pt_val (pe_callB (call_isEx (X := eoX P w K mg base cdv A outer s H E) hz hf) (by rfl) T.isinstance (by decide +kernel) (pa_cons (pv 1) (pa_cons (pe_bltn (v := .ty "ValueError") (by rfl) T.VE (by decide +kernel) rfl) pa_nil))))))))
          (pss_one (ps_ret (pe_tup (pa_cons pe_str (pa_cons pe_int pa_nil))))) pss_nil)
        (pss_cons (ps_set (i := 3) sc_eof.nd rfl (.inl rfl) (pe_lst (pa_cons pe_str (pa_cons pe_str (pa_cons pe_str (pa_cons pe_str (pa_cons pe_str (pa_cons pe_str (pa_cons pe_str (pa_cons pe_str (pa_cons pe_str (pa_cons pe_str pa_nil))))))))))))
        (pss_cons (ps_set (i := 4) sc_eof.nd rfl (.inl rfl) (pe_ix ix_list (pe_op op_cat (pv 3) (pe_lst (pa_cons pe_str (pa_cons pe_str pa_nil)))) (pe_bm PySem.F.plainAttrs_list PySem.F.slot_list_index PySem.F.type_list_index mt_index (pv 2) (pa_cons pe_bl pa_nil)) (fun _ _ => rfl)))
        (pss_cons (ps_if (pt_cmpR op_in_seq (pv 4) (pe_lst (pa_cons pe_str (pa_cons pe_str pa_nil))) (by rfl))
          (pss_one (ps_ret (pe_tup (pa_cons (pv 4) (pa_cons (pe_ifExp (pt_cmpR op_eq (pv 4) pe_str (nomark _)) pe_no pe_no) pa_nil))))) pss_nil)
        (pss_one (ps_ret (pe_tup (pa_cons (pv 4) (pa_cons (pe_ifExp (pt_cmpR op_in_seq (pv 4) (pe_lst (pa_cons pe_str (pa_cons pe_str pa_nil))) (by rfl)) pe_no pe_int) pa_nil)))))))))))))
      have hK : ((eoX P w K mg base cdv A outer s H E).suite a ((a, oe) :: pn)).K = K := rfl
      rw [hK] at su
      exact su
    case bo =>
      intro W pn xe tk _
      refine ⟨fun pins s' σ H' D I h' => ?_⟩
      obtain ⟨Ech, hW, h1, h2, h3⟩ := h'
      exact (pss_one (ps_expr (pe_callVal0 (X := (eoX P w K mg base cdv A outer s H E).tr pn xe) (i := 0) hVo hr (passes_call tk hW) rfl (.inl rfl)))).run pins s' σ H' D I ⟨h1, h2, h3⟩
    case fin =>
      refine ⟨fun cls d H' => ErrW K cls d H' Q, fun cls d σ' H' hE => ?_, rfl, hG, hsp⟩
      obtain ⟨D, j, z, rfl, rfl, ek, hj, hz, kq⟩ := hE
      refine ⟨true, ek.exm, fun _ a na hl => ?_, fun z => nomatch z⟩
      obtain ⟨x0, x1, x2, x3, x4, rfl⟩ : ∃ x0 x1 x2 x3 x4, σ' = [x0, x1, x2, x3, x4] := by
        have hl : (σ'.set 1 (some (.ref a))).length = 5 := hl
        rw [List.length_set] at hl
        match σ', hl with
        | [x0, x1, x2, x3, x4], _ => exact ⟨x0, x1, x2, x3, x4, rfl⟩
      clear hl
      refine ⟨_, rfl, He.ga K D, _, _, decide (0 = j), rfl, rfl, ek.ex, rfl, (fun _ h => h), ek.kd ("InvalidTick", 0) (by decide +kernel), _, rfl, He.ga K D, _, _, decide (1 = j), rfl, rfl, ek.ex, rfl, (fun _ h => h), ek.kd ("InvalidNumber", 1) (by decide +kernel), _, rfl, He.ga K D, _, _, decide (2 = j), rfl, rfl, ek.ex, rfl, (fun _ h => h), ek.kd ("UnknownSign", 2) (by decide +kernel), (by show 3 ≤ sizeLine; decide), fun p1 np1 => ?_⟩
      have s1 := sameUpd (o := .lst [.bl (decide (0 = j)), .bl (decide (1 = j)), .bl (decide (2 = j))]) (Same.refl H') np1
      have hp1 := @upd_same H' p1 (.lst [.bl (decide (0 = j)), .bl (decide (1 = j)), .bl (decide (2 = j))])
      generalize upd H' p1 (.lst [.bl (decide (0 = j)), .bl (decide (1 = j)), .bl (decide (2 = j))]) = H1 at *
      refine ⟨_, rfl, _, rfl, He.ga K D, _, _, decide (3 = j), rfl, rfl, ek.ex, rfl, (fun _ h => h), ek.kd ("TooLong", 3) (by decide +kernel), _, rfl, He.ga K D, _, _, decide (4 = j), rfl, rfl, ek.ex, rfl, (fun _ h => h), ek.kd ("OtherCorridor", 4) (by decide +kernel), _, rfl, He.ga K D, _, _, decide (5 = j), rfl, rfl, ek.ex, rfl, (fun _ h => h), ek.kd ("Contradiction", 5) (by decide +kernel), (by show 3 ≤ sizeLine; decide), fun p2 np2 => ?_⟩
      have u0 := sameUpd (o := .lst [.bl (decide (3 = j)), .bl (decide (4 = j)), .bl (decide (5 = j))]) (Same.refl H1) np2
      have hp2 := @upd_same H1 p2 (.lst [.bl (decide (3 = j)), .bl (decide (4 = j)), .bl (decide (5 = j))])
      replace hp1 := u0 _ _ hp1
      replace s1 := s1.trans u0
      generalize upd H1 p2 (.lst [.bl (decide (3 = j)), .bl (decide (4 = j)), .bl (decide (5 = j))]) = H2 at *
      refine ⟨p1, p2, _, _, rfl, rfl, hp1, hp2, (by show 6 ≤ sizeLine; decide), fun p3 np3 => ?_⟩
      have u1 := sameUpd (o := .lst ([.bl (decide (0 = j)), .bl (decide (1 = j)), .bl (decide (2 = j))] ++ [.bl (decide (3 = j)), .bl (decide (4 = j)), .bl (decide (5 = j))])) (Same.refl H2) np3
      have hp3 := @upd_same H2 p3 (.lst ([.bl (decide (0 = j)), .bl (decide (1 = j)), .bl (decide (2 = j))] ++ [.bl (decide (3 = j)), .bl (decide (4 = j)), .bl (decide (5 = j))]))
      replace s1 := s1.trans u1
      generalize upd H2 p3 (.lst ([.bl (decide (0 = j)), .bl (decide (1 = j)), .bl (decide (2 = j))] ++ [.bl (decide (3 = j)), .bl (decide (4 = j)), .bl (decide (5 = j))])) = H3 at *
      refine ⟨_, rfl, _, rfl, He.ga K D, _, _, decide (6 = j), rfl, rfl, ek.ex, rfl, (fun _ h => h), ek.kd ("InvalidName", 6) (by decide +kernel), _, rfl, He.ga K D, _, _, decide (7 = j), rfl, rfl, ek.ex, rfl, (fun _ h => h), ek.kd ("UnknownName", 7) (by decide +kernel), _, rfl, He.ga K D, _, _, decide (8 = j), rfl, rfl, ek.ex, rfl, (fun _ h => h), ek.kd ("SyntaxFault", 8) (by decide +kernel), (by show 3 ≤ sizeLine; decide), fun p4 np4 => ?_⟩
      have u2 := sameUpd (o := .lst [.bl (decide (6 = j)), .bl (decide (7 = j)), .bl (decide (8 = j))]) (Same.refl H3) np4
      have hp4 := @upd_same H3 p4 (.lst [.bl (decide (6 = j)), .bl (decide (7 = j)), .bl (decide (8 = j))])
      replace hp3 := u2 _ _ hp3
      replace s1 := s1.trans u2
      generalize upd H3 p4 (.lst [.bl (decide (6 = j)), .bl (decide (7 = j)), .bl (decide (8 = j))]) = H4 at *
      refine ⟨p3, p4, _, _, rfl, rfl, hp3, hp4, (by show 9 ≤ sizeLine; decide), fun p5 np5 => ?_⟩
      have u3 := sameUpd (o := .lst (([.bl (decide (0 = j)), .bl (decide (1 = j)), .bl (decide (2 = j))] ++ [.bl (decide (3 = j)), .bl (decide (4 = j)), .bl (decide (5 = j))]) ++ [.bl (decide (6 = j)), .bl (decide (7 = j)), .bl (decide (8 = j))])) (Same.refl H4) np5
      have hp5 := @upd_same H4 p5 (.lst (([.bl (decide (0 = j)), .bl (decide (1 = j)), .bl (decide (2 = j))] ++ [.bl (decide (3 = j)), .bl (decide (4 = j)), .bl (decide (5 = j))]) ++ [.bl (decide (6 = j)), .bl (decide (7 = j)), .bl (decide (8 = j))]))
      replace s1 := s1.trans u3
      generalize upd H4 p5 (.lst (([.bl (decide (0 = j)), .bl (decide (1 = j)), .bl (decide (2 = j))] ++ [.bl (decide (3 = j)), .bl (decide (4 = j)), .bl (decide (5 = j))]) ++ [.bl (decide (6 = j)), .bl (decide (7 = j)), .bl (decide (8 = j))])) = H5 at *
      refine ⟨_, rfl, _, rfl, He.ga K D, _, _, decide (9 = j), rfl, rfl, ek.ex, rfl, (fun _ h => h), ek.kd ("CheckFault", 9) (by decide +kernel), _, rfl, He.ga K D, _, _, decide (10 = j), rfl, rfl, ek.ex, rfl, (fun _ h => h), ek.kd ("InvalidCode", 10) (by decide +kernel), _, rfl, He.ga K D, _, _, decide (11 = j), rfl, rfl, ek.ex, rfl, (fun _ h => h), ek.kd ("InvalidOperation", 11) (by decide +kernel), (by show 3 ≤ sizeLine; decide), fun p6 np6 => ?_⟩
      have u4 := sameUpd (o := .lst [.bl (decide (9 = j)), .bl (decide (10 = j)), .bl (decide (11 = j))]) (Same.refl H5) np6
      have hp6 := @upd_same H5 p6 (.lst [.bl (decide (9 = j)), .bl (decide (10 = j)), .bl (decide (11 = j))])
      replace hp5 := u4 _ _ hp5
      replace s1 := s1.trans u4
      generalize upd H5 p6 (.lst [.bl (decide (9 = j)), .bl (decide (10 = j)), .bl (decide (11 = j))]) = H6 at *
      refine ⟨p5, p6, _, _, rfl, rfl, hp5, hp6, (by show 12 ≤ sizeLine; decide), fun p7 np7 => ?_⟩
      have u5 := sameUpd (o := .lst ((([.bl (decide (0 = j)), .bl (decide (1 = j)), .bl (decide (2 = j))] ++ [.bl (decide (3 = j)), .bl (decide (4 = j)), .bl (decide (5 = j))]) ++ [.bl (decide (6 = j)), .bl (decide (7 = j)), .bl (decide (8 = j))]) ++ [.bl (decide (9 = j)), .bl (decide (10 = j)), .bl (decide (11 = j))])) (Same.refl H6) np7
      have hp7 := @upd_same H6 p7 (.lst ((([.bl (decide (0 = j)), .bl (decide (1 = j)), .bl (decide (2 = j))] ++ [.bl (decide (3 = j)), .bl (decide (4 = j)), .bl (decide (5 = j))]) ++ [.bl (decide (6 = j)), .bl (decide (7 = j)), .bl (decide (8 = j))]) ++ [.bl (decide (9 = j)), .bl (decide (10 = j)), .bl (decide (11 = j))]))
      replace s1 := s1.trans u5
      generalize upd H6 p7 (.lst ((([.bl (decide (0 = j)), .bl (decide (1 = j)), .bl (decide (2 = j))] ++ [.bl (decide (3 = j)), .bl (decide (4 = j)), .bl (decide (5 = j))]) ++ [.bl (decide (6 = j)), .bl (decide (7 = j)), .bl (decide (8 = j))]) ++ [.bl (decide (9 = j)), .bl (decide (10 = j)), .bl (decide (11 = j))])) = H7 at *
      have hk : H7 p7 = some (.lst ((bsJ j).map V.bl)) := hp7
      have hj12 : j < 12 := by omega
      refine ⟨_, rfl, .inl ⟨rfl, _, SqL.of hk⟩, p7, bsJ j, rfl, rfl, SqL.of hk, ?_⟩
      rw [bs_count hj12]
      refine ⟨rfl, false, rfl, iteF ?_⟩
      refine ⟨_, rfl, He.ga K D, _, _, true, rfl, rfl, ek.ex, rfl, (fun _ h => h), ek.ve, _, rfl, ?_⟩
      refine ⟨(by show 10 ≤ sizeLine; decide), fun p8 np8 => ?_⟩
      have u6 := sameUpd (o := .lst [.str "tick", .str "number", .str "sign", .str "long", .str "other", .str "contradiction", .str "name", .str "unknown", .str "syntax", .str "check"]) (Same.refl H7) np8
      have hp8 := @upd_same H7 p8 (.lst [.str "tick", .str "number", .str "sign", .str "long", .str "other", .str "contradiction", .str "name", .str "unknown", .str "syntax", .str "check"])
      replace hk := u6 _ _ hk
      replace s1 := s1.trans u6
      generalize upd H7 p8 (.lst [.str "tick", .str "number", .str "sign", .str "long", .str "other", .str "contradiction", .str "name", .str "unknown", .str "syntax", .str "check"]) = H8 at *
      refine ⟨_, rfl, (by show 2 ≤ sizeLine; decide), fun p9 np9 => ?_⟩
      have u7 := sameUpd (o := .lst [.str "code", .str "operation"]) (Same.refl H8) np9
      have hp9 := @upd_same H8 p9 (.lst [.str "code", .str "operation"])
      replace hk := u7 _ _ hk
      replace hp8 := u7 _ _ hp8
      replace s1 := s1.trans u7
      generalize upd H8 p9 (.lst [.str "code", .str "operation"]) = H9 at *
      refine ⟨p8, p9, _, _, rfl, rfl, hp8, hp9, (by show 12 ≤ sizeLine; decide), fun p10 np10 => ?_⟩
      have u8 := sameUpd (o := .lst ([.str "tick", .str "number", .str "sign", .str "long", .str "other", .str "contradiction", .str "name", .str "unknown", .str "syntax", .str "check"] ++ [.str "code", .str "operation"])) (Same.refl H9) np10
      have hp10 := @upd_same H9 p10 (.lst ([.str "tick", .str "number", .str "sign", .str "long", .str "other", .str "contradiction", .str "name", .str "unknown", .str "syntax", .str "check"] ++ [.str "code", .str "operation"]))
      replace hk := u8 _ _ hk
      replace s1 := s1.trans u8
      generalize upd H9 p10 (.lst ([.str "tick", .str "number", .str "sign", .str "long", .str "other", .str "contradiction", .str "name", .str "unknown", .str "syntax", .str "check"] ++ [.str "code", .str "operation"])) = H10 at *
      obtain ⟨b1, b2⟩ := bs_at hj12
      refine ⟨_, rfl, .inl ⟨rfl, _, SqL.of hk⟩, p7, _, _, j, .bl true, rfl, rfl, SqL.of hk, rfl, rfl, b1, rfl, b2, p10, _, _, _, rfl, rfl, SqL.of hp10, atI_nat (wordV hz), ?_⟩
      obtain ⟨w1, w2⟩ := word_out hj hz
      refine ⟨_, rfl, (by show 2 ≤ sizeLine; decide), fun p11 np11 => ?_⟩
      have u9 := sameUpd (o := .lst [.str "syntax", .str "check"]) (Same.refl H10) np11
      have hp11 := @upd_same H10 p11 (.lst [.str "syntax", .str "check"])
      replace s1 := s1.trans u9
      generalize upd H10 p11 (.lst [.str "syntax", .str "check"]) = H11 at *
      refine ⟨p11, _, rfl, .inl (SqL.of hp11), rfl, rfl, false, congrArg V.bl w1, iteF ?_⟩
      refine ⟨_, rfl, _, rfl, (by show 2 ≤ sizeLine; decide), fun p12 np12 => ?_⟩
      have u10 := sameUpd (o := .lst [.str "code", .str "operation"]) (Same.refl H11) np12
      have hp12 := @upd_same H11 p12 (.lst [.str "code", .str "operation"])
      replace s1 := s1.trans u10
      generalize upd H11 p12 (.lst [.str "code", .str "operation"]) = H12 at *
      refine ⟨p12, _, rfl, .inl (SqL.of hp12), rfl, rfl, false, congrArg V.bl w2, iteF ?_⟩
      exact ⟨(by show 2 ≤ sizeLine; decide), fun t nt => kq t _ (s1.trans (sameUpd (Same.refl _) nt)) upd_same⟩
end
end Sw

end

section
set_option maxRecDepth 100000
set_option maxHeartbeats 4000000
/-! the law's own: the error of a call, with what the error tells: its place -/
namespace SwA
open PySem PySem.Spec PyProof.Rows L2
def XDat (d : Option Addr) (H : Hp) : Prop := d = none ∨ ∃ (dd : Addr) (fs : List (Str × V)), d = some dd ∧ H dd = some (.xd fs)
theorem XDat.same {d : Option Addr} {H H' : Hp} (h : XDat d H) (s : Same H H') : XDat d H' := h.elim .inl fun ⟨dd, fs, e, q⟩ => .inr ⟨dd, fs, e, s _ _ q⟩
def rIsEy (K : PySem.W.Frag) (cls : Value) (d : Option Addr) (a : Addr) : List V → Hp → VK → Prop := fun xs H Q => ∃ (D : Addr) (c : V) (cv : Value) (b : Bool), cls = .ref D ∧ XDat d H ∧ L2.ExcC K D ∧ xs = [.ref a, c] ∧ (∀ u, RelV c u → u = cv) ∧ PySem.W.kitOne K (.ref D) cv = some b ∧ Q (.bl b) H
theorem call_isEy {X : Cx} {a : Addr} {cls : Value} {d : Option Addr} {oe : Obj} {pn : List (Addr × Obj)} (hz : Zc cls d oe) (hf : ∃ vs, oe.data = .fields vs) : CallR (X.suite a ((a, oe) :: pn)) (.builtin "isinstance") (rIsEy X.K cls d a) := by
  intro pins s σ H xs us Q I r h
  obtain ⟨D, c, cv, b, rfl, hx, C, h⟩ := h
  rcases hx with rfl | ⟨dd, fs, rfl, hdd⟩
  · exact call_isE C hz hf pins s σ H xs us Q I r ⟨c, cv, b, h⟩
  obtain ⟨rfl, hcv, e, q⟩ := h
  obtain ⟨u1, rest, rfl, r1, r2⟩ : ∃ u1 rest, us = u1 :: rest ∧ RelV (.ref a) u1 ∧ Vals [c] rest := by
    cases r with
    | cons rx rr => exact ⟨_, _, rfl, rx, rr⟩
  obtain ⟨u2, rfl, r3⟩ := r2.one
  cases r1
  obtain rfl := hcv _ r3
  have hget := (I.pin (a, oe) (List.mem_append_left _ List.mem_cons_self)).1
  obtain ⟨vs, hv⟩ := hf
  have hok : ObjOk X.prog X.w H s.heap dd (.xd fs) := I.hok dd _ hdd
  obtain ⟨mA, hns, _⟩ := hok
  obtain ⟨od, ho, _⟩ := lookIn_ns hns
  have J : PySem.W.InstAt s.heap a oe D (some od) := ⟨hget, hz.1, by unfold PySem.W.notCls; rw [hv] <;> rfl, by rw [hz.2]; exact ho⟩
  obtain ⟨cd, hcd, _⟩ := PySem.W.any_some C.hd
  have hcl : (PySem.W.clsIn X.K D).isSome = true := by rw [hcd]; rfl
  exact PySem.W.kia_one (PySem.W.kitx_exc hcl C.hg C.hk C.hs C.ha C.hn C.ht C.hm) I.kIn J e (fun z => nomatch z) fun tk => ⟨.bl b, H, I.kept (t' := tk) fun _ _ z => z, rfl, q⟩
/-- a field of the exception that the suite holds in a name; its class is told by the promise -/
def tXfy (K : PySem.W.Frag) (a : Addr) (cls : Value) (d : Option Addr) (i : Nat) (n : Str) : TE := fun σ H Q => ∃ C : Addr, XfC K C ∧ PySem.W.findIn K (.ref C) n = some none ∧ tXf a cls d C n (tVar i) σ H Q
theorem pe_xfy {X : Cx} {a : Addr} {oe : Obj} {cls : Value} {d : Option Addr} {pn : List (Addr × Obj)} {e : Expr} {pos : Pos} {n : Str} {i : Nat} (hz : Zc cls d oe) (hf : ∃ vs, oe.data = .fields vs) (he : PE (X.suite a ((a, oe) :: pn)) e (tVar i)) (hb : attributeBase e n X.env (eval e X.env) = eval e X.env := by rfl) :
    PE (X.suite a ((a, oe) :: pn)) (.Attribute e n pos) (tXfy X.K a cls d i n) :=
  ⟨fun pins s σ H Q I ⟨_, T, hno, h⟩ => (pe_xf T hno hz hf he hb).run pins s σ H Q I h⟩
end SwA
namespace Sw
open PySem PySem.Spec PyProof.Rows L2 SwA
/-- an error, told by the law, with what it tells -/
def ErrX (K : PySem.W.Frag) (cls : Value) (d : Option Addr) (H : Hp) (Q : VK) : Prop := ∃ (D : Str) (j : Nat) (z : Str), cls = .ref (He.ga K D) ∧ EKind K D j ∧ wordN[j]? = some z ∧
  ((j < 8 ∧ d = none ∧ ∀ (t : Addr) (H' : Hp), Same H H' → H' t = some (.tup [.str z, .int 0]) → Q (.ref t) H') ∨
   ((j = 10 ∨ j = 11) ∧ XfC K (He.ga K D) ∧ PySem.W.findIn K (.ref (He.ga K D)) "place" = some none ∧ ∃ (dd : Addr) (fs : List (Str × V)) (i : Int), d = some dd ∧ H dd = some (.xd fs) ∧ List.lookup ("place" : Str) fs = some (V.int i) ∧ ∀ (t : Addr) (H' : Hp), Same H H' → H' t = some (.tup [.str z, .int i]) → Q (.ref t) H') ∨
   (j = 8 ∧ XfC K (He.ga K D) ∧ PySem.W.findIn K (.ref (He.ga K D)) "line" = some none ∧ PySem.W.findIn K (.ref (He.ga K D)) "column" = some none ∧ ∃ (dd : Addr) (fs : List (Str × V)) (l c : Int), d = some dd ∧ H dd = some (.xd fs) ∧ List.lookup ("line" : Str) fs = some (V.int l) ∧ List.lookup ("column" : Str) fs = some (V.int c) ∧
     ∀ (t t2 : Addr) (H' : Hp), Same H H' → H' t2 = some (.tup [.int l, .int c]) → H' t = some (.tup [.str z, .ref t2]) → Q (.ref t) H'))
def spEofX (P : Program) (w : World) (K : PySem.W.Frag) (mg : Str → Option Value) (n : Nat) (base : Heap) : Sp := fun vs H Q _ => ∃ (f : Addr) (G : Hp → Prop) (sp : Sp), vs = [.ref f] ∧ VOk P w K mg base (L2.CX P w) n f G sp ∧ G H ∧ sp [] H (fun _ H' => Q .non H') (fun cls d H' => ErrX K cls d H' Q)
section
variable {P : Program} {w : World} {K : PySem.W.Frag} {mg : Str → Option Value} {base : Heap}
theorem ok_eofX (T : EofT K mg) (n : Nat) : FnE P w K mg base CX0 (n + 1) ("_law_error_of", none) ["_law_call"] (spEofX P w K mg n base) := by
  obtain ⟨fd, F⟩ := T.d.d
  refine ⟨fd, F.ok sc_eof (fun vs H Q E h => ?_) (fun cdv A outer s H vs Q E hr h => ?_), F.bindsN fun _ _ _ _ _ _ us hl => match us, hl with | [_], _ => rfl, F.kp⟩
  · obtain ⟨f, G, sp, rfl, _⟩ := h
    rfl
  · obtain ⟨f, G, sp, rfl, hVo, hG, hsp⟩ := h
    have hu3 : (eoX P w K mg base cdv A outer s H E).A.units + 3 < cLine := by
      have := hr.un
      show (A.deeper (envOfC "_law_error_of" (defScope s__law_error_of) s.heap.objs.size (He.fAd K ("_law_error_of", none)) cdv)).units + 3 < cLine
      omega
    refine ⟨_, PSs.nox (pss_cons (ps_try_asL (X := eoX P w K mg base cdv A outer s H E) (i := 1) (c := .ref (He.ga K "SweepError")) (ts := ?ts)
        (tb := fun W D σ H => ∃ Ech : XK, (∀ cls d σ' H', Ech cls d H' → W cls d σ' H') ∧ σ[0]? = some (some (.ref f)) ∧ G H ∧ sp [] H (fun _ H' => D.nx σ H') Ech)
        5 rfl rfl rfl sc_eof.nd rfl rfl ⟨rfl, by decide, .inl T.sw⟩ takes0 ?bo ?su)
      (pss_one (ps_ret pe_non))), ?fin⟩
    case su =>
      intro a oe cls d pn hz hf
      have su : PSs ((eoX P w K mg base cdv A outer s H E).suite a ((a, oe) :: pn)) (hdB (defBody s__law_error_of)) _ := (pss_cons (ps_set (i := 2) sc_eof.nd rfl (.inl rfl) (pe_lst (pa_cons (pe_callB (call_isEy (X := eoX P w K mg base cdv A outer s H E) hz hf) (by rfl) T.isinstance (by decide +kernel) (pa_cons (pv 1) (pa_cons (pe_glob (v := .ref (He.ga K "InvalidTick")) (by rfl) (T.g "InvalidTick" (by decide +kernel)) rfl) pa_nil))) (pa_cons (pe_callB (call_isEy (X := eoX P w K mg base cdv A outer s H E) hz hf) (by rfl) T.isinstance (by decide +kernel) (pa_cons (pv 1) (pa_cons (pe_glob (v := .ref (He.ga K "InvalidNumber")) (by rfl) (T.g "InvalidNumber" (by decide +kernel)) rfl) pa_nil))) (pa_cons (pe_callB (call_isEy (X := eoX P w K mg base cdv A outer s H E) hz hf) (by rfl) T.isinstance (by decide +kernel) (pa_cons (pv 1) (pa_cons (pe_glob (v := .ref (He.ga K "UnknownSign")) (by rfl) (T.g "UnknownSign" (by decide +kernel)) rfl) pa_nil))) pa_nil)))))
        (pss_cons (ps_set (i := 2) sc_eof.nd rfl (.inl rfl) (pe_op op_cat (pv 2) (pe_lst (pa_cons (pe_callB (call_isEy (X := eoX P w K mg base cdv A outer s H E) hz hf) (by rfl) T.isinstance (by decide +kernel) (pa_cons (pv 1) (pa_cons (pe_glob (v := .ref (He.ga K "TooLong")) (by rfl) (T.g "TooLong" (by decide +kernel)) rfl) pa_nil))) (pa_cons (pe_callB (call_isEy (X := eoX P w K mg base cdv A outer s H E) hz hf) (by rfl) T.isinstance (by decide +kernel) (pa_cons (pv 1) (pa_cons (pe_glob (v := .ref (He.ga K "OtherCorridor")) (by rfl) (T.g "OtherCorridor" (by decide +kernel)) rfl) pa_nil))) (pa_cons (pe_callB (call_isEy (X := eoX P w K mg base cdv A outer s H E) hz hf) (by rfl) T.isinstance (by decide +kernel) (pa_cons (pv 1) (pa_cons (pe_glob (v := .ref (He.ga K "Contradiction")) (by rfl) (T.g "Contradiction" (by decide +kernel)) rfl) pa_nil))) pa_nil))))))
        (pss_cons (ps_set (i := 2) sc_eof.nd rfl (.inl rfl) (pe_op op_cat (pv 2) (pe_lst (pa_cons (pe_callB (call_isEy (X := eoX P w K mg base cdv A outer s H E) hz hf) (by rfl) T.isinstance (by decide +kernel) (pa_cons (pv 1) (pa_cons (pe_glob (v := .ref (He.ga K "InvalidName")) (by rfl) (T.g "InvalidName" (by decide +kernel)) rfl) pa_nil))) (pa_cons (pe_callB (call_isEy (X := eoX P w K mg base cdv A outer s H E) hz hf) (by rfl) T.isinstance (by decide +kernel) (pa_cons (pv 1) (pa_cons (pe_glob (v := .ref (He.ga K "UnknownName")) (by rfl) (T.g "UnknownName" (by decide +kernel)) rfl) pa_nil))) (pa_cons (pe_callB (call_isEy (X := eoX P w K mg base cdv A outer s H E) hz hf) (by rfl) T.isinstance (by decide +kernel) (pa_cons (pv 1) (pa_cons (pe_glob (v := .ref (He.ga K "SyntaxFault")) (by rfl) (T.g "SyntaxFault" (by decide +kernel)) rfl) pa_nil))) pa_nil))))))
        (pss_cons (ps_set (i := 2) sc_eof.nd rfl (.inl rfl) (pe_op op_cat (pv 2) (pe_lst (pa_cons (pe_callB (call_isEy (X := eoX P w K mg base cdv A outer s H E) hz hf) (by rfl) T.isinstance (by decide +kernel) (pa_cons (pv 1) (pa_cons (pe_glob (v := .ref (He.ga K "CheckFault")) (by rfl) (T.g "CheckFault" (by decide +kernel)) rfl) pa_nil))) (pa_cons (pe_callB (call_isEy (X := eoX P w K mg base cdv A outer s H E) hz hf) (by rfl) T.isinstance (by decide +kernel) (pa_cons (pv 1) (pa_cons (pe_glob (v := .ref (He.ga K "InvalidCode")) (by rfl) (T.g "InvalidCode" (by decide +kernel)) rfl) pa_nil))) (pa_cons (pe_callB (call_isEy (X := eoX P w K mg base cdv A outer s H E) hz hf) (by rfl) T.isinstance (by decide +kernel) (pa_cons (pv 1) (pa_cons (pe_glob (v := .ref (He.ga K "InvalidOperation")) (by rfl) (T.g "InvalidOperation" (by decide +kernel)) rfl) pa_nil))) pa_nil))))))
        (pss_cons (ps_if (PW.pt (pw_or (pt_cmpR op_ne (pe_bm PySem.F.plainAttrs_list PySem.F.slot_list_count PySem.F.type_list_count (mt_bcount (X := (eoX P w K mg base cdv A outer s H E).suite a ((a, oe) :: pn)) hu3) (pv 2) (pa_cons pe_bl pa_nil)) pe_int (nomark _)) (pw_or1 (pt_not (pt_val (pe_callB (call_isEy (X := eoX P w K mg base cdv A outer s H E) hz hf) (by rfl) T.isinstance (by decide +kernel) (pa_cons (pv 1) (pa_cons (pe_bltn (v := .ty "ValueError") (by rfl) T.VE (by decide +kernel) rfl) pa_nil))))))))
          (pss_one (ps_ret (pe_tup (pa_cons pe_str (pa_cons pe_int pa_nil))))) pss_nil)
        (pss_cons (ps_set (i := 3) sc_eof.nd rfl (.inl rfl) (pe_lst (pa_cons pe_str (pa_cons pe_str (pa_cons pe_str (pa_cons pe_str (pa_cons pe_str (pa_cons pe_str (pa_cons pe_str (pa_cons pe_str (pa_cons pe_str (pa_cons pe_str pa_nil))))))))))))
        (pss_cons (ps_set (i := 4) sc_eof.nd rfl (.inl rfl) (pe_ix ix_list (pe_op op_cat (pv 3) (pe_lst (pa_cons pe_str (pa_cons pe_str pa_nil)))) (pe_bm PySem.F.plainAttrs_list PySem.F.slot_list_index PySem.F.type_list_index mt_index (pv 2) (pa_cons pe_bl pa_nil)) (fun _ _ => rfl)))
        (pss_cons (ps_if (pt_cmpR op_in_seq (pv 4) (pe_lst (pa_cons pe_str (pa_cons pe_str pa_nil))) (by rfl))
          (pss_one (ps_ret (pe_tup (pa_cons (pv 4) (pa_cons (pe_ifExp (pt_cmpR op_eq (pv 4) pe_str (nomark _)) (pe_tup (pa_cons (pe_xfy (X := eoX P w K mg base cdv A outer s H E) (n := "line") hz hf (pv 1)) (pa_cons (pe_xfy (X := eoX P w K mg base cdv A outer s H E) (n := "column") hz hf (pv 1)) pa_nil))) pe_no) pa_nil))))) pss_nil)
        (pss_one (ps_ret (pe_tup (pa_cons (pv 4) (pa_cons (pe_ifExp (pt_cmpR op_in_seq (pv 4) (pe_lst (pa_cons pe_str (pa_cons pe_str pa_nil))) (by rfl)) (pe_xfy (X := eoX P w K mg base cdv A outer s H E) (n := "place") hz hf (pv 1)) pe_int) pa_nil)))))))))))))
      have hK : ((eoX P w K mg base cdv A outer s H E).suite a ((a, oe) :: pn)).K = K := rfl
      rw [hK] at su
      exact su
    case bo =>
      intro W pn xe tk _
      refine ⟨fun pins s' σ H' D I h' => ?_⟩
      obtain ⟨Ech, hW, h1, h2, h3⟩ := h'
      exact (pss_one (ps_expr (pe_callVal0 (X := (eoX P w K mg base cdv A outer s H E).tr pn xe) (i := 0) hVo hr (passes_call tk hW) rfl (.inl rfl)))).run pins s' σ H' D I ⟨h1, h2, h3⟩
    case fin =>
      refine ⟨fun cls d H' => ErrX K cls d H' Q, fun cls d σ' H' hE => ?_, rfl, hG, hsp⟩
      obtain ⟨D, j, z, rfl, ek, hz, hcs⟩ := hE
      have xd : XDat d H' := by
        rcases hcs with ⟨_, e, _⟩ | ⟨_, _, _, dd, fs, _, e, q, _⟩ | ⟨_, _, _, _, dd, fs, _, _, e, q, _⟩
        · exact .inl e
        · exact .inr ⟨dd, fs, e, q⟩
        · exact .inr ⟨dd, fs, e, q⟩
      have hj12 : j < 12 := (List.getElem?_eq_some_iff.mp hz).1
      refine ⟨true, ek.exm, fun _ a na hl => ?_, fun z => nomatch z⟩
      obtain ⟨x0, x1, x2, x3, x4, rfl⟩ : ∃ x0 x1 x2 x3 x4, σ' = [x0, x1, x2, x3, x4] := by
        have hl : (σ'.set 1 (some (.ref a))).length = 5 := hl
        rw [List.length_set] at hl
        match σ', hl with
        | [x0, x1, x2, x3, x4], _ => exact ⟨x0, x1, x2, x3, x4, rfl⟩
      clear hl
      refine ⟨_, rfl, He.ga K D, _, _, decide (0 = j), rfl, xd, ek.ex, rfl, (fun _ h => h), ek.kd ("InvalidTick", 0) (by decide +kernel), _, rfl, He.ga K D, _, _, decide (1 = j), rfl, xd, ek.ex, rfl, (fun _ h => h), ek.kd ("InvalidNumber", 1) (by decide +kernel), _, rfl, He.ga K D, _, _, decide (2 = j), rfl, xd, ek.ex, rfl, (fun _ h => h), ek.kd ("UnknownSign", 2) (by decide +kernel), (by show 3 ≤ sizeLine; decide), fun p1 np1 => ?_⟩
      have s1 := sameUpd (o := .lst [.bl (decide (0 = j)), .bl (decide (1 = j)), .bl (decide (2 = j))]) (Same.refl H') np1
      have hp1 := @upd_same H' p1 (.lst [.bl (decide (0 = j)), .bl (decide (1 = j)), .bl (decide (2 = j))])
      generalize upd H' p1 (.lst [.bl (decide (0 = j)), .bl (decide (1 = j)), .bl (decide (2 = j))]) = H1 at *
      refine ⟨_, rfl, _, rfl, He.ga K D, _, _, decide (3 = j), rfl, xd.same s1, ek.ex, rfl, (fun _ h => h), ek.kd ("TooLong", 3) (by decide +kernel), _, rfl, He.ga K D, _, _, decide (4 = j), rfl, xd.same s1, ek.ex, rfl, (fun _ h => h), ek.kd ("OtherCorridor", 4) (by decide +kernel), _, rfl, He.ga K D, _, _, decide (5 = j), rfl, xd.same s1, ek.ex, rfl, (fun _ h => h), ek.kd ("Contradiction", 5) (by decide +kernel), (by show 3 ≤ sizeLine; decide), fun p2 np2 => ?_⟩
      have u0 := sameUpd (o := .lst [.bl (decide (3 = j)), .bl (decide (4 = j)), .bl (decide (5 = j))]) (Same.refl H1) np2
      have hp2 := @upd_same H1 p2 (.lst [.bl (decide (3 = j)), .bl (decide (4 = j)), .bl (decide (5 = j))])
      replace hp1 := u0 _ _ hp1
      replace s1 := s1.trans u0
      generalize upd H1 p2 (.lst [.bl (decide (3 = j)), .bl (decide (4 = j)), .bl (decide (5 = j))]) = H2 at *
      refine ⟨p1, p2, _, _, rfl, rfl, hp1, hp2, (by show 6 ≤ sizeLine; decide), fun p3 np3 => ?_⟩
      have u1 := sameUpd (o := .lst ([.bl (decide (0 = j)), .bl (decide (1 = j)), .bl (decide (2 = j))] ++ [.bl (decide (3 = j)), .bl (decide (4 = j)), .bl (decide (5 = j))])) (Same.refl H2) np3
      have hp3 := @upd_same H2 p3 (.lst ([.bl (decide (0 = j)), .bl (decide (1 = j)), .bl (decide (2 = j))] ++ [.bl (decide (3 = j)), .bl (decide (4 = j)), .bl (decide (5 = j))]))
      replace s1 := s1.trans u1
      generalize upd H2 p3 (.lst ([.bl (decide (0 = j)), .bl (decide (1 = j)), .bl (decide (2 = j))] ++ [.bl (decide (3 = j)), .bl (decide (4 = j)), .bl (decide (5 = j))])) = H3 at *
      refine ⟨_, rfl, _, rfl, He.ga K D, _, _, decide (6 = j), rfl, xd.same s1, ek.ex, rfl, (fun _ h => h), ek.kd ("InvalidName", 6) (by decide +kernel), _, rfl, He.ga K D, _, _, decide (7 = j), rfl, xd.same s1, ek.ex, rfl, (fun _ h => h), ek.kd ("UnknownName", 7) (by decide +kernel), _, rfl, He.ga K D, _, _, decide (8 = j), rfl, xd.same s1, ek.ex, rfl, (fun _ h => h), ek.kd ("SyntaxFault", 8) (by decide +kernel), (by show 3 ≤ sizeLine; decide), fun p4 np4 => ?_⟩
      have u2 := sameUpd (o := .lst [.bl (decide (6 = j)), .bl (decide (7 = j)), .bl (decide (8 = j))]) (Same.refl H3) np4
      have hp4 := @upd_same H3 p4 (.lst [.bl (decide (6 = j)), .bl (decide (7 = j)), .bl (decide (8 = j))])
      replace hp3 := u2 _ _ hp3
      replace s1 := s1.trans u2
      generalize upd H3 p4 (.lst [.bl (decide (6 = j)), .bl (decide (7 = j)), .bl (decide (8 = j))]) = H4 at *
      refine ⟨p3, p4, _, _, rfl, rfl, hp3, hp4, (by show 9 ≤ sizeLine; decide), fun p5 np5 => ?_⟩
      have u3 := sameUpd (o := .lst (([.bl (decide (0 = j)), .bl (decide (1 = j)), .bl (decide (2 = j))] ++ [.bl (decide (3 = j)), .bl (decide (4 = j)), .bl (decide (5 = j))]) ++ [.bl (decide (6 = j)), .bl (decide (7 = j)), .bl (decide (8 = j))])) (Same.refl H4) np5
      have hp5 := @upd_same H4 p5 (.lst (([.bl (decide (0 = j)), .bl (decide (1 = j)), .bl (decide (2 = j))] ++ [.bl (decide (3 = j)), .bl (decide (4 = j)), .bl (decide (5 = j))]) ++ [.bl (decide (6 = j)), .bl (decide (7 = j)), .bl (decide (8 = j))]))
      replace s1 := s1.trans u3
      generalize upd H4 p5 (.lst (([.bl (decide (0 = j)), .bl (decide (1 = j)), .bl (decide (2 = j))] ++ [.bl (decide (3 = j)), .bl (decide (4 = j)), .bl (decide (5 = j))]) ++ [.bl (decide (6 = j)), .bl (decide (7 = j)), .bl (decide (8 = j))])) = H5 at *
      refine ⟨_, rfl, _, rfl, He.ga K D, _, _, decide (9 = j), rfl, xd.same s1, ek.ex, rfl, (fun _ h => h), ek.kd ("CheckFault", 9) (by decide +kernel), _, rfl, He.ga K D, _, _, decide (10 = j), rfl, xd.same s1, ek.ex, rfl, (fun _ h => h), ek.kd ("InvalidCode", 10) (by decide +kernel), _, rfl, He.ga K D, _, _, decide (11 = j), rfl, xd.same s1, ek.ex, rfl, (fun _ h => h), ek.kd ("InvalidOperation", 11) (by decide +kernel), (by show 3 ≤ sizeLine; decide), fun p6 np6 => ?_⟩
      have u4 := sameUpd (o := .lst [.bl (decide (9 = j)), .bl (decide (10 = j)), .bl (decide (11 = j))]) (Same.refl H5) np6
      have hp6 := @upd_same H5 p6 (.lst [.bl (decide (9 = j)), .bl (decide (10 = j)), .bl (decide (11 = j))])
      replace hp5 := u4 _ _ hp5
      replace s1 := s1.trans u4
      generalize upd H5 p6 (.lst [.bl (decide (9 = j)), .bl (decide (10 = j)), .bl (decide (11 = j))]) = H6 at *
      refine ⟨p5, p6, _, _, rfl, rfl, hp5, hp6, (by show 12 ≤ sizeLine; decide), fun p7 np7 => ?_⟩
      have u5 := sameUpd (o := .lst ((([.bl (decide (0 = j)), .bl (decide (1 = j)), .bl (decide (2 = j))] ++ [.bl (decide (3 = j)), .bl (decide (4 = j)), .bl (decide (5 = j))]) ++ [.bl (decide (6 = j)), .bl (decide (7 = j)), .bl (decide (8 = j))]) ++ [.bl (decide (9 = j)), .bl (decide (10 = j)), .bl (decide (11 = j))])) (Same.refl H6) np7
      have hp7 := @upd_same H6 p7 (.lst ((([.bl (decide (0 = j)), .bl (decide (1 = j)), .bl (decide (2 = j))] ++ [.bl (decide (3 = j)), .bl (decide (4 = j)), .bl (decide (5 = j))]) ++ [.bl (decide (6 = j)), .bl (decide (7 = j)), .bl (decide (8 = j))]) ++ [.bl (decide (9 = j)), .bl (decide (10 = j)), .bl (decide (11 = j))]))
      replace s1 := s1.trans u5
      generalize upd H6 p7 (.lst ((([.bl (decide (0 = j)), .bl (decide (1 = j)), .bl (decide (2 = j))] ++ [.bl (decide (3 = j)), .bl (decide (4 = j)), .bl (decide (5 = j))]) ++ [.bl (decide (6 = j)), .bl (decide (7 = j)), .bl (decide (8 = j))]) ++ [.bl (decide (9 = j)), .bl (decide (10 = j)), .bl (decide (11 = j))])) = H7 at *
      have hk : H7 p7 = some (.lst ((bsJ j).map V.bl)) := hp7
      refine ⟨_, rfl, .inl ⟨rfl, _, SqL.of hk⟩, p7, bsJ j, rfl, rfl, SqL.of hk, ?_⟩
      rw [bs_count hj12]
      refine ⟨rfl, false, rfl, iteF ?_⟩
      refine ⟨_, rfl, He.ga K D, _, _, true, rfl, xd.same s1, ek.ex, rfl, (fun _ h => h), ek.ve, _, rfl, ?_⟩
      refine ⟨(by show 10 ≤ sizeLine; decide), fun p8 np8 => ?_⟩
      have u6 := sameUpd (o := .lst [.str "tick", .str "number", .str "sign", .str "long", .str "other", .str "contradiction", .str "name", .str "unknown", .str "syntax", .str "check"]) (Same.refl H7) np8
      have hp8 := @upd_same H7 p8 (.lst [.str "tick", .str "number", .str "sign", .str "long", .str "other", .str "contradiction", .str "name", .str "unknown", .str "syntax", .str "check"])
      replace hk := u6 _ _ hk
      replace s1 := s1.trans u6
      generalize upd H7 p8 (.lst [.str "tick", .str "number", .str "sign", .str "long", .str "other", .str "contradiction", .str "name", .str "unknown", .str "syntax", .str "check"]) = H8 at *
      refine ⟨_, rfl, (by show 2 ≤ sizeLine; decide), fun p9 np9 => ?_⟩
      have u7 := sameUpd (o := .lst [.str "code", .str "operation"]) (Same.refl H8) np9
      have hp9 := @upd_same H8 p9 (.lst [.str "code", .str "operation"])
      replace hk := u7 _ _ hk
      replace hp8 := u7 _ _ hp8
      replace s1 := s1.trans u7
      generalize upd H8 p9 (.lst [.str "code", .str "operation"]) = H9 at *
      refine ⟨p8, p9, _, _, rfl, rfl, hp8, hp9, (by show 12 ≤ sizeLine; decide), fun p10 np10 => ?_⟩
      have u8 := sameUpd (o := .lst ([.str "tick", .str "number", .str "sign", .str "long", .str "other", .str "contradiction", .str "name", .str "unknown", .str "syntax", .str "check"] ++ [.str "code", .str "operation"])) (Same.refl H9) np10
      have hp10 := @upd_same H9 p10 (.lst ([.str "tick", .str "number", .str "sign", .str "long", .str "other", .str "contradiction", .str "name", .str "unknown", .str "syntax", .str "check"] ++ [.str "code", .str "operation"]))
      replace hk := u8 _ _ hk
      replace s1 := s1.trans u8
      generalize upd H9 p10 (.lst ([.str "tick", .str "number", .str "sign", .str "long", .str "other", .str "contradiction", .str "name", .str "unknown", .str "syntax", .str "check"] ++ [.str "code", .str "operation"])) = H10 at *
      obtain ⟨b1, b2⟩ := bs_at hj12
      refine ⟨_, rfl, .inl ⟨rfl, _, SqL.of hk⟩, p7, _, _, j, .bl true, rfl, rfl, SqL.of hk, rfl, rfl, b1, rfl, b2, p10, _, _, _, rfl, rfl, SqL.of hp10, atI_nat (wordV hz), ?_⟩
      rcases hcs with ⟨hj, rfl, kq⟩ | ⟨hj, hxf, hno, dd, fs, ip, rfl, hdd, hlk, kq⟩ | ⟨rfl, hxf, hno1, hno2, dd, fs, il, ic, rfl, hdd, hl1, hl2, kq⟩
      · obtain ⟨w1, w2⟩ := word_out hj hz
        refine ⟨_, rfl, (by show 2 ≤ sizeLine; decide), fun p11 np11 => ?_⟩
        have u9 := sameUpd (o := .lst [.str "syntax", .str "check"]) (Same.refl H10) np11
        have hp11 := @upd_same H10 p11 (.lst [.str "syntax", .str "check"])
        replace s1 := s1.trans u9
        generalize upd H10 p11 (.lst [.str "syntax", .str "check"]) = H11 at *
        refine ⟨p11, _, rfl, .inl (SqL.of hp11), rfl, rfl, false, congrArg V.bl w1, iteF ?_⟩
        refine ⟨_, rfl, _, rfl, (by show 2 ≤ sizeLine; decide), fun p12 np12 => ?_⟩
        have u10 := sameUpd (o := .lst [.str "code", .str "operation"]) (Same.refl H11) np12
        have hp12 := @upd_same H11 p12 (.lst [.str "code", .str "operation"])
        replace s1 := s1.trans u10
        generalize upd H11 p12 (.lst [.str "code", .str "operation"]) = H12 at *
        refine ⟨p12, _, rfl, .inl (SqL.of hp12), rfl, rfl, false, congrArg V.bl w2, iteF ?_⟩
        exact ⟨(by show 2 ≤ sizeLine; decide), fun t nt => kq t _ (s1.trans (sameUpd (Same.refl _) nt)) upd_same⟩
      · have hw : inV (.str z) [.str "syntax", .str "check"] = false ∧ inV (.str z) [.str "code", .str "operation"] = true := by
          rcases hj with rfl | rfl <;> (cases hz; exact ⟨by decide +kernel, by decide +kernel⟩)
        obtain ⟨w1, w2⟩ := hw
        refine ⟨_, rfl, (by show 2 ≤ sizeLine; decide), fun p11 np11 => ?_⟩
        have u9 := sameUpd (o := .lst [.str "syntax", .str "check"]) (Same.refl H10) np11
        have hp11 := @upd_same H10 p11 (.lst [.str "syntax", .str "check"])
        replace s1 := s1.trans u9
        generalize upd H10 p11 (.lst [.str "syntax", .str "check"]) = H11 at *
        refine ⟨p11, _, rfl, .inl (SqL.of hp11), rfl, rfl, false, congrArg V.bl w1, iteF ?_⟩
        refine ⟨_, rfl, _, rfl, (by show 2 ≤ sizeLine; decide), fun p12 np12 => ?_⟩
        have u10 := sameUpd (o := .lst [.str "code", .str "operation"]) (Same.refl H11) np12
        have hp12 := @upd_same H11 p12 (.lst [.str "code", .str "operation"])
        replace s1 := s1.trans u10
        generalize upd H11 p12 (.lst [.str "code", .str "operation"]) = H12 at *
        refine ⟨p12, _, rfl, .inl (SqL.of hp12), rfl, rfl, true, congrArg V.bl w2, iteT ?_⟩
        refine ⟨He.ga K D, hxf, hno, _, rfl, rfl, rfl, dd, fs, .int ip, rfl, s1 _ _ hdd, hlk, ?_⟩
        exact ⟨(by show 2 ≤ sizeLine; decide), fun t nt => kq t _ (s1.trans (sameUpd (Same.refl _) nt)) upd_same⟩
      · have hw : inV (.str z) [.str "syntax", .str "check"] = true := by
          cases hz
          decide +kernel
        refine ⟨_, rfl, (by show 2 ≤ sizeLine; decide), fun p11 np11 => ?_⟩
        have u9 := sameUpd (o := .lst [.str "syntax", .str "check"]) (Same.refl H10) np11
        have hp11 := @upd_same H10 p11 (.lst [.str "syntax", .str "check"])
        replace s1 := s1.trans u9
        generalize upd H10 p11 (.lst [.str "syntax", .str "check"]) = H11 at *
        refine ⟨p11, _, rfl, .inl (SqL.of hp11), rfl, rfl, true, congrArg V.bl hw, iteT ?_⟩
        have ez : z = "syntax" := by
          cases hz
          rfl
        refine ⟨_, rfl, _, rfl, rfl, _, rfl, ?_⟩
        rw [decide_eq_true (show V.str z = V.str "syntax" by rw [ez])]
        refine iteT ⟨He.ga K D, hxf, hno1, _, rfl, rfl, rfl, dd, fs, .int il, rfl, s1 _ _ hdd, hl1, He.ga K D, hxf, hno2, _, rfl, rfl, rfl, dd, fs, .int ic, rfl, s1 _ _ hdd, hl2, (by show 2 ≤ sizeLine; decide), fun t2 nt2 => ?_⟩
        have u10 := sameUpd (o := .tup [.int il, .int ic]) (Same.refl H11) nt2
        have ht2 := @upd_same H11 t2 (.tup [.int il, .int ic])
        replace s1 := s1.trans u10
        generalize upd H11 t2 (.tup [.int il, .int ic]) = H12 at *
        exact ⟨(by show 2 ≤ sizeLine; decide), fun t nt => kq t t2 _ (s1.trans (sameUpd (Same.refl _) nt)) (sameUpd (Same.refl _) nt _ _ ht2) upd_same⟩
end
end Sw

end

section
set_option maxRecDepth 100000
set_option maxHeartbeats 4000000
/-! format_parsed -/
namespace Sw
open PySem PySem.Spec PyProof.Rows L2 SwA
theorem emp_app (w : Cs) : Str.empty ++ sx w = sx w := by
  have : Str.empty = sx [] := rfl
  rw [this, sx_app]
  rfl
theorem lenA {a b : Cs} (hl : a.length + b.length ≤ 10000) : (sx a ++ sx b).length ≤ sizeLine := by rw [sx_app, sx_len, List.length_append, sizeLine_eq]; omega
theorem lenE {b : Cs} (hl : b.length ≤ 10000) : (Str.empty ++ sx b).length ≤ sizeLine := by rw [emp_app, sx_len, sizeLine_eq]; omega
theorem len1 {b : Cs} (hl : b.length ≤ 10000) : (sx b).length ≤ sizeLine := by rw [sx_len, sizeLine_eq]; omega
structure FmtT (K : PySem.W.Frag) (mg : Str → Option Value) : Prop where
  lo : LoadT K mg
  sorted : mg "sorted" = none
  fmt : DeT K mg "format_parsed" s_format_parsed
section
variable {P : Program} {w : World} {K : PySem.W.Frag} {mg : Str → Option Value} {base : Heap}
def spFormat (K : PySem.W.Frag) : Sp := fun vs H Q _ => ∃ (a : Addr) (pl : Plan) (rs : List ((Nat × Nat) × Rule)), vs = [.ref a] ∧ PlanAt K H a pl ∧ WfP pl ∧ rs.Perm pl.rules ∧ SortedR rs ∧
  ∀ H' : Hp, Same H H' → Q (sV (textOf { pl with rules := rs })) H'
abbrev fpN : List Str := ["parsed", "signs", "moods", "lines", "tile", "is_right", "way", "sign", "mood", "left", "move", "later"]
theorem sc_fmt : FnScope fpN ["parsed"] (defScope s_format_parsed) := ⟨rfl, rfl, rfl, by decide +kernel, rfl, by decide +kernel, by decide +kernel⟩
theorem WfP.perm {pl : Plan} (h : WfP pl) {rs : List ((Nat × Nat) × Rule)} (p : rs.Perm pl.rules) : WfP { pl with rules := rs } :=
  { h with rn := ((p.map (·.1)).nodup_iff).mpr h.rn, ru := fun kv hk => h.ru kv (p.mem_iff.mp hk) }
theorem ok_fmt (T : FmtT K mg) : FnE P w K mg base CX0 1 ("format_parsed", none) ["parsed"] (spFormat K) := by
  obtain ⟨fd, F⟩ := T.fmt.d
  refine ⟨fd, F.ok sc_fmt (fun vs H Q E h => ?_) (fun cdv A outer s H vs Q E hr h => ?_), F.bindsN fun _ _ _ _ _ _ us hl => match us, hl with | [_], _ => rfl, F.kp⟩
  · obtain ⟨a, pl, rs, rfl, _⟩ := h
    rfl
  · obtain ⟨a, pl, rs, rfl, hP, wf, hper, so, k⟩ := h
    have hu := hu_of hr
    refine ⟨_, PSs.nox (pss_cons (ps_par (i := 1) (j := 2) (by rfl) sc_fmt.nd rfl rfl (by decide) rfl rfl (pa_cons (pe_fld (pv 0) rfl) (pa_cons (pe_fld (pv 0) rfl) pa_nil)) (by rfl))
      (pss_cons (ps_set (i := 3) sc_fmt.nd rfl (.inl rfl) (pe_lst (pa_cons (pe_joined (PJ.cons pe_str (PJ.cons (pe_fmt (pe_callB call_len_seq (by rfl) T.lo.p.l.len boot_len (pa_cons (pe_fld (pv 0) rfl) pa_nil))) (PJ.cons pe_str PJ.nil)))) (pa_cons (pe_joined (PJ.cons pe_str (PJ.cons (pe_fmt (pe_join pe_str (pv 1))) (PJ.cons pe_str PJ.nil)))) (pa_cons (pe_joined (PJ.cons pe_str (PJ.cons (pe_fmt (pe_join pe_str (pv 2))) (PJ.cons pe_str PJ.nil)))) pa_nil)))))
      (pss_cons (ps_for PassesOwn.never rfl (pi_tup (pe_fld (pv 0) rfl)) (pg_tup rfl (pgs_cons (pg_name (i := 4) sc_fmt.nd rfl (.inl rfl)) (pgs_cons (pg_name (i := 5) sc_fmt.nd rfl (.inl rfl)) pgs_nil)))
        (pss_cons (ps_set (i := 6) sc_fmt.nd rfl (.inl rfl) (pe_ifExp (pt_val (pv 5)) pe_str pe_str))
        (pss_one (ps_expr (pe_bm PySem.F.plainAttrs_list PySem.F.slot_list_append PySem.F.type_list_append mt_append (pv 3) (pa_cons (pe_joined (PJ.cons pe_str (PJ.cons (pe_fmt (pv 4)) (PJ.cons pe_str (PJ.cons (pe_fmt (pv 6)) (PJ.cons pe_str PJ.nil)))))) pa_nil))))))
      (pss_cons (ps_for PassesOwn.never rfl (pi_enumT (by rfl) T.lo.p.l.enumerate (pa_cons (pe_fld (pv 0) rfl) pa_nil)) (pg_tup rfl (pgs_cons (pg_name (i := 4) sc_fmt.nd rfl (.inl rfl)) (pgs_cons (pg_name (i := 7) sc_fmt.nd rfl (.inl rfl)) pgs_nil)))
        (pss_one (ps_if (pt_cmpR op_gt (pv 7) pe_int (nomark _))
          (pss_one (ps_expr (pe_bm PySem.F.plainAttrs_list PySem.F.slot_list_append PySem.F.type_list_append mt_append (pv 3) (pa_cons (pe_joined (PJ.cons pe_str (PJ.cons (pe_fmt (pe_ix ix_tup (pv 1) (pv 7) (fun _ _ => rfl))) (PJ.cons pe_str (PJ.cons (pe_fmt (pv 4)) (PJ.cons pe_str PJ.nil)))))) pa_nil)))) pss_nil)))
      (pss_cons (ps_for PassesOwn.never rfl (pi_list (pe_callB (cr_sortedDT rfl) (by rfl) T.sorted (by decide +kernel) (pa_cons (pe_fld (pv 0) rfl) pa_nil))) (pg_tup rfl (pgs_cons (pg_name (i := 8) sc_fmt.nd rfl (.inl rfl)) (pgs_cons (pg_name (i := 7) sc_fmt.nd rfl (.inl rfl)) pgs_nil)))
        (pss_cons (ps_asg (pe_dget hu (pe_fld (pv 0) rfl) (pe_tup (pa_cons (pv 8) (pa_cons (pv 7) pa_nil))) (fun _ _ => rfl))
          (pg_tup rfl (pgs_cons (pg_name (i := 9) sc_fmt.nd rfl (.inl rfl)) (pgs_cons (pg_name (i := 10) sc_fmt.nd rfl (.inl rfl)) (pgs_cons (pg_name (i := 11) sc_fmt.nd rfl (.inl rfl)) pgs_nil)))))
        (pss_one (ps_expr (pe_bm PySem.F.plainAttrs_list PySem.F.slot_list_append PySem.F.type_list_append mt_append (pv 3) (pa_cons (pe_joined (PJ.cons pe_str (PJ.cons (pe_fmt (pe_ix ix_tup (pv 2) (pv 8) (fun _ _ => rfl))) (PJ.cons pe_str (PJ.cons (pe_fmt (pe_ix ix_tup (pv 1) (pv 7) (fun _ _ => rfl))) (PJ.cons pe_str (PJ.cons (pe_fmt (pe_ix ix_tup (pv 1) (pv 9) (fun _ _ => rfl))) (PJ.cons pe_str (PJ.cons (pe_fmt (pv 10)) (PJ.cons pe_str (PJ.cons (pe_fmt (pe_ix ix_tup (pv 2) (pv 11) (fun _ _ => rfl))) (PJ.cons pe_str PJ.nil)))))))))))) pa_nil))))))
      (pss_one (ps_ret (pe_join pe_str (pv 3))))))))), ?_⟩
    obtain ⟨dx, sa, ma, fa, ra, rd, ras, e0, e1, e2, e3, e4, e5, kvs, e6, e7⟩ := hP
    have cl := T.lo.plan.c
    have na : ∀ f ∈ planF, NoAttr K (He.ga K "Plan") f := T.lo.plan.n
    refine ⟨_, rfl, a, _, dx, _, _, rfl, e0, cl, na _ (by simp), lpl_signs, _, rfl, a, _, dx, _, _, rfl, e0, cl, na _ (by simp), lpl_moods, _, _, rfl, ?_⟩
    have h16 := wf.n16
    have hdn := dec_len pl.floor.length
    have hsl : (pl.signs.map (·.length)).sum ≤ 4 * 8 := Nat.le_trans (sum_le (names_len wf.sN)) (Nat.mul_le_mul_right 8 wf.s4)
    have hml : (pl.moods.map (·.length)).sum ≤ 6 * 8 := Nat.le_trans (sum_le (names_len wf.mN)) (Nat.mul_le_mul_right 8 wf.m6)
    have hs4 := wf.s4
    have hm6 := wf.m6
    have lj1 := joinL_len [32] pl.signs
    have lj2 := joinL_len [32] pl.moods
    simp only [List.length_singleton, Nat.mul_one] at lj1 lj2
    refine ⟨sx (wCorridor ++ [32]), (by kernel_rfl), lenE (by decide), ?_⟩
    rw [emp_app]
    refine ⟨_, rfl, a, _, dx, _, _, rfl, e0, cl, na _ (by simp), lpl_floor, fa, _, rfl, .inr (SqT.of e3), .inr ⟨_, rfl, ?_⟩⟩
    rw [List.length_map]
    refine ⟨log_small (by omega), ?_⟩
    rw [str_dec (show pl.floor.length < 100 by omega)]
    refine ⟨sx (dec pl.floor.length), rfl, lenA (by simp [wCorridor]; omega), ?_⟩
    rw [sx_app]
    refine ⟨sx [59], (by kernel_rfl), lenA (by simp [wCorridor]; omega), ?_⟩
    rw [sx_app]
    refine ⟨sx (wSigns ++ [32]), (by kernel_rfl), lenE (by decide), ?_⟩
    rw [emp_app]
    refine ⟨⟨_, rfl⟩, _, rfl, sx [32], _, (pl.signs).map sx, (by kernel_rfl), rfl, sqJ (.inr e1.sq), lenJ (by simp only [List.length_singleton]; omega), ?_⟩
    rw [join_sx]
    refine .inl ⟨_, rfl, len1 (by omega), ?_⟩
    refine ⟨sx (TL.joinL [32] pl.signs), rfl, lenA (by simp [wSigns]; omega), ?_⟩
    rw [sx_app]
    refine ⟨sx [59], (by kernel_rfl), lenA (by simp [wSigns]; omega), ?_⟩
    rw [sx_app]
    refine ⟨sx (wMoods ++ [32]), (by kernel_rfl), lenE (by decide), ?_⟩
    rw [emp_app]
    refine ⟨⟨_, rfl⟩, _, rfl, sx [32], _, (pl.moods).map sx, (by kernel_rfl), rfl, sqJ (.inr e2.sq), lenJ (by simp only [List.length_singleton]; omega), ?_⟩
    rw [join_sx]
    refine .inl ⟨_, rfl, len1 (by omega), ?_⟩
    refine ⟨sx (TL.joinL [32] pl.moods), rfl, lenA (by simp [wMoods]; omega), ?_⟩
    rw [sx_app]
    refine ⟨sx [59], (by kernel_rfl), lenA (by simp [wMoods]; omega), ?_⟩
    rw [sx_app]
    refine ⟨(by show 3 ≤ sizeLine; decide), fun l nl => ?_⟩
    rw [head_lines wf.s1 wf.m1]
    have s1 : Same H (upd H l (.lst ((headW pl.floor.length pl.signs pl.moods).map lnV))) := sameUpd (Same.refl H) nl
    have hl1 := @upd_same H l (.lst ((headW pl.floor.length pl.signs pl.moods).map lnV))
    generalize upd H l (.lst ((headW pl.floor.length pl.signs pl.moods).map lnV)) = H1 at *
    -- robots
    refine ⟨_, rfl, a, _, dx, _, _, rfl, s1 _ _ e0, cl, na _ (by simp), lpl_robots, ra, rfl, ⟨_, SqT.of (s1 _ _ e4)⟩, ?_⟩
    refine for_tup (K := K) (a := ra) (xs := ras.map V.ref) (fun i σ H2 => ∃ o4 o5 o6 : Option V, σ = [some (.ref a), some (.ref sa), some (.ref ma), some (.ref l), o4, o5, o6, none, none, none, none, none] ∧ Same H H2 ∧
      H2 l = some (.lst ((headW pl.floor.length pl.signs pl.moods ++ (pl.robots.take i).map fun r => stmW pl.signs pl.moods (robS r)).map lnV))) ⟨none, none, none, rfl, s1, by rw [List.take_zero, List.map_nil, List.append_nil]; exact hl1⟩ (fun i σ H2 _ ⟨_, _, _, _, sm, _⟩ => SqT.of (sm _ _ e4)) ?_ ?_
    · rintro i x σ H2 hx ⟨o4, o5, o6, rfl, sm, hl2⟩
      rw [List.getElem?_map] at hx
      cases hra : ras[i]? with
      | none => rw [hra] at hx; cases hx
      | some rai =>
        rw [hra] at hx
        cases hx
        obtain ⟨⟨rt, rb⟩, hr', hrob⟩ := pairedL e5 hra
        have hrt : rt < pl.floor.length := wf.rt _ (List.mem_of_getElem? hr')
        have hir : i < pl.robots.length := (List.getElem?_eq_some_iff.mp hr').1
        have hr3 := wf.r3
        have dl := dec_len rt
        have et : (pl.robots.take (i + 1)).map (fun r => stmW pl.signs pl.moods (robS r)) = (pl.robots.take i).map (fun r => stmW pl.signs pl.moods (robS r)) ++ [stmW pl.signs pl.moods (robS (rt, rb))] := by
          rw [List.take_succ, hr', List.map_append]
          rfl
        have hll : ((headW pl.floor.length pl.signs pl.moods ++ (pl.robots.take i).map fun r => stmW pl.signs pl.moods (robS r)).map lnV).length < sizeLine := by
          rw [List.length_map, List.length_append, List.length_map, List.length_take, sizeLine_eq]
          simp [headW]
          omega
        cases rb
        · -- wLeft
          refine ⟨rai, _, rfl, SqT.of (sm _ _ hrob), rfl, _, _, rfl, _, _, rfl, rfl, ?_⟩
          refine ⟨_, rfl, _, rfl, ?_⟩
          refine ⟨_, rfl, .inl ⟨rfl, _, SqL.of hl2⟩, ?_⟩
          refine ⟨sx (wRobot ++ [32]), (by kernel_rfl), lenE (by decide), ?_⟩
          rw [emp_app]
          refine ⟨_, rfl, .inr ⟨_, rfl, log_small (by omega), ?_⟩⟩
          rw [str_dec (show rt < 100 by omega)]
          refine ⟨sx (dec rt), rfl, lenA (by simp [wRobot]; omega), ?_⟩
          rw [sx_app]
          refine ⟨sx [32], (by kernel_rfl), lenA (by simp [wRobot]; omega), ?_⟩
          rw [sx_app]
          refine ⟨_, rfl, .inl ⟨_, rfl, (by decide), ?_⟩⟩
          refine ⟨sx wLeft, (by kernel_rfl), lenA (by simp [wRobot, wLeft]; omega), ?_⟩
          rw [sx_app]
          refine ⟨sx [59], (by kernel_rfl), lenA (by simp [wRobot, wLeft]; omega), ?_⟩
          rw [sx_app]
          refine ⟨l, _, _, rfl, rfl, hl2, hll, _, _, _, rfl, sameUpd sm nl, ?_⟩
          have : lnV (stmW pl.signs pl.moods (robS (rt, false))) = V.str (sx (wRobot ++ [32] ++ dec rt ++ [32] ++ wLeft ++ [59])) := by
            unfold lnV lineOf robS
            rw [words_join]
            simp [stmW, TL.joinL, wayOf]
          rw [upd_same, et, snoc_ln this]
        · -- wRight
          refine ⟨rai, _, rfl, SqT.of (sm _ _ hrob), rfl, _, _, rfl, _, _, rfl, rfl, ?_⟩
          refine ⟨_, rfl, _, rfl, ?_⟩
          refine ⟨_, rfl, .inl ⟨rfl, _, SqL.of hl2⟩, ?_⟩
          refine ⟨sx (wRobot ++ [32]), (by kernel_rfl), lenE (by decide), ?_⟩
          rw [emp_app]
          refine ⟨_, rfl, .inr ⟨_, rfl, log_small (by omega), ?_⟩⟩
          rw [str_dec (show rt < 100 by omega)]
          refine ⟨sx (dec rt), rfl, lenA (by simp [wRobot]; omega), ?_⟩
          rw [sx_app]
          refine ⟨sx [32], (by kernel_rfl), lenA (by simp [wRobot]; omega), ?_⟩
          rw [sx_app]
          refine ⟨_, rfl, .inl ⟨_, rfl, (by decide), ?_⟩⟩
          refine ⟨sx wRight, (by kernel_rfl), lenA (by simp [wRobot, wRight]; omega), ?_⟩
          rw [sx_app]
          refine ⟨sx [59], (by kernel_rfl), lenA (by simp [wRobot, wRight]; omega), ?_⟩
          rw [sx_app]
          refine ⟨l, _, _, rfl, rfl, hl2, hll, _, _, _, rfl, sameUpd sm nl, ?_⟩
          have : lnV (stmW pl.signs pl.moods (robS (rt, true))) = V.str (sx (wRobot ++ [32] ++ dec rt ++ [32] ++ wRight ++ [59])) := by
            unfold lnV lineOf robS
            rw [words_join]
            simp [stmW, TL.joinL, wayOf]
          rw [upd_same, et, snoc_ln this]
    rintro σ H2 ⟨o4, o5, o6, rfl, s2, hl2⟩
    rw [List.length_map, e5.length, List.take_length] at hl2
    generalize hA : headW pl.floor.length pl.signs pl.moods ++ pl.robots.map (fun r => stmW pl.signs pl.moods (robS r)) = LA at hl2
    have hLA : LA.length ≤ 6 := by
      rw [← hA, List.length_append, List.length_map]
      have := wf.r3
      simp [headW]
      omega
    -- puts
    refine ⟨_, rfl, a, _, dx, _, _, rfl, s2 _ _ e0, cl, na _ (by simp), lpl_floor, fa, _, rfl, SqT.of (s2 _ _ e3), ?_⟩
    refine for_it (walk_enumT (K := K) (a := fa) (xs := pl.floor.map fun n : Nat => V.int n)) (fun i σ H3 => ∃ o4 o7 : Option V, σ = [some (.ref a), some (.ref sa), some (.ref ma), some (.ref l), o4, o5, o6, o7, none, none, none, none] ∧ Same H H3 ∧
      H3 l = some (.lst ((LA ++ ((List.range i).filterMap (fun t => if 0 < pl.floor.getD t 0 then some (t, pl.floor.getD t 0) else none)).map fun q => stmW pl.signs pl.moods (putS q)).map lnV))) ⟨o4, none, rfl, s2, by rw [List.range_zero, List.filterMap_nil, List.map_nil, List.append_nil]; exact hl2⟩ (fun i σ H3 _ ⟨_, _, _, sm, _⟩ => SqT.of (sm _ _ e3)) ?_ ?_
    · rintro i x σ H3 H3' hi ⟨o4, o7, rfl, sm, hl3⟩ ⟨TT, vx, vy, rfl, nT, rfl, hvx, hvy⟩
      cases hvx
      rw [List.length_map] at hi
      have hg : (pl.floor.map fun n : Nat => V.int n)[i]? = some (.int (pl.floor.getD i 0 : Nat)) := by
        rw [List.getElem?_map, List.getD_eq_getElem?_getD, List.getElem?_eq_getElem hi]
        rfl
      replace hvy := hg.symm.trans hvy
      cases hvy
      have hgs : pl.floor.getD i 0 < pl.signs.length := by
        rw [List.getD_eq_getElem?_getD, List.getElem?_eq_getElem hi]
        exact wf.fl _ (List.getElem_mem hi)
      have sT := sameUpd (o := .tup [.int (i : Nat), .int (pl.floor.getD i 0 : Nat)]) (Same.refl H3) nT
      have hT := @upd_same H3 TT (.tup [.int (i : Nat), .int (pl.floor.getD i 0 : Nat)])
      replace sm := sm.trans sT
      replace hl3 := sT _ _ hl3
      generalize upd H3 TT (.tup [.int (i : Nat), .int (pl.floor.getD i 0 : Nat)]) = H4 at *
      refine ⟨TT, _, rfl, SqT.of hT, rfl, _, _, rfl, _, _, rfl, rfl, ?_⟩
      refine ⟨_, rfl, _, _, rfl, rfl, _, rfl, ?_⟩
      refine ite2 (fun h => ?_) (fun h => ?_)
      · have h0 : 0 < pl.floor.getD i 0 := by
          have := of_decide_eq_true h
          omega
        have hs8 : (pl.signs.getD (pl.floor.getD i 0) []).length ≤ 8 := names_len wf.sN _ (getD_in hgs)
        have hsa := e1.mono (fun o z => sm _ _ z)
        have dl := dec_len i
        have hsg := nm_get hgs
        generalize hgg : pl.floor.getD i 0 = g at *
        refine ⟨_, rfl, .inl ⟨rfl, _, SqL.of hl3⟩, ?_⟩
        refine ⟨sx (wPut ++ [32]), (by kernel_rfl), lenE (by decide), ?_⟩
        rw [emp_app]
        refine ⟨_, rfl, _, rfl, sa, _, _, _, rfl, rfl, hsa.sq, atI_nat hsg, .inl ⟨_, rfl, len1 (by omega), ?_⟩⟩
        refine ⟨sx (pl.signs.getD g []), rfl, lenA (by simp [wPut] at hs8 ⊢; omega), ?_⟩
        rw [sx_app]
        refine ⟨sx [32], (by kernel_rfl), lenA (by simp [wPut] at hs8 ⊢; omega), ?_⟩
        rw [sx_app]
        refine ⟨_, rfl, .inr ⟨_, rfl, log_small (by omega), ?_⟩⟩
        rw [str_dec (show i < 100 by omega)]
        refine ⟨sx (dec i), rfl, lenA (by simp [wPut] at hs8 ⊢; omega), ?_⟩
        rw [sx_app]
        refine ⟨sx [59], (by kernel_rfl), lenA (by simp [wPut] at hs8 ⊢; omega), ?_⟩
        rw [sx_app]
        have hfl := List.length_filterMap_le (fun t => if 0 < pl.floor.getD t 0 then some (t, pl.floor.getD t 0) else none) (List.range i)
        rw [List.length_range] at hfl
        refine ⟨l, _, _, rfl, rfl, hl3, ?_, _, _, rfl, sameUpd sm nl, ?_⟩
        · rw [List.length_map, List.length_append, List.length_map, sizeLine_eq]
          omega
        · have : lnV (stmW pl.signs pl.moods (putS (i, g))) = V.str (sx (wPut ++ [32] ++ pl.signs.getD g [] ++ [32] ++ dec i ++ [59])) := by
            unfold lnV lineOf putS
            rw [words_join]
            simp [stmW, TL.joinL]
          rw [upd_same, put_range, hgg, if_pos h0, snoc_lf (f := fun q => stmW pl.signs pl.moods (putS q)) this]
      · have h0 : ¬ 0 < pl.floor.getD i 0 := by
          have := of_decide_eq_false (Bool.eq_false_iff.mpr h)
          omega
        refine ⟨_, _, rfl, sm, ?_⟩
        rw [put_range, if_neg h0, List.append_nil]
        exact hl3
    rintro σ H3 ⟨o4', o7', rfl, s3, hl3⟩
    rw [List.length_map] at hl3
    have hLB : (LA ++ (putsL pl.floor).map fun q => stmW pl.signs pl.moods (putS q)).length ≤ 30 := by
      have hfl := List.length_filterMap_le (fun t => if 0 < pl.floor.getD t 0 then some (t, pl.floor.getD t 0) else none) (List.range pl.floor.length)
      rw [List.length_range] at hfl
      rw [List.length_append, List.length_map]
      unfold putsL
      omega
    replace hl3 : H3 l = some (.lst ((LA ++ (putsL pl.floor).map fun q => stmW pl.signs pl.moods (putS q)).map lnV)) := hl3
    generalize hB : LA ++ (putsL pl.floor).map (fun q => stmW pl.signs pl.moods (putS q)) = LB at hl3 hLB
    -- rules
    have wf2 := wf.perm hper
    have hru : rs.length ≤ 24 := rules_few wf2 so
    refine ⟨_, rfl, a, _, dx, _, _, rfl, s3 _ _ e0, cl, na _ (by simp), lpl_rules, rd, kvs, pl.rules.map (·.1), rfl, Rd.of (s3 _ _ e6), rules_keys e7, fun ys bs p hperm hso hpair np => ?_⟩
    obtain rfl := perm_sorted (hperm.trans (hper.map (·.1)).symm) hso so.le
    have s4 := sameUpd (o := .lst (bs.map V.ref)) (Same.refl H3) np
    have hp4 := @upd_same H3 p (.lst (bs.map V.ref))
    have hpl : p ≠ l := fun z => by rw [z, hl3] at np; cases np
    replace hl3 := s4 _ _ hl3
    have np0 : H p = none := s3.free np
    replace s3 := s3.trans s4
    have hpair : Paired (PairAt (upd H3 p (.lst (bs.map V.ref)))) bs (rs.map (·.1)) := Paired.mapP hpair fun _ _ q => s4 _ _ q
    generalize upd H3 p (.lst (bs.map V.ref)) = H4 at *
    refine ⟨p, rfl, ⟨_, SqL.of hp4⟩, ?_⟩
    refine for_list (K := K) (a := p) (xs := bs.map V.ref) (fun i σ H5 => ∃ o7 o8 o9 o10 o11 : Option V, σ = [some (.ref a), some (.ref sa), some (.ref ma), some (.ref l), o4', o5, o6, o7, o8, o9, o10, o11] ∧ Same (cutH H4 [l]) H5 ∧
      H5 l = some (.lst ((LB ++ (rs.take i).map fun r => stmW pl.signs pl.moods (rulS r)).map lnV))) ⟨o7', none, none, none, none, rfl, cutH_same, by rw [List.take_zero, List.map_nil, List.append_nil]; exact hl3⟩
      (fun i σ H5 _ ⟨_, _, _, _, _, _, sm, _⟩ => SqL.of (sm _ _ (by rw [cutH_out (by simpa using hpl)]; exact hp4))) ?_ ?_
    · rintro i x σ H5 hx ⟨o7, o8, o9, o10, o11, rfl, sm, hl5⟩
      have up : ∀ b o, b ≠ l → H4 b = some o → H5 b = some o := fun b o hb e => sm _ _ (by rw [cutH_out (by simpa using hb)]; exact e)
      rw [List.getElem?_map] at hx
      cases hbi : bs[i]? with
      | none => rw [hbi] at hx; cases hx
      | some bi =>
        rw [hbi] at hx
        cases hx
        obtain ⟨ky, hky, hpr⟩ := pairedL hpair hbi
        rw [List.getElem?_map] at hky
        cases hri : rs[i]? with
        | none => rw [hri] at hky; cases hky
        | some kv =>
          rw [hri] at hky
          cases hky
          have hmem := hper.mem_iff.mp (List.mem_of_getElem? hri)
          have rk := wf.ru kv hmem
          have hir : i < rs.length := (List.getElem?_eq_some_iff.mp hri).1
          have nel : ∀ {b : Addr} {o : HO}, H b = some o → b ≠ l := fun e z => by rw [z, nl] at e; cases e
          have bil : bi ≠ l := fun z => by
            have q : H4 bi = _ := hpr
            rw [z, hl3] at q
            cases q
          refine ⟨bi, _, rfl, SqT.of (up _ _ bil hpr), rfl, _, _, rfl, _, _, rfl, rfl, ?_⟩
          refine ⟨_, rfl, a, _, dx, _, _, rfl, up _ _ (nel e0) (s3 _ _ e0), cl, na _ (by simp), lpl_rules, _, rfl, _, rfl, (by show 2 ≤ sizeLine; decide), fun t nt => ?_⟩
          have s6 := sameUpd (o := .tup [.int kv.1.1, .int kv.1.2]) (Same.refl H5) nt
          have ht := @upd_same H5 t (.tup [.int kv.1.1, .int kv.1.2])
          have sm6 := sm.trans s6
          replace hl5 := s6 _ _ hl5
          replace up : ∀ b o, b ≠ l → H4 b = some o → (upd H5 t (.tup [.int kv.1.1, .int kv.1.2])) b = some o := fun b o hb e => s6 _ _ (up b o hb e)
          generalize upd H5 t (.tup [.int kv.1.1, .int kv.1.2]) = H6 at *
          have e7' : Paired (RuleAt H6) pl.rules kvs := Paired.mapP e7 fun _ _ q => q.mono fun b xs z => up _ _ (nel z) (s3 _ _ z)
          obtain ⟨tv, hv1, hv2⟩ := (rules_get (k := kv.1) e7').2 kv.2 (getA_mem wf.rn hmem)
          refine ⟨rd, .ref tv, rfl, by rw [← hv1]; exact DGet.t (k := keyT kv.1) (up _ _ (nel e6) (s3 _ _ e6)) ht, ?_⟩
          refine ⟨tv, _, rfl, SqT.of hv2, rfl, _, _, rfl, _, _, rfl, _, _, rfl, rfl, ?_⟩
          have hma : TupN H6 ma (pl.moods.map sV) := e2.mono fun o z => up _ _ (nel z) (s3 _ _ z)
          have hsa : TupN H6 sa (pl.signs.map sV) := e1.mono fun o z => up _ _ (nel z) (s3 _ _ z)
          have hmv : ∀ m ∈ moves, m.length ≤ 8 := by decide +kernel
          have l1 := names_len wf.mN _ (getD_in rk.k1)
          have l2 := names_len wf.sN _ (getD_in rk.k2)
          have l3 := names_len wf.sN _ (getD_in rk.l)
          have l4 := hmv _ rk.mv
          have l5 := names_len wf.mN _ (getD_in rk.la)
          refine ⟨_, rfl, .inl ⟨rfl, _, SqL.of hl5⟩, ?_⟩
          have q1 := nm_get rk.k1
          have q2 := nm_get rk.k2
          have q3 := nm_get rk.l
          have q5 := nm_get rk.la
          have eW : lnV (stmW pl.signs pl.moods (rulS kv)) = V.str (sx (wWhen ++ [32] ++ pl.moods.getD kv.1.1 [] ++ [32] ++ pl.signs.getD kv.1.2 [] ++ (32 :: wLeave ++ [32]) ++ pl.signs.getD kv.2.left [] ++ [32] ++ kv.2.move ++ [32] ++ pl.moods.getD kv.2.later [] ++ [59])) := by
            unfold lnV lineOf rulS
            rw [words_join]
            simp [stmW, TL.joinL]
          generalize pl.moods.getD kv.1.1 [] = w1 at *
          generalize pl.signs.getD kv.1.2 [] = w2 at *
          generalize pl.signs.getD kv.2.left [] = w3 at *
          generalize pl.moods.getD kv.2.later [] = w5 at *
          refine ⟨sx (wWhen ++ [32]), (by kernel_rfl), lenE (by decide), ?_⟩
          rw [emp_app]
          refine ⟨_, rfl, _, rfl, ma, _, _, _, rfl, rfl, hma.sq, atI_nat q1, .inl ⟨_, rfl, len1 (by omega), ?_⟩⟩
          refine ⟨sx w1, rfl, lenA (by simp [wWhen]; omega), ?_⟩
          rw [sx_app]
          refine ⟨sx [32], (by kernel_rfl), lenA (by simp [wWhen]; omega), ?_⟩
          rw [sx_app]
          refine ⟨_, rfl, _, rfl, sa, _, _, _, rfl, rfl, hsa.sq, atI_nat q2, .inl ⟨_, rfl, len1 (by omega), ?_⟩⟩
          refine ⟨sx w2, rfl, lenA (by simp [wWhen]; omega), ?_⟩
          rw [sx_app]
          refine ⟨sx (32 :: wLeave ++ [32]), (by kernel_rfl), lenA (by simp [wWhen, wLeave]; omega), ?_⟩
          rw [sx_app]
          refine ⟨_, rfl, _, rfl, sa, _, _, _, rfl, rfl, hsa.sq, atI_nat q3, .inl ⟨_, rfl, len1 (by omega), ?_⟩⟩
          refine ⟨sx w3, rfl, lenA (by simp [wWhen, wLeave]; omega), ?_⟩
          rw [sx_app]
          refine ⟨sx [32], (by kernel_rfl), lenA (by simp [wWhen, wLeave]; omega), ?_⟩
          rw [sx_app]
          refine ⟨_, rfl, .inl ⟨_, rfl, len1 (by omega), ?_⟩⟩
          refine ⟨sx kv.2.move, rfl, lenA (by simp [wWhen, wLeave]; omega), ?_⟩
          rw [sx_app]
          refine ⟨sx [32], (by kernel_rfl), lenA (by simp [wWhen, wLeave]; omega), ?_⟩
          rw [sx_app]
          refine ⟨_, rfl, _, rfl, ma, _, _, _, rfl, rfl, hma.sq, atI_nat q5, .inl ⟨_, rfl, len1 (by omega), ?_⟩⟩
          refine ⟨sx w5, rfl, lenA (by simp [wWhen, wLeave]; omega), ?_⟩
          rw [sx_app]
          refine ⟨sx [59], (by kernel_rfl), lenA (by simp [wWhen, wLeave]; omega), ?_⟩
          rw [sx_app]
          refine ⟨l, _, _, rfl, rfl, hl5, ?_, _, _, _, _, _, rfl, cutS sm6 (by simp), ?_⟩
          · rw [List.length_map, List.length_append, List.length_map, List.length_take, sizeLine_eq]
            omega
          · have et : (rs.take (i + 1)) = rs.take i ++ [kv] := by
              rw [List.take_succ, hri]
              rfl
            rw [upd_same, et, snoc_lf (f := fun r => stmW pl.signs pl.moods (rulS r)) eW]
    rintro σ H5 ⟨o7, o8, o9, o10, o11, rfl, sm, hl5⟩
    have hbl : bs.length = rs.length := by rw [hpair.length, List.length_map]
    rw [List.length_map, hbl, List.take_length] at hl5
    have eL : LB ++ rs.map (fun r => stmW pl.signs pl.moods (rulS r)) = linesW { pl with rules := rs } := by
      rw [← hB, ← hA]
      unfold linesW stmsOf
      simp [List.append_assoc, Function.comp_def]
    rw [eL] at hl5
    obtain ⟨t1, t2⟩ := text_len wf2 so
    have e : (linesW { pl with rules := rs }).map lnV = (((linesW { pl with rules := rs }).map lineOf).map sx).map V.str := by rw [List.map_map, List.map_map]; rfl
    rw [e] at hl5
    refine ⟨⟨_, rfl⟩, _, rfl, sx [10], l, ((linesW { pl with rules := rs }).map lineOf).map sx, (by kernel_rfl), rfl, .inl (SqL.of hl5), lenJ (by rw [List.length_map]; simp only [List.length_singleton]; omega), ?_⟩
    rw [join_sx]
    refine k H5 fun b o e => sm _ _ ?_
    rw [cutH_out]
    · exact s3 _ _ e
    · intro z
      rw [List.mem_singleton.mp z, nl] at e
      cases e
end
end Sw

end

section
set_option maxRecDepth 100000
set_option maxHeartbeats 4000000
/-! names_code, encode -/
namespace Sw
open PySem PySem.Spec PyProof.Rows L2 SwA
/-- a def that raises only what is wished: with no wish it raises nothing -/
theorem FnE.calm {P : Program} {w : World} {K : PySem.W.Frag} {mg : Str → Option Value} {base : Heap} {k : Nat} {p : Str × Option Str} {ps : List Str} {sp : Sp} (h : FnE P w K mg base (L2.CX P w) k p ps sp) :
    FnE P w K mg base CX0 k p ps (fun vs H Q _ => sp vs H Q fun _ _ _ => False) := by
  obtain ⟨fd, G, b, q⟩ := h
  refine ⟨fd, ⟨fun vs H Q E z => G.len vs H Q _ z, fun A outer s H args us vs Q E hr he hb hv hs => codeAny_mono (G.run A outer s H args us vs Q _ hr he hb hv hs) fun r s' z => ?_⟩, b, q⟩
  match r, z with
  | .ok (.ret u), z => exact z
  | .error e, ⟨_, _, _, _, _, _, _, _, _, _, _, _, f⟩ => exact f.elim
/-! ### the bytes of a plan -/
def wordB (w : Cs) : List Nat := w.length :: w.map (· - 97)
def namesB (ws : List Cs) : List Nat := ws.length :: (ws.map wordB).flatten
def robB (r : Nat × Bool) : List Nat := [r.1, if r.2 then 1 else 0]
def moveI (m : Cs) : Nat := moves.idxOf m
def ruleB (kv : (Nat × Nat) × Rule) : List Nat := [kv.1.1, kv.1.2, kv.2.left, moveI kv.2.move, kv.2.later]
def bodyB (pl : Plan) : List Nat := [82, pl.floor.length] ++ namesB pl.signs ++ namesB pl.moods ++ [pl.robots.length] ++ (pl.robots.map robB).flatten ++ (pl.floor ++ [pl.rules.length]) ++ (pl.rules.map ruleB).flatten
def codeB (pl : Plan) : List Nat := bodyB pl ++ [(bodyB pl).sum % 256]
abbrev iVs (l : List Nat) : List V := l.map fun n : Nat => V.int n
theorem iVs_app (a b : List Nat) : iVs a ++ iVs b = iVs (a ++ b) := by simp
theorem letter_at {c : Nat} (h : isL c = true) : ∃ rest, Builtin.Str.occurrences "abcdefghijklmnopqrstuvwxyz" ⟨#[c]⟩ 0 ("abcdefghijklmnopqrstuvwxyz" : Str).length 1 = (c - 97) :: rest := by
  have key : ∀ n < 26, (Builtin.Str.occurrences "abcdefghijklmnopqrstuvwxyz" ⟨#[n + 97]⟩ 0 ("abcdefghijklmnopqrstuvwxyz" : Str).length 1).head? = some n := by decide +kernel
  have h1 : 97 ≤ c ∧ c ≤ 122 := by
    unfold isL at h
    simp only [Bool.and_eq_true, Nat.ble_eq] at h
    exact h
  have e : c - 97 + 97 = c := by omega
  have := key (c - 97) (by omega)
  rw [e] at this
  generalize Builtin.Str.occurrences "abcdefghijklmnopqrstuvwxyz" ⟨#[c]⟩ 0 ("abcdefghijklmnopqrstuvwxyz" : Str).length 1 = l at *
  cases l with
  | nil => cases this
  | cons a r =>
    cases this
    exact ⟨r, rfl⟩
theorem wordB_len (w : Cs) : (wordB w).length = w.length + 1 := by simp [wordB]
theorem flat_small {α : Type} {f : α → List Nat} {b : Nat} : ∀ {l : List α}, (∀ x ∈ l, (f x).length ≤ b) → (l.map f).flatten.length ≤ l.length * b
  | [], _ => by simp
  | a :: r, h => by
    have h1 := h a List.mem_cons_self
    have h2 := flat_small (l := r) fun x hx => h x (List.mem_cons_of_mem _ hx)
    rw [List.map_cons, List.flatten_cons, List.length_append, List.length_cons, Nat.add_mul, Nat.one_mul]
    omega
theorem take_flat {α : Type} {f : α → List Nat} {l : List α} {i : Nat} {x : α} (h : l[i]? = some x) : ((l.take (i + 1)).map f).flatten = ((l.take i).map f).flatten ++ f x := by
  rw [List.take_succ, h]
  simp
theorem namesB_len {ws : List Cs} (h : NamesOk ws) (h6 : ws.length ≤ 6) : (namesB ws).length ≤ 60 := by
  have := flat_small (f := wordB) (l := ws) (b := 9) fun x hx => by
    have := names_len h x hx
    rw [wordB_len]
    omega
  unfold namesB
  rw [List.length_cons]
  omega
structure EncT (K : PySem.W.Frag) (mg : Str → Option Value) : Prop where
  f : FmtT K mg
  int : mg "int" = none
  sum : mg "sum" = none
  names_code : DeT K mg "names_code" s_names_code
  encode : DeT K mg "encode" s_encode
  TAG : ∃ t, mg "TAG" = some (.int 82 t)
  BYTE : ∃ t, mg "BYTE" = some (.int 256 t)
  mvN : ∃ o, K.lookup (He.ga K "MOVES") = some o ∧ o.cls = .type "tuple" ∧ o.dict = none
section
variable {P : Program} {w : World} {K : PySem.W.Frag} {mg : Str → Option Value} {base : Heap}
def spNames (K : PySem.W.Frag) : Sp := fun vs H Q _ => ∃ (a : Addr) (ws : List Cs), vs = [.ref a] ∧ TupN H a (ws.map sV) ∧ NamesOk ws ∧ ws.length ≤ 6 ∧
  ∀ (l : Addr) (H' : Hp), H l = none → Same H H' → H' l = some (.lst (iVs (namesB ws))) → Q (.ref l) H'
abbrev ncN : List Str := ["names", "result", "name", "letter"]
theorem sc_names : FnScope ncN ["names"] (defScope s_names_code) := ⟨rfl, rfl, rfl, by decide +kernel, rfl, by decide +kernel, by decide +kernel⟩
abbrev rLet : V → List V → Hp → VK → Prop := fun x xs H Q => ∃ a b i rest, x = .str a ∧ xs = [.str b] ∧ Builtin.Str.occurrences a b 0 a.length 1 = i :: rest ∧ Q (.int (i : Nat)) H
theorem ok_names (T : EncT K mg) : FnE P w K mg base CX0 1 ("names_code", none) ["names"] (spNames K) := by
  obtain ⟨fd, F⟩ := T.names_code.d
  obtain ⟨tL, mL⟩ := T.f.lo.p.l.LETTERS
  refine ⟨fd, F.ok sc_names (fun vs H Q E h => ?_) (fun cdv A outer s H vs Q E hr h => ?_), F.bindsN fun _ _ _ _ _ _ us hl => match us, hl with | [_], _ => rfl, F.kp⟩
  · obtain ⟨a, ws, rfl, _⟩ := h
    rfl
  · obtain ⟨a, ws, rfl, ha, hN, h6, k⟩ := h
    refine ⟨_, PSs.nox (pss_cons (ps_set (i := 1) sc_names.nd rfl (.inl rfl) (pe_lst (pa_cons (pe_callB call_len_seq (by rfl) T.f.lo.p.l.len boot_len (pa_cons (pv 0) pa_nil)) pa_nil)))
      (pss_cons (ps_for PassesOwn.never rfl (pi_tup (pv 0)) (pg_name (i := 2) sc_names.nd rfl (.inl rfl))
        (pss_one (ps_expr (pe_bm PySem.F.plainAttrs_list PySem.F.slot_list_extend PySem.F.type_list_extend mt_extend (pv 1) (pa_cons (pe_op op_cat (pe_lst (pa_cons (pe_callB call_len_str (by rfl) T.f.lo.p.l.len boot_len (pa_cons (pv 2) pa_nil)) pa_nil)) (pe_lc (own := [("letter", 3)]) (g := (gName 3)) (tt := tYes) (te := tBM K "str" rLet (tC (.str "abcdefghijklmnopqrstuvwxyz")) (tCons (tVar 3) tNil)) rfl sc_names.nd (pi_str (pv 2)) (blkOk_by (own := [("letter", 3)]) (N := ncN) (sc := defScope s_names_code) (by decide +kernel)) (fun _ _ _ _ _ => (pg_name (i := 3) sc_names.nd rfl (.inl rfl))) (fun _ _ _ _ _ => pts_nil) (fun _ _ _ _ _ => (pe_bm PySem.F.plainAttrs_str PySem.F.slot_str_index PySem.F.type_str_index mt_sindex (pe_glob (v := .str "abcdefghijklmnopqrstuvwxyz") rfl mL ⟨_, rfl⟩) (pa_cons (pv 3) pa_nil))))) pa_nil)))))
      (pss_one (ps_ret (pv 1))))), ?_⟩
    refine ⟨_, rfl, a, _, rfl, .inr ha.sq, (by show 1 ≤ sizeLine; decide), fun l nl => ?_⟩
    rw [List.length_map]
    have s1 := sameUpd (o := .lst [V.int (ws.length : Nat)]) (Same.refl H) nl
    have hl1 := @upd_same H l (.lst [V.int (ws.length : Nat)])
    generalize upd H l (.lst [V.int (ws.length : Nat)]) = H1 at *
    refine ⟨_, rfl, a, rfl, ⟨_, (ha.mono fun _ z => s1 _ _ z).sq⟩, ?_⟩
    refine for_tup (K := K) (a := a) (xs := ws.map sV) (fun i σ H2 => ∃ o2 : Option V, σ = [some (.ref a), some (.ref l), o2, none] ∧ Same H H2 ∧ H2 l = some (.lst (iVs (ws.length :: ((ws.take i).map wordB).flatten))))
      ⟨none, rfl, s1, hl1⟩ (fun i σ H2 _ ⟨_, _, sm, _⟩ => (ha.mono fun _ z => sm _ _ z).sq) ?_ ?_
    · rintro i x σ H2 hx ⟨o2, rfl, sm, hl2⟩
      rw [List.getElem?_map] at hx
      cases hw : ws[i]? with
      | none => rw [hw] at hx; cases hx
      | some wd =>
        rw [hw] at hx
        cases hx
        have hwd := hN.ok wd (List.mem_of_getElem? hw)
        have h8 : wd.length ≤ 8 := hwd.1.2.2
        have hix : i < ws.length := (List.getElem?_eq_some_iff.mp hw).1
        refine ⟨_, rfl, .inl ⟨rfl, _, SqL.of hl2⟩, _, rfl, sx wd, rfl, by rw [sx_len, sizeLine_eq]; omega, (by show 1 ≤ sizeLine; decide), fun p1 np1 => ?_⟩
        rw [sx_len]
        have s3 := sameUpd (o := .lst [V.int (wd.length : Nat)]) (Same.refl H2) np1
        have hp1 := @upd_same H2 p1 (.lst [V.int (wd.length : Nat)])
        have pl1 : p1 ≠ l := fun z => by rw [z, hl2] at np1; cases np1
        replace hl2 := s3 _ _ hl2
        replace sm := sm.trans s3
        generalize upd H2 p1 (.lst [V.int (wd.length : Nat)]) = H3 at *
        refine ⟨_, rfl, sx wd, rfl, fun D nD => ?_⟩
        have Dl : D ≠ l := fun z => by rw [z, hl2] at nD; cases nD
        refine lc_it (walk_str (z := sx wd)) (fun j H4 => Same H3 H4 ∧ H4 D = some (.lst (iVs ((wd.take j).map (· - 97))))) ⟨sameUpd (Same.refl H3) nD, upd_same⟩ (fun _ _ _ _ => trivial) ?_ ?_
        · rintro j x H4 H4' hj ⟨sm4, hD⟩ ⟨rfl, c, hc, rfl⟩
          have hc' : wd[j]? = some c := by simpa [sx] using hc
          have hcl : isL c = true := hwd.1.1 c (List.mem_of_getElem? hc')
          obtain ⟨rest, ho⟩ := letter_at hcl
          refine ⟨rfl, rfl, _, rfl, _, _, _, rest, rfl, rfl, ho, _, hD, ?_, ?_, ?_⟩
          · rw [List.length_map, List.length_map, List.length_take, sizeLine_eq]
            omega
          · exact sameUpd sm4 nD
          · rw [upd_same, List.take_succ, hc']
            simp
        · rintro H4 ⟨sm4, hD⟩
          have hz : (sx wd).cps.size = wd.length := by simp [sx]
          rw [hz, List.take_length] at hD
          refine ⟨p1, D, _, _, rfl, rfl, sm4 _ _ hp1, hD, ?_, fun p3 np3 => ?_⟩
          · rw [List.length_map, List.length_map, sizeLine_eq]
            simp only [List.length_singleton]
            omega
          have e3 : [V.int (wd.length : Nat)] ++ iVs (wd.map (· - 97)) = iVs (wordB wd) := rfl
          rw [e3]
          have s5 := sameUpd (o := .lst (iVs (wordB wd))) (Same.refl H4) np3
          have hp3 := @upd_same H4 p3 (.lst (iVs (wordB wd)))
          have hl4 := s5 _ _ (sm4 _ _ hl2)
          replace sm := (sm.trans sm4).trans s5
          generalize upd H4 p3 (.lst (iVs (wordB wd))) = H5 at *
          have hfs := flat_small (f := wordB) (l := ws.take i) (b := 9) fun x hx => by
            have := names_len hN x (List.mem_of_mem_take hx)
            rw [wordB_len]
            omega
          rw [List.length_take] at hfs
          refine ⟨l, p3, _, _, rfl, rfl, hl4, hp3, ?_, _, rfl, sameUpd sm nl, ?_⟩
          · rw [List.length_map, List.length_map, List.length_cons, wordB_len, sizeLine_eq]
            omega
          · rw [upd_same, iVs_app, take_flat hw]
            rfl
    rintro σ H2 ⟨o2, rfl, sm, hl2⟩
    rw [List.length_map, List.take_length] at hl2
    exact ⟨_, rfl, k l H2 nl sm hl2⟩
/-! ### encode -/
theorem isum (l : List Nat) : (l.map fun n : Nat => (n : Int)).sum = ((l.sum : Nat) : Int) := by
  induction l with
  | nil => rfl
  | cons a r ih =>
    rw [List.map_cons, List.sum_cons, List.sum_cons, ih]
    omega
theorem iVs_int (l : List Nat) : iVs l = (l.map fun n : Nat => (n : Int)).map V.int := by rw [List.map_map]; rfl
theorem move_at {m : Cs} (h : m ∈ moves) : (moves.map sx)[moveI m]? = some (sx m) ∧ ∀ j, j < moveI m → (moves.map sx)[j]? ≠ some (sx m) := by
  have key : ∀ m ∈ moves, (moves.map sx)[moveI m]? = some (sx m) ∧ ∀ j, j < 3 → j < moveI m → (moves.map sx)[j]? ≠ some (sx m) := by decide +kernel
  obtain ⟨a, b⟩ := key m h
  refine ⟨a, fun j hj => b j ?_ hj⟩
  have := (List.getElem?_eq_some_iff.mp a).1
  simp [moves] at this
  omega
def spEncode : Sp := fun vs H Q _ => ∃ (pl : Plan), vs = [sV (textOf pl)] ∧ WfP pl ∧ SortedR pl.rules ∧
  ∀ (l : Addr) (H' : Hp), H l = none → Same H H' → H' l = some (.lst (iVs (codeB pl))) → Q (.ref l) H'
abbrev enN : List Str := ["plan", "parsed", "result", "tile", "is_right", "mood", "sign", "left", "move", "later"]
theorem sc_enc : FnScope enN ["plan"] (defScope s_encode) := ⟨rfl, rfl, rfl, by decide +kernel, rfl, by decide +kernel, by decide +kernel⟩
theorem ok_encode (T : EncT K mg) : FnE P w K mg base CX0 9 ("encode", none) ["plan"] spEncode := by
  obtain ⟨fd, F⟩ := T.encode.d
  obtain ⟨tT, mTAG⟩ := T.TAG
  obtain ⟨tB, mBYTE⟩ := T.BYTE
  obtain ⟨fdL, GL, bL, kL⟩ := (ok_load (P := P) (w := w) (base := base) T.f.lo).calm
  obtain ⟨fdN, GN, bN, kN⟩ := ok_names (P := P) (w := w) (base := base) T
  refine ⟨fd, F.ok sc_enc (fun vs H Q E h => ?_) (fun cdv A outer s H vs Q E hr h => ?_), F.bindsN fun _ _ _ _ _ _ us hl => match us, hl with | [_], _ => rfl, F.kp⟩
  · obtain ⟨pl, rfl, _⟩ := h
    rfl
  · obtain ⟨pl, rfl, wf, so, k⟩ := h
    have hu := hu_of hr
    have hrL : Room 8 _ := hr
    have hrN : Room 1 _ := hr.mono (by decide)
    refine ⟨_, PSs.nox (pss_cons (ps_set (i := 1) sc_enc.nd rfl (.inl rfl) (pe_call GL hrL rfl T.f.lo.g_load kL bL .nil pass0 (pa_cons (pv 0) pa_nil)))
      (pss_cons (ps_set (i := 2) sc_enc.nd rfl (.inl rfl) (pe_lst (pa_cons (pe_glob (v := .int 82) rfl mTAG ⟨_, rfl⟩) (pa_cons (pe_callB call_len_seq (by rfl) T.f.lo.p.l.len boot_len (pa_cons (pe_fld (pv 1) rfl) pa_nil)) (StX.pa_star (pe_call GN hrN rfl T.names_code.g kN bN .nil pass0 (pa_cons (pe_fld (pv 1) rfl) pa_nil)) (StX.pa_star (pe_call GN hrN rfl T.names_code.g kN bN .nil pass0 (pa_cons (pe_fld (pv 1) rfl) pa_nil)) (pa_cons (pe_callB call_len_seq (by rfl) T.f.lo.p.l.len boot_len (pa_cons (pe_fld (pv 1) rfl) pa_nil)) pa_nil)))))))
      (pss_cons (ps_for PassesOwn.never rfl (pi_tup (pe_fld (pv 1) rfl)) (pg_tup rfl (pgs_cons (pg_name (i := 3) sc_enc.nd rfl (.inl rfl)) (pgs_cons (pg_name (i := 4) sc_enc.nd rfl (.inl rfl)) pgs_nil)))
        (pss_one (ps_expr (pe_bm PySem.F.plainAttrs_list PySem.F.slot_list_extend PySem.F.type_list_extend mt_extend (pv 2) (pa_cons (pe_lst (pa_cons (pv 3) (pa_cons (pe_callTy call_int1 (by rfl) T.int (by decide +kernel) (pa_cons (pv 4) pa_nil)) pa_nil))) pa_nil)))))
      (pss_cons (ps_expr (pe_bm PySem.F.plainAttrs_list PySem.F.slot_list_extend PySem.F.type_list_extend mt_extend (pv 2) (pa_cons (pe_lst (StX.pa_star (pe_fld (pv 1) rfl) (pa_cons (pe_callB call_len_dT (by rfl) T.f.lo.p.l.len boot_len (pa_cons (pe_fld (pv 1) rfl) pa_nil)) pa_nil))) pa_nil)))
      (pss_cons (ps_for PassesOwn.never rfl (pi_list (pe_callB (cr_sortedDT rfl) (by rfl) T.f.sorted (by decide +kernel) (pa_cons (pe_fld (pv 1) rfl) pa_nil))) (pg_tup rfl (pgs_cons (pg_name (i := 5) sc_enc.nd rfl (.inl rfl)) (pgs_cons (pg_name (i := 6) sc_enc.nd rfl (.inl rfl)) pgs_nil)))
        (pss_cons (ps_asg (pe_dget hu (pe_fld (pv 1) rfl) (pe_tup (pa_cons (pv 5) (pa_cons (pv 6) pa_nil))) (fun _ _ => rfl))
          (pg_tup rfl (pgs_cons (pg_name (i := 7) sc_enc.nd rfl (.inl rfl)) (pgs_cons (pg_name (i := 8) sc_enc.nd rfl (.inl rfl)) (pgs_cons (pg_name (i := 9) sc_enc.nd rfl (.inl rfl)) pgs_nil)))))
        (pss_one (ps_expr (pe_bm PySem.F.plainAttrs_list PySem.F.slot_list_extend PySem.F.type_list_extend mt_extend (pv 2) (pa_cons (pe_lst (pa_cons (pv 5) (pa_cons (pv 6) (pa_cons (pv 7) (pa_cons (pe_bm PySem.F.plainAttrs_tuple PySem.F.slot_tuple_index PySem.F.type_tuple_index mt_tup_index (pe_glob (v := .ref (He.ga K "MOVES")) rfl T.f.lo.p.MOVES rfl) (pa_cons (pv 8) pa_nil)) (pa_cons (pv 9) pa_nil)))))) pa_nil))))))
      (pss_one (ps_ret (pe_lst (StX.pa_star (pv 2) (pa_cons (pe_op op_mod (pe_callB (cr_sum rfl) (by rfl) T.sum (by decide +kernel) (pa_cons (pv 2) pa_nil)) (pe_glob (v := .int 256) rfl mBYTE ⟨_, rfl⟩)) pa_nil)))))))))), ?_⟩
    obtain ⟨st, h1, h2, h3⟩ := loads_text wf
    refine ⟨_, rfl, textOf pl, rfl, Nat.le_trans (text_len wf so).2 (by decide), fun n s hns => ?_, fun l c hns => by rw [h1] at hns; cases hns⟩
    rw [h1] at hns
    cases hns
    refine ⟨h2, fun a H1 na s1 hP => ?_⟩
    rw [h3] at hP
    obtain ⟨dx, sa, ma, fa, ra, rd, ras, e0, e1, e2, e3, e4, e5, kvs, e6, e7⟩ := hP
    have cl := T.f.lo.plan.c
    have nat : ∀ f ∈ planF, NoAttr K (He.ga K "Plan") f := T.f.lo.plan.n
    have hs4 := wf.s4
    have hm6 := wf.m6
    have h16 := wf.n16
    refine ⟨_, rfl, a, _, dx, _, _, rfl, e0, cl, nat _ (by simp), lpl_floor, fa, _, rfl, .inr (SqT.of e3), ?_⟩
    refine ⟨_, rfl, a, _, dx, _, _, rfl, e0, cl, nat _ (by simp), lpl_signs, sa, pl.signs, rfl, e1, wf.sN, by omega, fun l1 H2 nl1 s2 hl1 => ?_⟩
    refine ⟨l1, _, rfl, .inr (SqL.of hl1), ?_⟩
    refine ⟨_, rfl, a, _, dx, _, _, rfl, s2 _ _ e0, cl, nat _ (by simp), lpl_moods, ma, pl.moods, rfl, e2.mono (fun _ z => s2 _ _ z), wf.mN, by omega, fun l2 H3 nl2 s3 hl2 => ?_⟩
    refine ⟨l2, _, rfl, .inr (SqL.of hl2), ?_⟩
    replace s2 := s2.trans s3
    refine ⟨_, rfl, a, _, dx, _, _, rfl, s2 _ _ e0, cl, nat _ (by simp), lpl_robots, ra, _, rfl, .inr (SqT.of (s2 _ _ e4)), ?_⟩
    have lN1 := namesB_len wf.sN (by omega)
    have lN2 := namesB_len wf.mN (by omega)
    have hr3 := wf.r3
    have hA : (V.int 82 :: V.int (((pl.floor.map fun n : Nat => V.int n).length : Nat) : Int) :: (iVs (namesB pl.signs) ++ (iVs (namesB pl.moods) ++ [V.int (((ras.map V.ref).length : Nat) : Int)]))) =
        iVs ([82, pl.floor.length] ++ namesB pl.signs ++ namesB pl.moods ++ [pl.robots.length]) := by
      rw [List.length_map, List.length_map, e5.length]
      simp
    have lA : ([82, pl.floor.length] ++ namesB pl.signs ++ namesB pl.moods ++ [pl.robots.length]).length ≤ 130 := by
      simp only [List.length_append, List.length_cons, List.length_nil]
      omega
    show _ ∧ _
    rw [hA]
    generalize hAA : [82, pl.floor.length] ++ namesB pl.signs ++ namesB pl.moods ++ [pl.robots.length] = LA at *
    refine ⟨by rw [List.length_map, sizeLine_eq]; omega, fun l nl => ?_⟩
    have nl1 : H1 l = none := s2.free nl
    have nl0 : H l = none := s1.free nl1
    have s4 := sameUpd (o := .lst (iVs LA)) (Same.refl H3) nl
    have hl4 := @upd_same H3 l (.lst (iVs LA))
    replace s2 := s2.trans s4
    generalize upd H3 l (.lst (iVs LA)) = H4 at *
    -- robots
    refine ⟨_, rfl, a, _, dx, _, _, rfl, s2 _ _ e0, cl, nat _ (by simp), lpl_robots, ra, rfl, ⟨_, SqT.of (s2 _ _ e4)⟩, ?_⟩
    refine for_tup (K := K) (a := ra) (xs := ras.map V.ref) (fun i σ H5 => ∃ o3 o4 : Option V, σ = [some (sV (textOf pl)), some (.ref a), some (.ref l), o3, o4, none, none, none, none, none] ∧ Same H1 H5 ∧
      H5 l = some (.lst (iVs (LA ++ ((pl.robots.take i).map robB).flatten)))) ⟨none, none, rfl, s2, by rw [List.take_zero, List.map_nil, List.flatten_nil, List.append_nil]; exact hl4⟩ (fun i σ H5 _ ⟨_, _, _, sm, _⟩ => SqT.of (sm _ _ e4)) ?_ ?_
    · rintro i x σ H5 hx ⟨o3, o4, rfl, sm, hl5⟩
      rw [List.getElem?_map] at hx
      cases hra : ras[i]? with
      | none => rw [hra] at hx; cases hx
      | some rai =>
        rw [hra] at hx
        cases hx
        obtain ⟨⟨rt, rb⟩, hr', hrob⟩ := pairedL e5 hra
        refine ⟨rai, _, rfl, SqT.of (sm _ _ hrob), rfl, _, _, rfl, _, _, rfl, rfl, ?_⟩
        refine ⟨_, rfl, .inl ⟨rfl, _, SqL.of hl5⟩, _, rfl, _, rfl, .inr ⟨_, rfl, (by show 2 ≤ sizeLine; decide), fun p np => ?_⟩⟩
        have eR : [V.int (rt : Nat), V.int (if rb = true then 1 else 0)] = iVs (robB (rt, rb)) := by cases rb <;> rfl
        rw [eR]
        have s6 := sameUpd (o := .lst (iVs (robB (rt, rb)))) (Same.refl H5) np
        have hp6 := @upd_same H5 p (.lst (iVs (robB (rt, rb))))
        replace hl5 := s6 _ _ hl5
        replace sm := sm.trans s6
        generalize upd H5 p (.lst (iVs (robB (rt, rb)))) = H6 at *
        have hfs := flat_small (f := robB) (l := pl.robots.take i) (b := 2) fun x hx => Nat.le_refl _
        rw [List.length_take] at hfs
        refine ⟨l, p, _, _, rfl, rfl, hl5, hp6, ?_, _, _, rfl, sameUpd sm nl1, ?_⟩
        · rw [List.length_map, List.length_map, List.length_append, sizeLine_eq]
          show _ + 2 ≤ _
          omega
        · rw [upd_same, iVs_app, take_flat hr', List.append_assoc]
    rintro σ H5 ⟨o3, o4, rfl, s5, hl5⟩
    rw [List.length_map, e5.length, List.take_length] at hl5
    have lR := flat_small (f := robB) (l := pl.robots) (b := 2) fun x hx => Nat.le_refl _
    generalize hBB : LA ++ (pl.robots.map robB).flatten = LB at *
    have lB : LB.length ≤ 140 := by
      rw [← hBB, List.length_append]
      omega
    -- floor
    have hru := rules_few wf so
    refine ⟨_, rfl, .inl ⟨rfl, _, SqL.of hl5⟩, _, rfl, a, _, dx, _, _, rfl, s5 _ _ e0, cl, nat _ (by simp), lpl_floor, fa, _, rfl, .inl (SqT.of (s5 _ _ e3)), ?_⟩
    refine ⟨_, rfl, a, _, dx, _, _, rfl, s5 _ _ e0, cl, nat _ (by simp), lpl_rules, rd, kvs, rfl, s5 _ _ e6, ?_⟩
    have hF : (pl.floor.map (fun n : Nat => V.int n)) ++ [V.int ((kvs.length : Nat) : Int)] = iVs (pl.floor ++ [pl.rules.length]) := by
      rw [← e7.length]
      simp
    show _ ∧ _
    rw [hF]
    refine ⟨by rw [List.length_map, List.length_append, List.length_singleton, sizeLine_eq]; omega, fun p np => ?_⟩
    have s6 := sameUpd (o := .lst (iVs (pl.floor ++ [pl.rules.length]))) (Same.refl H5) np
    have hp6 := @upd_same H5 p (.lst (iVs (pl.floor ++ [pl.rules.length])))
    replace hl5 := s6 _ _ hl5
    replace s5 := s5.trans s6
    generalize upd H5 p (.lst (iVs (pl.floor ++ [pl.rules.length]))) = H6 at *
    refine ⟨l, p, _, _, rfl, rfl, hl5, hp6, by rw [List.length_map, List.length_map, List.length_append, List.length_singleton, sizeLine_eq]; omega, ?_⟩
    rw [iVs_app]
    have s7 := sameUpd (o := .lst (iVs (LB ++ (pl.floor ++ [pl.rules.length])))) s5 nl1
    have hl7 := @upd_same H6 l (.lst (iVs (LB ++ (pl.floor ++ [pl.rules.length]))))
    generalize upd H6 l (.lst (iVs (LB ++ (pl.floor ++ [pl.rules.length])))) = H7 at *
    generalize hCC : LB ++ (pl.floor ++ [pl.rules.length]) = LC at *
    have lC : LC.length ≤ 160 := by
      rw [← hCC, List.length_append, List.length_append, List.length_singleton]
      omega
    -- rules
    refine ⟨_, rfl, a, _, dx, _, _, rfl, s7 _ _ e0, cl, nat _ (by simp), lpl_rules, rd, kvs, pl.rules.map (·.1), rfl, Rd.of (s7 _ _ e6), rules_keys e7, fun ys bs q hperm hso hpair nq => ?_⟩
    obtain rfl := perm_sorted hperm hso so.le
    have s8 := sameUpd (o := .lst (bs.map V.ref)) (Same.refl H7) nq
    have hq8 := @upd_same H7 q (.lst (bs.map V.ref))
    have hql : q ≠ l := fun z => by rw [z, hl7] at nq; cases nq
    replace hl7 := s8 _ _ hl7
    replace s7 := s7.trans s8
    have hpair : Paired (PairAt (upd H7 q (.lst (bs.map V.ref)))) bs (pl.rules.map (·.1)) := Paired.mapP hpair fun _ _ q => s8 _ _ q
    generalize upd H7 q (.lst (bs.map V.ref)) = H8 at *
    refine ⟨q, rfl, ⟨_, SqL.of hq8⟩, ?_⟩
    refine for_list (K := K) (a := q) (xs := bs.map V.ref) (fun i σ H9 => ∃ o5 o6 o7 o8 o9 : Option V, σ = [some (sV (textOf pl)), some (.ref a), some (.ref l), o3, o4, o5, o6, o7, o8, o9] ∧ Same (cutH H8 [l]) H9 ∧
      H9 l = some (.lst (iVs (LC ++ ((pl.rules.take i).map ruleB).flatten)))) ⟨none, none, none, none, none, rfl, cutH_same, by rw [List.take_zero, List.map_nil, List.flatten_nil, List.append_nil]; exact hl7⟩
      (fun i σ H9 _ ⟨_, _, _, _, _, _, sm, _⟩ => SqL.of (sm _ _ (by rw [cutH_out (by simpa using hql)]; exact hq8))) ?_ ?_
    · rintro i x σ H9 hx ⟨o5, o6, o7, o8, o9, rfl, sm, hl9⟩
      have up : ∀ b o, b ≠ l → H8 b = some o → H9 b = some o := fun b o hb e => sm _ _ (by rw [cutH_out (by simpa using hb)]; exact e)
      rw [List.getElem?_map] at hx
      cases hbi : bs[i]? with
      | none => rw [hbi] at hx; cases hx
      | some bi =>
        rw [hbi] at hx
        cases hx
        obtain ⟨ky, hky, hpr⟩ := pairedL hpair hbi
        rw [List.getElem?_map] at hky
        cases hri : pl.rules[i]? with
        | none => rw [hri] at hky; cases hky
        | some kv =>
          rw [hri] at hky
          cases hky
          have hmem := List.mem_of_getElem? hri
          have rk := wf.ru kv hmem
          have hir : i < pl.rules.length := (List.getElem?_eq_some_iff.mp hri).1
          have nel : ∀ {b : Addr} {o : HO}, H1 b = some o → b ≠ l := fun e z => by rw [z, nl1] at e; cases e
          have bil : bi ≠ l := fun z => by
            have q : H8 bi = _ := hpr
            rw [z, hl7] at q
            cases q
          refine ⟨bi, _, rfl, SqT.of (up _ _ bil hpr), rfl, _, _, rfl, _, _, rfl, rfl, ?_⟩
          refine ⟨_, rfl, a, _, dx, _, _, rfl, up _ _ (nel e0) (s7 _ _ e0), cl, nat _ (by simp), lpl_rules, _, rfl, _, rfl, (by show 2 ≤ sizeLine; decide), fun t nt => ?_⟩
          have s10 := sameUpd (o := .tup [.int kv.1.1, .int kv.1.2]) (Same.refl H9) nt
          have ht := @upd_same H9 t (.tup [.int kv.1.1, .int kv.1.2])
          have sm6 := sm.trans s10
          replace hl9 := s10 _ _ hl9
          replace up : ∀ b o, b ≠ l → H8 b = some o → (upd H9 t (.tup [.int kv.1.1, .int kv.1.2])) b = some o := fun b o hb e => s10 _ _ (up b o hb e)
          generalize upd H9 t (.tup [.int kv.1.1, .int kv.1.2]) = H10 at *
          have e7' : Paired (RuleAt H10) pl.rules kvs := Paired.mapP e7 fun _ _ q => q.mono fun b xs z => up _ _ (nel z) (s7 _ _ z)
          obtain ⟨tv, hv1, hv2⟩ := (rules_get (k := kv.1) e7').2 kv.2 (getA_mem wf.rn hmem)
          refine ⟨rd, .ref tv, rfl, by rw [← hv1]; exact DGet.t (k := keyT kv.1) (up _ _ (nel e6) (s7 _ _ e6)) ht, ?_⟩
          refine ⟨tv, _, rfl, SqT.of hv2, rfl, _, _, rfl, _, _, rfl, _, _, rfl, rfl, ?_⟩
          obtain ⟨mv1, mv2⟩ := move_at rk.mv
          have hmt : SqT K H10 (He.ga K "MOVES") ((moves.map sx).map V.str) := by
            rw [List.map_map]
            exact T.f.lo.p.moves H10
          refine ⟨_, rfl, .inl ⟨rfl, _, SqL.of hl9⟩, _, rfl, _, rfl, _, rfl, .inr (.inl ⟨rfl, T.mvN⟩), _, rfl, He.ga K "MOVES", moves.map sx, _, moveI kv.2.move, rfl, rfl, hmt, mv1, mv2, _, rfl, (by show 5 ≤ sizeLine; decide), fun p np => ?_⟩
          have eR : [V.int (kv.1.1 : Nat), V.int (kv.1.2 : Nat), V.int (kv.2.left : Nat), V.int (moveI kv.2.move : Nat), V.int (kv.2.later : Nat)] = iVs (ruleB kv) := rfl
          rw [eR]
          have s11 := sameUpd (o := .lst (iVs (ruleB kv))) (Same.refl H10) np
          have hp11 := @upd_same H10 p (.lst (iVs (ruleB kv)))
          replace hl9 := s11 _ _ hl9
          replace sm6 := sm6.trans s11
          generalize upd H10 p (.lst (iVs (ruleB kv))) = H11 at *
          have hfs := flat_small (f := ruleB) (l := pl.rules.take i) (b := 5) fun x hx => Nat.le_refl _
          rw [List.length_take] at hfs
          refine ⟨l, p, _, _, rfl, rfl, hl9, hp11, ?_, _, _, _, _, _, rfl, cutS sm6 (by simp), ?_⟩
          · rw [List.length_map, List.length_map, List.length_append, sizeLine_eq]
            show _ + 5 ≤ _
            omega
          · rw [upd_same, iVs_app, take_flat hri, List.append_assoc]
    rintro σ H9 ⟨o5, o6, o7, o8, o9, rfl, sm, hl9⟩
    have hbl : bs.length = pl.rules.length := by rw [hpair.length, List.length_map]
    rw [List.length_map, hbl, List.take_length] at hl9
    have eB : LC ++ (pl.rules.map ruleB).flatten = bodyB pl := by
      rw [← hCC, ← hBB, ← hAA]
      rfl
    have lD := flat_small (f := ruleB) (l := pl.rules) (b := 5) fun x hx => Nat.le_refl _
    have lbody : (bodyB pl).length ≤ 300 := by
      rw [← eB, List.length_append]
      omega
    rw [eB] at hl9
    refine ⟨_, rfl, l, _, rfl, .inr (SqL.of hl9), _, rfl, l, (bodyB pl).map (fun n : Nat => (n : Int)), rfl, SqL.of (by rw [← iVs_int]; exact hl9), ?_⟩
    rw [isum]
    refine ⟨_, _, rfl, rfl, (show (0 : Int) < 256 by decide), ?_⟩
    have eM : ((((bodyB pl).sum : Nat) : Int) % 256) = (((bodyB pl).sum % 256 : Nat) : Int) := by omega
    have eC : iVs (bodyB pl) ++ [V.int ((((bodyB pl).sum : Nat) : Int) % 256)] = iVs (codeB pl) := by
      rw [eM]
      unfold codeB
      rw [← iVs_app]
      rfl
    show _ ∧ _
    rw [eC]
    refine ⟨?_, fun z nz => ?_⟩
    · unfold codeB
      rw [List.length_map, List.length_append, List.length_singleton, sizeLine_eq]
      omega
    have nz8 : (cutH H8 [l]) z = none := sm.free nz
    have nzl : z ≠ l := fun q => by rw [q, hl9] at nz; cases nz
    have nz8' : H8 z = none := by rw [cutH_out (by simpa using nzl)] at nz8; exact nz8
    refine k z _ (s1.free (s7.free nz8')) ?_ upd_same
    refine sameUpd (fun b o e => sm _ _ ?_) (s1.free (s7.free nz8'))
    rw [cutH_out]
    · exact s7 _ _ (s1 _ _ e)
    · intro q
      rw [List.mem_singleton.mp q, nl0] at e
      cases e
end
end Sw

end

section
set_option maxRecDepth 100000
set_option maxHeartbeats 4000000
/-! is_int_in -/
namespace Sw
open PySem PySem.Spec PyProof.Rows L2 SwA
structure IntT (K : PySem.W.Frag) (mg : Str → Option Value) : Prop where
  isinstance : mg "isinstance" = none
  bool : mg "bool" = none
  int : mg "int" = none
  is_int_in : DeT K mg "is_int_in" s_is_int_in
section
variable {P : Program} {w : World} {K : PySem.W.Frag} {mg : Str → Option Value} {base : Heap}
def spIsIntIn (K : PySem.W.Frag) : Sp := fun vs H Q _ => ∃ (v : V) (n : String) (lo hi : Int), vs = [v, .int lo, .int hi] ∧ ArN K H v n ∧ Q (.bl (isIntIn v lo hi)) H
theorem sc_is_int_in : FnScope ["value", "low", "high"] ["value", "low", "high"] (defScope s_is_int_in) := ⟨rfl, rfl, rfl, by decide +kernel, rfl, by decide +kernel, by decide +kernel⟩
theorem ok_int_in (T : IntT K mg) : FnE P w K mg base CX0 1 ("is_int_in", none) ["value", "low", "high"] (spIsIntIn K) := by
  obtain ⟨fd, F⟩ := T.is_int_in.d
  refine ⟨fd, F.ok sc_is_int_in (fun vs H Q E h => ?_) (fun cdv A outer s H vs Q E hr h => ?_), F.bindsN fun _ _ _ _ _ _ us hl => match us, hl with | [_, _, _], _ => rfl, F.kp⟩
  · obtain ⟨v, n, lo, hi, rfl, _⟩ := h
    rfl
  · obtain ⟨v, n, lo, hi, rfl, hv, k⟩ := h
    refine ⟨_, PSs.nox (pss_one (ps_ret (pe_and (pe_callB call_isi (by rfl) T.isinstance (by decide +kernel) (pa_cons (pv 0) (pa_cons (pe_bltn (v := .ty "int") (by rfl) T.int (by decide +kernel) rfl) pa_nil)))
      (pe_and (pe_not (pe_callB call_isi (by rfl) T.isinstance (by decide +kernel) (pa_cons (pv 0) (pa_cons (pe_bltn (v := .ty "bool") (by rfl) T.bool (by decide +kernel) rfl) pa_nil))))
      (pe_one (pe_chain op_le op_le (pv 1) (pv 0) (pv 2))))))), ?_⟩
    have no : ∀ (x : V), kitB n "int" = some false → isIntIn v lo hi = false → _ := fun x h1 h2 => True.intro
    cases hv with
    | int i =>
      refine ⟨_, rfl, _, _, _, _, true, rfl, .ty "int", (ArN.int (K := K) (H := H) i).ty, kit_ty (by decide +kernel), _, rfl, ?_⟩
      refine ⟨_, rfl, _, _, _, _, false, rfl, .ty "bool", (ArN.int (K := K) (H := H) i).ty, kit_ty (by decide +kernel), _, rfl, _, rfl, ?_⟩
      refine ⟨_, rfl, _, rfl, _, _, rfl, rfl, _, rfl, ?_⟩
      refine ite2 (fun h => ?_) (fun h => ?_)
      · refine ⟨_, rfl, _, _, rfl, rfl, ?_⟩
        have e : isIntIn (.int i) lo hi = decide (i ≤ hi) := by simp only [isIntIn]; rw [h]; rfl
        rw [e] at k
        exact k
      · have e : isIntIn (.int i) lo hi = false := by
          simp only [isIntIn]
          have : decide (lo ≤ i) = false := by simpa using h
          rw [this]
          rfl
        rw [e] at k
        exact k
    | bl b =>
      refine ⟨_, rfl, _, _, _, _, true, rfl, .ty "int", (ArN.bl (K := K) (H := H) b).ty, kit_ty (by decide +kernel), _, rfl, ?_⟩
      refine ⟨_, rfl, _, _, _, _, true, rfl, .ty "bool", (ArN.bl (K := K) (H := H) b).ty, kit_ty (by decide +kernel), _, rfl, _, rfl, ?_⟩
      exact k
    | non => exact ⟨_, rfl, _, _, _, _, false, rfl, .ty "int", (ArN.non (K := K) (H := H)).ty, kit_ty (by decide +kernel), _, rfl, k⟩
    | str z => exact ⟨_, rfl, _, _, _, _, false, rfl, .ty "int", (ArN.str (K := K) (H := H) z).ty, kit_ty (by decide +kernel), _, rfl, k⟩
    | tup e => exact ⟨_, rfl, _, _, _, _, false, rfl, .ty "int", (ArN.tup (K := K) (H := H) e).ty, kit_ty (by decide +kernel), _, rfl, k⟩
    | lst e => exact ⟨_, rfl, _, _, _, _, false, rfl, .ty "int", (ArN.lst (K := K) (H := H) e).ty, kit_ty (by decide +kernel), _, rfl, k⟩
end
end Sw

end

section
set_option maxRecDepth 100000
set_option maxHeartbeats 4000000
/-! Reader, decode: where nothing is raised -/
namespace Sw
open PySem PySem.Spec PyProof.Rows L2 SwA
theorem ps_no {X : Cx} {st : Stmt} : PS X st (fun _ _ _ => False) := ⟨fun pins s σ H D I h => h.elim⟩
structure RdT (K : PySem.W.Frag) (mg : Str → Option Value) : Prop where
  e : EncT K mg
  i : IntT K mg
  list : mg "list" = none
  rd : MkC K mg "Reader" ["code", "place"]
  init : FD K ("Reader", some "__init__") "__init__" "Reader.__init__" s_Reader_init
  read_byte : MeT K "Reader" "read_byte" "Reader.read_byte" s_Reader_read_byte
  read_names : MeT K "Reader" "read_names" "Reader.read_names" s_Reader_read_names
  read_rules : MeT K "Reader" "read_rules" "Reader.read_rules" s_Reader_read_rules
  decode : DeT K mg "decode" s_decode
abbrev rdFs (c : Addr) (p : Nat) : List (Str × V) := [("code", .ref c), ("place", .int p)]
def RdAt (K : PySem.W.Frag) (H : Hp) (r c : Addr) (bs : List Nat) (p : Nat) : Prop := (∃ dx, H r = some (.ins (He.ga K "Reader") dx (rdFs c p))) ∧ H c = some (.lst (iVs bs))
/-- all but r stands -/
def But (r : Addr) (H H' : Hp) : Prop := ∀ b o, b ≠ r → H b = some o → H' b = some o
theorem But.refl {r : Addr} {H : Hp} : But r H H := fun _ _ _ e => e
theorem But.trans {r : Addr} {H H1 H2 : Hp} (a : But r H H1) (b : But r H1 H2) : But r H H2 := fun x o n e => b x o n (a x o n e)
theorem But.of {r : Addr} {H H' : Hp} (s : Same H H') : But r H H' := fun x o _ e => s x o e
theorem But.upd {r : Addr} {H : Hp} {o : HO} : But r H (upd H r o) := fun x u n e => (upd_ne n).trans e
theorem But.new {r x : Addr} {H : Hp} {o : HO} (h : H x = none) : But r H (L2.upd H x o) := .of (sameUpd (Same.refl H) h)
theorem But.put {r x : Addr} {H0 H : Hp} {o : HO} (h : But r H0 H) (n : H0 x = none) : But r H0 (L2.upd H x o) := fun b u nb e => by
  rw [upd_ne (ne_of_none e n)]
  exact h b u nb e
theorem But.free {r : Addr} {H H' : Hp} {a : Addr} (h : But r H H') (ne : a ≠ r) (n : H' a = none) : H a = none := by
  cases e : H a with
  | none => rfl
  | some o => rw [h a o ne e] at n; cases n
theorem RdAt.keep {K : PySem.W.Frag} {H H' : Hp} {r c : Addr} {bs : List Nat} {p : Nat} (h : RdAt K H r c bs p) (s : Same H H') : RdAt K H' r c bs p := let ⟨⟨dx, a⟩, b⟩ := h; ⟨⟨dx, s _ _ a⟩, s _ _ b⟩
theorem RdAt.put {K : PySem.W.Frag} {H : Hp} {r c : Addr} {bs : List Nat} {p : Nat} {x : Addr} {o : HO} (h : RdAt K H r c bs p) (xr : x ≠ r) (xc : x ≠ c) : RdAt K (upd H x o) r c bs p := let ⟨⟨dx, a⟩, b⟩ := h; ⟨⟨dx, (upd_ne (Ne.symm xr)).trans a⟩, (upd_ne (Ne.symm xc)).trans b⟩
theorem RdAt.ner {K : PySem.W.Frag} {H : Hp} {r c : Addr} {bs : List Nat} {p : Nat} {x : Addr} (h : RdAt K H r c bs p) (n : H x = none) : x ≠ r ∧ x ≠ c := let ⟨⟨_, a⟩, b⟩ := h; ⟨(fun z => by rw [z, a] at n; cases n), (fun z => by rw [z, b] at n; cases n)⟩
theorem lrd_code {a b : V} : List.lookup ("code" : Str) [("code", a), ("place", b)] = some a := by kernel_rfl
theorem lrd_place {a b : V} : List.lookup ("place" : Str) [("code", a), ("place", b)] = some b := by kernel_rfl
theorem lrd_byte {a b : V} : List.lookup ("read_byte" : Str) [("code", a), ("place", b)] = none := by kernel_rfl
theorem lrd_names {a b : V} : List.lookup ("read_names" : Str) [("code", a), ("place", b)] = none := by kernel_rfl
theorem lrd_rules {a b : V} : List.lookup ("read_rules" : Str) [("code", a), ("place", b)] = none := by kernel_rfl
theorem put_place (a b c : V) : putF "place" c ([("code", a), ("place", b)] : List (Str × V)) = ([("code", a), ("place", c)] : List (Str × V)) := by kernel_rfl
section
variable {P : Program} {w : World} {K : PySem.W.Frag} {mg : Str → Option Value} {base : Heap}
theorem sc_rdi : FnScope ["self", "code"] ["self", "code"] (defScope s_Reader_init) := ⟨rfl, rfl, rfl, by decide +kernel, rfl, by decide +kernel, by decide +kernel⟩
def spRdInit (K : PySem.W.Frag) : Sp := fun vs H Q _ => ∃ (p dx c : Addr), vs = [.ref p, .ref c] ∧ H p = some (.ins (He.ga K "Reader") dx []) ∧ Q .non (upd H p (.ins (He.ga K "Reader") dx (rdFs c 0)))
theorem put_rd (a b : V) : putF "place" b (putF "code" a []) = ([("code", a), ("place", b)] : List (Str × V)) := by kernel_rfl
theorem ok_rdi (T : RdT K mg) : FnE P w K mg base CX0 1 ("Reader", some "__init__") ["self", "code"] (spRdInit K) := by
  obtain ⟨fd, F⟩ := T.init
  refine ⟨fd, F.ok sc_rdi (fun vs H Q E h => ?_) (fun cdv A outer s H vs Q E hr h => ?_), F.bindsN fun _ _ _ _ _ _ us hl => match us, hl with | [_, _], _ => rfl, F.kp⟩
  · obtain ⟨p, dx, c, rfl, _⟩ := h
    rfl
  · obtain ⟨p, dx, c, rfl, hp, k⟩ := h
    refine ⟨_, PSs.nox (pss_cons (ps_fld (pv 0) (pv 1) rfl)
      (pss_one (ps_fld (pv 0) pe_int rfl))), ?_⟩
    refine ⟨_, rfl, _, rfl, p, _, dx, _, rfl, hp, T.rd.c, T.rd.n _ (by simp), lnZ ln0, ?_⟩
    refine ⟨_, rfl, p, _, dx, _, rfl, upd_same, T.rd.c, T.rd.n _ (by simp), lnZ (lnS ln0), ?_⟩
    rw [upd_upd, put_rd]
    exact k
/-! ### read_byte -/
def spByte (K : PySem.W.Frag) : Sp := fun vs H Q _ => ∃ (r c : Addr) (bs : List Nat) (p b : Nat) (lo hi : Int), vs = [.ref r, .int lo, .int hi] ∧ RdAt K H r c bs p ∧ bs[p]? = some b ∧ lo ≤ b ∧ (b : Int) ≤ hi ∧ bs.length ≤ 10000 ∧
  ∀ H' : Hp, But r H H' → RdAt K H' r c bs (p + 1) → Q (.int b) H'
theorem sc_byte : FnScope ["self", "low", "high"] ["self", "low", "high"] (defScope s_Reader_read_byte) := ⟨rfl, rfl, rfl, by decide +kernel, rfl, by decide +kernel, by decide +kernel⟩
theorem ok_byte (T : RdT K mg) : FnE P w K mg base CX0 2 ("Reader", some "read_byte") ["self", "low", "high"] (spByte K) := by
  obtain ⟨fd, F⟩ := T.read_byte.d
  obtain ⟨fdI, GI, bI, kI⟩ := ok_int_in (P := P) (w := w) (base := base) T.i
  refine ⟨fd, F.ok sc_byte (fun vs H Q E h => ?_) (fun cdv A outer s H vs Q E hr h => ?_), F.bindsN fun _ _ _ _ _ _ us hl => match us, hl with | [_, _, _], _ => rfl, F.kp⟩
  · obtain ⟨r, c, bs, p, b, lo, hi, rfl, _⟩ := h
    rfl
  · obtain ⟨r, c, bs, p, b, lo, hi, rfl, ⟨⟨dx, hr0⟩, hc⟩, hb, h1, h2, hlen, k⟩ := h
    have cl := T.rd.c
    have nat : ∀ f ∈ (["code", "place"] : List Str), NoAttr K (He.ga K "Reader") f := T.rd.n
    have hp : p < bs.length := (List.getElem?_eq_some_iff.mp hb).1
    have rc : c ≠ r := fun z => by rw [z, hr0] at hc; cases hc
    refine ⟨_, PSs.nox (pss_cons (ps_if (PW.pt (pw_or (pt_cmpR op_eq (pe_fld (pv 0) rfl) (pe_callB call_len_seq (by rfl) T.e.f.lo.p.l.len boot_len (pa_cons (pe_fld (pv 0) rfl) pa_nil)) (nomark _)) (pw_or1 (pt_not (pt_val (pe_call GI hr rfl T.i.is_int_in.g kI bI .nil pass0 (pa_cons (pe_ix ix_list (pe_fld (pv 0) rfl) (pe_fld (pv 0) rfl) (fun _ _ => rfl)) (pa_cons (pv 1) (pa_cons (pv 2) pa_nil)))))))))
        (pss_one ps_no) pss_nil)
      (pss_cons (ps_fldaug (pv 0) pe_int in_add)
      (pss_one (ps_ret (pe_ix ix_list (pe_fld (pv 0) rfl) (pe_op op_sub (pe_fld (pv 0) rfl) pe_int) (fun _ _ => rfl)))))), ?_⟩
    have hbv : (iVs bs)[p]? = some (.int (b : Nat)) := by rw [List.getElem?_map, hb]; rfl
    refine ⟨_, rfl, r, _, dx, _, _, rfl, hr0, cl, nat _ (by simp), lrd_place, _, rfl, r, _, dx, _, _, rfl, hr0, cl, nat _ (by simp), lrd_code, c, _, rfl, .inl (SqL.of hc), rfl, _, rfl, ?_⟩
    have d1 : decide (V.int (p : Nat) = V.int ((iVs bs).length : Nat)) = false := decide_eq_false fun z => by
      rw [List.length_map] at z
      injection z with z
      omega
    rw [d1]
    refine ⟨_, rfl, r, _, dx, _, _, rfl, hr0, cl, nat _ (by simp), lrd_code, _, rfl, r, _, dx, _, _, rfl, hr0, cl, nat _ (by simp), lrd_place, c, _, _, _, rfl, rfl, SqL.of hc, atI_nat hbv, _, rfl, _, rfl, _, _, _, _, rfl, ArN.int _, _, rfl, ?_⟩
    have d2 : isIntIn (.int (b : Nat)) lo hi = true := by
      simp only [isIntIn]
      rw [decide_eq_true h1, decide_eq_true h2]
      rfl
    rw [d2]
    refine ⟨_, rfl, r, _, dx, _, _, rfl, hr0, cl, nat _ (by simp), lrd_place, _, _, rfl, rfl, dx, _, hr0, (by show 2 < 1000; decide), ?_⟩
    rw [put_place]
    have ep : (((p : Nat) : Int) + 1) = ((p + 1 : Nat) : Int) := by omega
    rw [ep]
    have bu := @But.upd r H (.ins (He.ga K "Reader") dx (rdFs c (p + 1)))
    have hr1 := @upd_same H r (.ins (He.ga K "Reader") dx (rdFs c (p + 1)))
    have hc1 : (upd H r (.ins (He.ga K "Reader") dx (rdFs c (p + 1)))) c = some (.lst (iVs bs)) := bu _ _ rc hc
    generalize upd H r (.ins (He.ga K "Reader") dx (rdFs c (p + 1))) = H1 at *
    refine ⟨_, rfl, r, _, dx, _, _, rfl, hr1, cl, nat _ (by simp), lrd_code, _, rfl, r, _, dx, _, _, rfl, hr1, cl, nat _ (by simp), lrd_place, _, _, rfl, rfl, ?_⟩
    have eq : (((p + 1 : Nat) : Int) - 1) = ((p : Nat) : Int) := by omega
    show rIxL K (.ref c) (.int (((p + 1 : Nat) : Int) - 1)) H1 _
    rw [eq]
    exact ⟨c, _, _, _, rfl, rfl, SqL.of hc1, atI_nat hbv, k H1 bu ⟨⟨dx, hr1⟩, hc1⟩⟩
/-! ### read_names -/
theorem drop_at {bs l : List Nat} {p b : Nat} {rest : List Nat} (h : bs.drop p = b :: rest) : bs[p]? = some b ∧ bs.drop (p + 1) = rest := by
  constructor
  · have := List.getElem?_drop (xs := bs) (i := p) (j := 0)
    rw [h] at this
    simpa using this.symm
  · rw [← List.drop_drop, h]
    rfl
theorem drop_app {bs a rest : List Nat} {p : Nat} (h : bs.drop p = a ++ rest) : bs.drop (p + a.length) = rest := by
  rw [← List.drop_drop, h, List.drop_append_of_le_length (Nat.le_refl _), List.drop_length]
  rfl
theorem drop_get {bs a rest : List Nat} {p j b : Nat} (h : bs.drop p = a ++ rest) (hj : a[j]? = some b) : bs[p + j]? = some b := by
  have h1 := List.getElem?_drop (xs := bs) (i := p) (j := j)
  rw [h, List.getElem?_append_left (List.getElem?_eq_some_iff.mp hj).1, hj] at h1
  exact h1.symm
theorem letter_of {c : Nat} (h : isL c = true) : atI ("abcdefghijklmnopqrstuvwxyz" : Str).cps.toList ((c - 97 : Nat) : Int) = some c ∧ c - 97 ≤ 25 := by
  have key : ∀ n < 26, ("abcdefghijklmnopqrstuvwxyz" : Str).cps.toList[n]? = some (n + 97) := by decide +kernel
  have h1 : 97 ≤ c ∧ c ≤ 122 := by
    unfold isL at h
    simp only [Bool.and_eq_true, Nat.ble_eq] at h
    exact h
  refine ⟨atI_nat ?_, by omega⟩
  rw [key _ (by omega)]
  congr 1
  omega
theorem sum_letters (w : Cs) : ((w.map fun x => sx [x]).map (·.length)).sum = w.length := by
  induction w with
  | nil => rfl
  | cons a r ih =>
    rw [List.map_cons, List.map_cons, List.sum_cons, ih, sx_len]
    simp
    omega
theorem join_letters (w : Cs) : Txt.join (sx []) ((w.map fun c => [c]).map sx) = sx w := by
  rw [join_sx]
  congr 1
  induction w with
  | nil => rfl
  | cons c r ih =>
    cases r with
    | nil => rfl
    | cons d q =>
      show [c] ++ ([] ++ TL.joinL [] (([d] :: q.map fun c => [c]))) = _
      rw [show TL.joinL [] ([d] :: q.map fun c => [c]) = d :: q from ih]
      rfl
/-- the names that stand in the bytes from p on -/
def spRNames (K : PySem.W.Frag) : Sp := fun vs H Q _ => ∃ (r c : Addr) (bs : List Nat) (p : Nat) (most : Nat) (ws : List Cs), vs = [.ref r, .int most] ∧ RdAt K H r c bs p ∧ bs.length ≤ 10000 ∧ (∃ rest, bs.drop p = namesB ws ++ rest) ∧ NamesOk ws ∧ ws ≠ [] ∧ ws.length ≤ most ∧ most ≤ 6 ∧
  ∀ (a : Addr) (H' : Hp), H a = none → But r H H' → RdAt K H' r c bs (p + (namesB ws).length) → TupN H' a (ws.map sV) → Q (.ref a) H'
abbrev rnN : List Str := ["self", "most", "names", "number", "start", "length", "name", "letter"]
theorem sc_rnames : FnScope rnN ["self", "most"] (defScope s_Reader_read_names) := ⟨rfl, rfl, rfl, by decide +kernel, rfl, by decide +kernel, by decide +kernel⟩
def teL (K : PySem.W.Frag) : TE := tOp rIxS (tC (.str "abcdefghijklmnopqrstuvwxyz")) (tMeth (He.ga K "Reader") "read_byte" (spByte K) [] E0 (tVar 0) (tCons (tC (.int 0)) (tCons (tOp (rI0 fun i j => .int (i - j)) (tCB (fun xs H Q => ∃ z, xs = [V.str z] ∧ z.length ≤ sizeLine ∧ Q (V.int z.length) H) (tCons (tC (.str "abcdefghijklmnopqrstuvwxyz")) tNil)) (tC (.int 1))) tNil)))
theorem ok_rnames (T : RdT K mg) : FnE P w K mg base CX0 3 ("Reader", some "read_names") ["self", "most"] (spRNames K) := by
  obtain ⟨fd, F⟩ := T.read_names.d
  obtain ⟨tL, mL⟩ := T.e.f.lo.p.l.LETTERS
  obtain ⟨tM, mM⟩ := T.e.f.lo.p.l.MAX_LETTERS
  obtain ⟨fdB, GB, bB, kB⟩ := ok_byte (P := P) (w := w) (base := base) T
  refine ⟨fd, F.ok sc_rnames (fun vs H Q E h => ?_) (fun cdv A outer s H vs Q E hr h => ?_), F.bindsN fun _ _ _ _ _ _ us hl => match us, hl with | [_, _], _ => rfl, F.kp⟩
  · obtain ⟨r, c, bs, p, most, ws, rfl, _⟩ := h
    rfl
  · obtain ⟨r, c, bs, p, most, ws, rfl, hR, hlen, hbs, hN, hne, hm, h6, k⟩ := h
    have hrB : Room 2 _ := hr
    refine ⟨_, PSs.nox (pss_cons (ps_set (i := 2) sc_rnames.nd rfl (.inl rfl) (pe_lst pa_nil))
      (pss_cons (ps_for PassesOwn.never rfl (pi_range1 (by rfl) T.e.f.lo.p.range (pa_cons (pe_meth (pv 0) T.rd.c T.read_byte.m GB hrB bB .nil pass0 (pa_cons pe_int (pa_cons (pv 1) pa_nil))) pa_nil)) (pg_name (i := 3) sc_rnames.nd rfl (.inl rfl))
        (pss_cons (ps_set (i := 4) sc_rnames.nd rfl (.inl rfl) (pe_fld (pv 0) rfl))
        (pss_cons (ps_set (i := 5) sc_rnames.nd rfl (.inl rfl) (pe_meth (pv 0) T.rd.c T.read_byte.m GB hrB bB .nil pass0 (pa_cons pe_int (pa_cons (pe_glob (v := .int 8) rfl mM ⟨_, rfl⟩) pa_nil))))
        (pss_cons (ps_set (i := 6) sc_rnames.nd rfl (.inl rfl) (pe_join pe_str (pe_lc (own := [("letter", 7)]) (g := (gName 7)) (tt := tYes) (te := teL K) rfl sc_rnames.nd (pi_range1 (by rfl) T.e.f.lo.p.range (pa_cons (pv 5) pa_nil)) (blkOk_by (own := [("letter", 7)]) (N := rnN) (sc := defScope s_Reader_read_names) (by decide +kernel)) (fun _ _ _ _ _ => (pg_name (i := 7) sc_rnames.nd rfl (.inl rfl))) (fun _ _ _ _ _ => pts_nil) (fun _ _ _ _ _ => (pe_ix ix_str (pe_glob (v := .str "abcdefghijklmnopqrstuvwxyz") rfl mL ⟨_, rfl⟩) (pe_meth (pv 0) T.rd.c T.read_byte.m GB hrB bB .nil pass0 (pa_cons pe_int (pa_cons (pe_op op_sub (pe_callB call_len_str (by rfl) T.e.f.lo.p.l.len boot_len (pa_cons (pe_glob (v := .str "abcdefghijklmnopqrstuvwxyz") rfl mL ⟨_, rfl⟩) pa_nil)) pe_int) pa_nil))) (fun _ _ => rfl))))))
        (pss_cons (ps_if (PW.pt (pw_or (pt_cmpR op_in_seq (pv 6) (pe_glob (v := .ref (He.ga K "KEYWORDS")) rfl T.e.f.lo.p.l.KEYWORDS rfl) (by rfl)) (pw_or1 (pt_cmpR op_in_seq (pv 6) (pv 2) (by rfl)))))
          (pss_one ps_no) pss_nil)
        (pss_one (ps_expr (pe_bm PySem.F.plainAttrs_list PySem.F.slot_list_append PySem.F.type_list_append mt_append (pv 2) (pa_cons (pv 6) pa_nil)))))))))
      (pss_one (ps_ret (pe_tupleOfN (by rfl) T.e.f.lo.p.tuple (pv 2)))))), ?_⟩
    refine ⟨(by show 0 ≤ sizeLine; decide), fun nl nnl => ?_⟩
    obtain ⟨nr, nc⟩ := hR.ner nnl
    have b1 := @But.new r nl H (.lst []) nnl
    have hR1 := hR.put (o := .lst []) nr nc
    have hl1 := @upd_same H nl (.lst [])
    generalize upd H nl (.lst []) = H1 at *
    obtain ⟨rest, hbs⟩ := hbs
    have hB : ∃ dx, H1 r = some (.ins (He.ga K "Reader") dx (rdFs c p)) := hR1.1
    obtain ⟨dx1, hr1⟩ := hB
    have hd0 : bs.drop p = ws.length :: ((ws.map wordB).flatten ++ rest) := hbs
    obtain ⟨g0, hd1⟩ := drop_at (l := []) hd0
    have hw1 : 1 ≤ ws.length := by cases ws with | nil => exact absurd rfl hne | cons _ _ => simp
    refine ⟨_, rfl, r, dx1, _, rfl, hr1, lrd_byte, _, rfl, r, c, bs, p, ws.length, _, _, rfl, hR1, g0, by omega, by omega, hlen, fun H2 b2 hR2 => ?_⟩
    have cl := T.rd.c
    have nat : ∀ f ∈ (["code", "place"] : List Str), NoAttr K (He.ga K "Reader") f := T.rd.n
    refine ⟨_, rfl, by omega, by omega, ?_⟩
    refine for_range (lo := 0) (n := ((ws.length : Nat) : Int).toNat) (fun i σ H3 => ∃ o3 o4 o5 o6 : Option V, σ = [some (.ref r), some (.int most), some (.ref nl), o3, o4, o5, o6, none] ∧ But r H H3 ∧
      RdAt K H3 r c bs (p + 1 + ((ws.take i).map wordB).flatten.length) ∧ H3 nl = some (.lst ((ws.take i).map sV))) ⟨none, none, none, none, rfl, b1.trans b2, hR2, b2 _ _ nr hl1⟩ ?_ ?_
    · rintro i σ H3 hi ⟨o3, o4, o5, o6, rfl, b3, hR3, hl3⟩
      rw [Int.toNat_natCast] at hi
      have hwi : ws[i]? = some ws[i] := List.getElem?_eq_getElem hi
      generalize hwd : ws[i] = wd at hwi
      have hmem : wd ∈ ws := List.mem_of_getElem? hwi
      have ok := hN.ok wd hmem
      have h8 : wd.length ≤ 8 := ok.1.2.2
      have h1 : 1 ≤ wd.length := ok.1.2.1
      -- the bytes from here
      have hsplit : (ws.map wordB).flatten = ((ws.take i).map wordB).flatten ++ (wordB wd ++ ((ws.drop (i + 1)).map wordB).flatten) := by
        have e1 := take_flat (f := wordB) hwi
        have e2 : ws = ws.take (i + 1) ++ ws.drop (i + 1) := (List.take_append_drop _ _).symm
        calc (ws.map wordB).flatten = ((ws.take (i + 1) ++ ws.drop (i + 1)).map wordB).flatten := by rw [← e2]
          _ = _ := by rw [List.map_append, List.flatten_append, e1, List.append_assoc]
      generalize hq : p + 1 + ((ws.take i).map wordB).flatten.length = q at hR3
      have hd2 : bs.drop q = wordB wd ++ (((ws.drop (i + 1)).map wordB).flatten ++ rest) := by
        rw [← hq]
        refine drop_app (a := ((ws.take i).map wordB).flatten) ?_
        rw [hd1, hsplit]
        simp only [List.append_assoc]
      have hq1 : p + 1 + ((ws.take (i + 1)).map wordB).flatten.length = q + (wordB wd).length := by
        rw [take_flat hwi, List.length_append]
        omega
      obtain ⟨⟨dx3, hr3⟩, hc3⟩ := hR3
      have hR3 : RdAt K H3 r c bs q := ⟨⟨dx3, hr3⟩, hc3⟩
      refine ⟨_, rfl, r, _, dx3, _, _, rfl, hr3, cl, nat _ (by simp), lrd_place, ?_⟩
      have gl : bs[q]? = some wd.length := drop_get (j := 0) hd2 rfl
      refine ⟨_, rfl, r, dx3, _, rfl, hr3, lrd_byte, r, c, bs, q, wd.length, _, _, rfl, hR3, gl, by omega, by omega, hlen, fun H4 b4 hR4 => ?_⟩
      refine ⟨⟨_, rfl⟩, _, rfl, _, rfl, by omega, by omega, fun D nD => ?_⟩
      have Dr := hR4.ner nD
      have hl4 := b4 _ _ nr hl3
      have Dl : D ≠ nl := fun z => by rw [z, hl4] at nD; cases nD
      refine lc_range (lo := 0) (n := ((wd.length : Nat) : Int).toNat) (vs := [7]) (fun j H5 => But r H4 H5 ∧ RdAt K H5 r c bs (q + 1 + j) ∧ H5 D = some (.lst (((wd.take j).map fun x => sx [x]).map V.str))) ⟨But.new nD, hR4.put Dr.1 Dr.2, upd_same⟩ ?_ ?_
      · rintro j H5 hj ⟨b5, hR5, hD5⟩
        rw [Int.toNat_natCast] at hj
        have hc : wd[j]? = some wd[j] := List.getElem?_eq_getElem hj
        generalize wd[j] = ch at hc
        have hcl : isL ch = true := ok.1.1 ch (List.mem_of_getElem? hc)
        obtain ⟨la, lb⟩ := letter_of hcl
        obtain ⟨⟨dx5, hr5⟩, hc5⟩ := hR5
        have hR5 : RdAt K H5 r c bs (q + 1 + j) := ⟨⟨dx5, hr5⟩, hc5⟩
        have gj : bs[q + 1 + j]? = some (ch - 97) := by
          have : (wordB wd)[1 + j]? = some (ch - 97) := by
            unfold wordB
            rw [Nat.add_comm, List.getElem?_cons_succ, List.getElem?_map, hc]
            rfl
          have := drop_get hd2 this
          rw [← Nat.add_assoc] at this
          exact this
        refine ⟨rfl, _, rfl, r, dx5, _, rfl, hr5, lrd_byte, _, rfl, (by rw [sizeLine_eq]; decide +kernel), _, _, rfl, rfl, r, c, bs, q + 1 + j, ch - 97, _, _, rfl, hR5, gj, by omega, ?_, hlen, fun H6 b6 hR6 => ?_⟩
        · show (((ch - 97 : Nat) : Int)) ≤ ((("abcdefghijklmnopqrstuvwxyz" : Str).length : Nat) : Int) - 1
          have : ("abcdefghijklmnopqrstuvwxyz" : Str).length = 26 := by decide +kernel
          rw [this]
          omega
        · refine ⟨_, _, ch, rfl, rfl, (by rw [sizeLine_eq]; decide +kernel), la, _, b6 _ _ Dr.1 hD5, ?_, (b5.trans b6).put nD, hR6.put Dr.1 Dr.2, ?_⟩
          · rw [List.length_map, List.length_map, List.length_take, sizeLine_eq]
            omega
          · rw [upd_same, List.take_succ, hc]
            simp [sx]
      · rintro H5 ⟨b5, hR5, hD5⟩
        rw [Int.toNat_natCast] at hR5 hD5
        rw [List.take_length] at hD5
        refine ⟨sx [], D, wd.map fun x => sx [x], (by kernel_rfl), rfl, .inl (SqL.of hD5), ?_, ?_⟩
        · rw [sum_letters, sx_len]
          simp
          omega
        have ej : Txt.join (sx []) (wd.map fun x => sx [x]) = sx wd := by
          rw [← join_letters wd, List.map_map]
          rfl
        rw [ej]
        have hl5 := b5 _ _ nr hl4
        refine ⟨_, rfl, _, _, rfl, .inr (T.e.f.lo.p.l.kws H5), rfl, flat_sx kws, _, rfl, ?_⟩
        have n1 : inV (sV wd) (kws.map fun w => V.str (sx w)) = false := by rw [inV_sx]; exact decide_eq_false ok.2
        show if inV (sV wd) (kws.map fun w => V.str (sx w)) = true then _ else _
        rw [n1]
        refine ⟨_, rfl, _, rfl, nl, _, rfl, .inl (SqL.of hl5), rfl, flat_sx _, _, rfl, ?_⟩
        have n2 : inV (sV wd) ((ws.take i).map fun w => V.str (sx w)) = false := by
          rw [inV_sx]
          refine decide_eq_false fun z => ?_
          obtain ⟨m, hm1, hm2⟩ := List.mem_iff_getElem.mp z
          rw [List.length_take] at hm1
          rw [List.getElem_take] at hm2
          have hmi : m < i := by omega
          have e3 : ws[m] = ws[i] := by rw [hm2, hwd]
          have e4 : ws.getD m [] = ws.getD i [] := by
            rw [List.getD_eq_getElem?_getD, List.getD_eq_getElem?_getD, List.getElem?_eq_getElem (by omega), List.getElem?_eq_getElem hi, e3]
          have := name_inj hN.nd (by omega) hi e4
          omega
        show if inV (sV wd) ((ws.take i).map fun w => V.str (sx w)) = true then _ else _
        rw [n2]
        refine ⟨_, rfl, .inl ⟨rfl, _, SqL.of hl5⟩, _, rfl, nl, _, _, rfl, rfl, hl5, ?_, _, _, _, _, rfl, (b3.trans (b4.trans b5)).put nnl, ?_, ?_⟩
        · rw [List.length_map, List.length_take, sizeLine_eq]
          omega
        · rw [hq1, wordB_len]
          have := hR5.put (o := .lst ((ws.take i).map sV ++ [sV wd])) nr nc
          rw [show q + (wd.length + 1) = q + 1 + wd.length by omega]
          exact this
        · rw [upd_same, List.take_succ, hwi]
          simp
    rintro σ H3 ⟨o3, o4, o5, o6, rfl, b3, hR3, hl3⟩
    rw [Int.toNat_natCast, List.take_length] at hR3 hl3
    refine ⟨_, rfl, nl, _, rfl, SqL.of hl3, fun a o na oc od => ?_⟩
    obtain ⟨ar, ac⟩ := hR3.ner na
    refine k a _ (b3.free ar na) (b3.put (b3.free ar na)) ?_ ⟨o, oc, od, upd_same⟩
    have e : p + (namesB ws).length = p + 1 + (ws.map wordB).flatten.length := by
      unfold namesB
      rw [List.length_cons]
      omega
    rw [e]
    exact hR3.put ar ac
/-! ### read_rules -/
theorem RdAt.tup {K : PySem.W.Frag} {H H' : Hp} {r c : Addr} {bs : List Nat} {p : Nat} (h : RdAt K H r c bs p) (b : But r H H') : ∀ a xs, H a = some (.tup xs) → H' a = some (.tup xs) := fun a xs e => b a _ (fun z => by
  obtain ⟨⟨_, q⟩, _⟩ := h
  rw [z, q] at e
  cases e) e
theorem sorted_lt {rs : List ((Nat × Nat) × Rule)} (so : SortedR rs) {i j : Nat} {a b : (Nat × Nat) × Rule} (ha : rs[j]? = some a) (hb : rs[i]? = some b) (h : j < i) : a.1.1 < b.1.1 ∨ (a.1.1 = b.1.1 ∧ a.1.2 < b.1.2) := by
  obtain ⟨h1, e1⟩ := List.getElem?_eq_some_iff.mp ha
  obtain ⟨h2, e2⟩ := List.getElem?_eq_some_iff.mp hb
  have := List.pairwise_iff_getElem.mp so j i (by simpa using h1) (by simpa using h2) h
  rw [List.getElem_map, List.getElem_map, e1, e2] at this
  exact this
theorem if_sign {σ : L2.St} {H : Hp} {Q : VK} {mood L F : Nat} (hσ : σ[5]? = some (some (V.int F))) (h : Q (.int ((if mood = L then F else 0 : Nat) : Int)) H) :
    if decide (V.int (mood : Nat) = V.int (L : Nat)) = true then tVar 5 σ H Q else tC (.int 0) σ H Q := by
  by_cases e : mood = L
  · rw [if_pos e] at h
    rw [decide_eq_true (by rw [e]), if_pos rfl]
    exact ⟨_, hσ, h⟩
  · rw [if_neg e] at h
    rw [decide_eq_false (fun z => e (by injection z with z; omega)), if_neg (by decide)]
    exact h
theorem move_ix {H : Hp} {m : Cs} (h : m ∈ moves) : atI (moves.map fun w => V.str (sx w)) ((moveI m : Nat) : Int) = some (sV m) ∧ moveI m ≤ 2 := by
  have key : ∀ m ∈ moves, (moves.map fun w => V.str (sx w))[moveI m]? = some (sV m) ∧ moveI m ≤ 2 := by
    intro m hm
    simp only [moves, List.mem_cons, List.not_mem_nil, or_false] at hm
    rcases hm with rfl | rfl | rfl
    · exact ⟨by kernel_rfl, by decide⟩
    · exact ⟨by kernel_rfl, by decide⟩
    · exact ⟨by kernel_rfl, by decide⟩
  exact ⟨atI_nat (key m h).1, (key m h).2⟩
def spRRules (K : PySem.W.Frag) : Sp := fun vs H Q _ => ∃ (r c : Addr) (bs : List Nat) (p m g : Nat) (rs : List ((Nat × Nat) × Rule)), vs = [.ref r, .int m, .int g] ∧ RdAt K H r c bs p ∧ bs.length ≤ 10000 ∧ (∃ rest, bs.drop p = rs.length :: ((rs.map ruleB).flatten ++ rest)) ∧
  (∀ kv ∈ rs, RuleOk g m kv) ∧ SortedR rs ∧ rs.length ≤ m * g ∧ m ≤ 6 ∧ g ≤ 4 ∧
  ∀ (a : Addr) (H' : Hp), H a = none → But r H H' → RdAt K H' r c bs (p + 1 + (rs.map ruleB).flatten.length) → RulesAt H' a rs → Q (.ref a) H'
abbrev rrN : List Str := ["self", "moods", "signs", "rules", "least", "first", "number", "mood", "sign", "left", "move"]
theorem sc_rrules : FnScope rrN ["self", "moods", "signs"] (defScope s_Reader_read_rules) := ⟨rfl, rfl, rfl, by decide +kernel, rfl, by decide +kernel, by decide +kernel⟩
theorem ok_rrules (T : RdT K mg) : FnE P w K mg base CX0 3 ("Reader", some "read_rules") ["self", "moods", "signs"] (spRRules K) := by
  obtain ⟨fd, F⟩ := T.read_rules.d
  obtain ⟨fdB, GB, bB, kB⟩ := ok_byte (P := P) (w := w) (base := base) T
  refine ⟨fd, F.ok sc_rrules (fun vs H Q E h => ?_) (fun cdv A outer s H vs Q E hr h => ?_), F.bindsN fun _ _ _ _ _ _ us hl => match us, hl with | [_, _, _], _ => rfl, F.kp⟩
  · obtain ⟨r, c, bs, p, m, g, rs, rfl, _⟩ := h
    rfl
  · obtain ⟨r, c, bs, p, m, g, rs, rfl, hR, hlen, hbs, hru, so, hmg, hm, hg, k⟩ := h
    have hrB : Room 2 _ := hr
    have hu := hu_of hr
    have cl := T.rd.c
    have nat : ∀ f ∈ (["code", "place"] : List Str), NoAttr K (He.ga K "Reader") f := T.rd.n
    have h24 : m * g ≤ 6 * 4 := Nat.mul_le_mul hm hg
    refine ⟨_, PSs.nox (pss_cons (ps_par3 (i := 3) (j := 4) (l := 5) (by rfl) sc_rrules.nd rfl rfl rfl (by decide) (by decide) (by decide) rfl rfl rfl (pa_cons pe_dnewT (pa_cons pe_int (pa_cons pe_int pa_nil))) (by rfl))
      (pss_cons (ps_for PassesOwn.never rfl (pi_range1 (by rfl) T.e.f.lo.p.range (pa_cons (pe_meth (pv 0) T.rd.c T.read_byte.m GB hrB bB .nil pass0 (pa_cons pe_int (pa_cons (pe_op op_mul (pv 1) (pv 2)) pa_nil))) pa_nil)) (pg_name (i := 6) sc_rrules.nd rfl (.inl rfl))
        (pss_cons (ps_set (i := 7) sc_rrules.nd rfl (.inl rfl) (pe_meth (pv 0) T.rd.c T.read_byte.m GB hrB bB .nil pass0 (pa_cons (pv 4) (pa_cons (pe_op op_sub (pv 1) pe_int) pa_nil))))
        (pss_cons (ps_set (i := 8) sc_rrules.nd rfl (.inl rfl) (pe_meth (pv 0) T.rd.c T.read_byte.m GB hrB bB .nil pass0 (pa_cons (pe_ifExp (pt_cmpR op_eq (pv 7) (pv 4) (nomark _)) (pv 5) pe_int) (pa_cons (pe_op op_sub (pv 2) pe_int) pa_nil))))
        (pss_cons (ps_set (i := 9) sc_rrules.nd rfl (.inl rfl) (pe_meth (pv 0) T.rd.c T.read_byte.m GB hrB bB .nil pass0 (pa_cons pe_int (pa_cons (pe_op op_sub (pv 2) pe_int) pa_nil))))
        (pss_cons (ps_set (i := 10) sc_rrules.nd rfl (.inl rfl) (pe_ix ix_tup (pe_glob (v := .ref (He.ga K "MOVES")) rfl T.e.f.lo.p.MOVES rfl) (pe_meth (pv 0) T.rd.c T.read_byte.m GB hrB bB .nil pass0 (pa_cons pe_int (pa_cons (pe_op op_sub (pe_callB call_len_seq (by rfl) T.e.f.lo.p.l.len boot_len (pa_cons (pe_glob (v := .ref (He.ga K "MOVES")) rfl T.e.f.lo.p.MOVES rfl) pa_nil)) pe_int) pa_nil))) (fun _ _ => rfl)))
        (pss_cons (ps_dput hu (pv 3) (pe_tup (pa_cons (pv 7) (pa_cons (pv 8) pa_nil))) (pe_tup (pa_cons (pv 9) (pa_cons (pv 10) (pa_cons (pe_meth (pv 0) T.rd.c T.read_byte.m GB hrB bB .nil pass0 (pa_cons pe_int (pa_cons (pe_op op_sub (pv 1) pe_int) pa_nil))) pa_nil)))) rfl)
        (pss_one (ps_asg (pe_ifExp (pt_cmpR op_lt (pe_op op_add (pv 8) pe_int) (pv 2) (nomark _)) (pe_tup (pa_cons (pv 7) (pa_cons (pe_op op_add (pv 8) pe_int) pa_nil))) (pe_tup (pa_cons (pe_op op_add (pv 7) pe_int) (pa_cons pe_int pa_nil))))
          (pg_tup rfl (pgs_cons (pg_name (i := 4) sc_rrules.nd rfl (.inl rfl)) (pgs_cons (pg_name (i := 5) sc_rrules.nd rfl (.inl rfl)) pgs_nil)))))))))))
      (pss_one (ps_ret (pv 3))))), ?_⟩
    intro rd nrd
    refine ⟨_, _, _, rfl, ?_⟩
    obtain ⟨nr, nc⟩ := hR.ner nrd
    have b1 := @But.new r rd H (.dT []) nrd
    have hR1 := hR.put (o := .dT []) nr nc
    have hd1 := @upd_same H rd (.dT [])
    generalize upd H rd (.dT []) = H1 at *
    obtain ⟨rest, hbs⟩ := hbs
    obtain ⟨g0, hdr⟩ := drop_at (l := []) hbs
    obtain ⟨⟨dx1, hr1⟩, hc1⟩ := hR1
    have hR1 : RdAt K H1 r c bs p := ⟨⟨dx1, hr1⟩, hc1⟩
    have hmi : ((rs.length : Nat) : Int) ≤ (m : Int) * (g : Int) := by
      rw [← Int.natCast_mul]
      omega
    refine ⟨_, rfl, r, dx1, _, rfl, hr1, lrd_byte, _, rfl, _, rfl, _, _, rfl, rfl, .inl ⟨by omega, by omega⟩, r, c, bs, p, rs.length, _, _, rfl, hR1, g0, by omega, hmi, hlen, fun H2 b2 hR2 => ?_⟩
    refine ⟨_, rfl, by omega, by omega, ?_⟩
    refine for_range (lo := 0) (n := ((rs.length : Nat) : Int).toNat) (fun i σ H3 => ∃ (L F : Nat) (o6 o7 o8 o9 o10 : Option V), σ = [some (.ref r), some (.int m), some (.int g), some (.ref rd), some (.int L), some (.int F), o6, o7, o8, o9, o10] ∧ But r H H3 ∧
      RdAt K H3 r c bs (p + 1 + ((rs.take i).map ruleB).flatten.length) ∧ (∀ kv, rs[i]? = some kv → L ≤ kv.1.1 ∧ (kv.1.1 = L → F ≤ kv.1.2)) ∧ ∃ kvs, H3 rd = some (.dT kvs) ∧ Paired (RuleAt H3) (rs.take i) kvs)
      ⟨0, 0, none, none, none, none, none, rfl, b1.trans b2, hR2, fun _ _ => ⟨Nat.zero_le _, fun _ => Nat.zero_le _⟩, [], b2 _ _ nr hd1, .nil⟩ ?_ ?_
    · rintro i σ H3 hi ⟨L, F, o6, o7, o8, o9, o10, rfl, b3, hR3, hLF, kvs, hd3, hkv⟩
      rw [Int.toNat_natCast] at hi
      have hri : rs[i]? = some rs[i] := List.getElem?_eq_getElem hi
      generalize rs[i] = kv at hri
      have rk := hru kv (List.mem_of_getElem? hri)
      obtain ⟨hL, hF⟩ := hLF kv hri
      have k1 := rk.k1
      have k2 := rk.k2
      have k3 := rk.l
      have k4 := rk.la
      have hsplit : (rs.map ruleB).flatten = ((rs.take i).map ruleB).flatten ++ (ruleB kv ++ ((rs.drop (i + 1)).map ruleB).flatten) := by
        have e1 := take_flat (f := ruleB) hri
        have e2 : rs = rs.take (i + 1) ++ rs.drop (i + 1) := (List.take_append_drop _ _).symm
        calc (rs.map ruleB).flatten = ((rs.take (i + 1) ++ rs.drop (i + 1)).map ruleB).flatten := by rw [← e2]
          _ = _ := by rw [List.map_append, List.flatten_append, e1, List.append_assoc]
      have hq1 : p + 1 + ((rs.take (i + 1)).map ruleB).flatten.length = p + 1 + ((rs.take i).map ruleB).flatten.length + 5 := by
        rw [take_flat hri, List.length_append]
        rfl
      have hd2 : bs.drop (p + 1 + ((rs.take i).map ruleB).flatten.length) = ruleB kv ++ (((rs.drop (i + 1)).map ruleB).flatten ++ rest) := by
        refine drop_app (a := ((rs.take i).map ruleB).flatten) ?_
        rw [hdr, hsplit]
        simp only [List.append_assoc]
      rw [hq1]
      generalize p + 1 + ((rs.take i).map ruleB).flatten.length = q at hR3 hd2
      have y0 : bs[q]? = some kv.1.1 := drop_get (j := 0) hd2 rfl
      have y1 : bs[q + 1]? = some kv.1.2 := drop_get (j := 1) hd2 rfl
      have y2 : bs[q + 1 + 1]? = some kv.2.left := drop_get (j := 2) hd2 rfl
      have y3 : bs[q + 1 + 1 + 1]? = some (moveI kv.2.move) := drop_get (j := 3) hd2 rfl
      have y4 : bs[q + 1 + 1 + 1 + 1]? = some kv.2.later := drop_get (j := 4) hd2 rfl
      obtain ⟨⟨dx3, hr3⟩, hc3⟩ := hR3
      have hR3 : RdAt K H3 r c bs q := ⟨⟨dx3, hr3⟩, hc3⟩
      refine ⟨_, rfl, r, dx3, _, rfl, hr3, lrd_byte, _, rfl, _, rfl, _, _, rfl, rfl, r, c, bs, q, kv.1.1, _, _, rfl, hR3, y0, by omega, by omega, hlen, fun H4 b4 hR4 => ?_⟩
      replace hkv := Paired.mapP hkv fun _ _ z => z.mono (hR3.tup b4)
      replace hd3 := b4 _ _ nr hd3
      replace b3 := b3.trans b4
      obtain ⟨⟨dx4, hr4⟩, hc4⟩ := hR4
      have hR4 : RdAt K H4 r c bs (q + 1) := ⟨⟨dx4, hr4⟩, hc4⟩
      refine ⟨_, rfl, r, dx4, _, rfl, hr4, lrd_byte, _, rfl, _, rfl, rfl, _, rfl, ?_⟩
      refine if_sign (F := F) rfl ?_
      refine ⟨_, rfl, _, _, rfl, rfl, r, c, bs, q + 1, kv.1.2, _, _, rfl, hR4, y1, ?_, by omega, hlen, fun H5 b5 hR5 => ?_⟩
      · split
        · rename_i z
          have := hF z
          omega
        · omega
      replace hkv := Paired.mapP hkv fun _ _ z => z.mono (hR4.tup b5)
      replace hd3 := b5 _ _ nr hd3
      replace b3 := b3.trans b5
      obtain ⟨⟨dx5, hr5⟩, hc5⟩ := hR5
      have hR5 : RdAt K H5 r c bs (q + 1 + 1) := ⟨⟨dx5, hr5⟩, hc5⟩
      refine ⟨_, rfl, r, dx5, _, rfl, hr5, lrd_byte, _, rfl, _, _, rfl, rfl, r, c, bs, _, kv.2.left, _, _, rfl, hR5, y2, by omega, by omega, hlen, fun H6 b6 hR6 => ?_⟩
      replace hkv := Paired.mapP hkv fun _ _ z => z.mono (hR5.tup b6)
      replace hd3 := b6 _ _ nr hd3
      replace b3 := b3.trans b6
      obtain ⟨⟨dx6, hr6⟩, hc6⟩ := hR6
      have hR6 : RdAt K H6 r c bs (q + 1 + 1 + 1) := ⟨⟨dx6, hr6⟩, hc6⟩
      obtain ⟨mx, m2⟩ := move_ix (H := H6) rk.mv
      refine ⟨_, rfl, r, dx6, _, rfl, hr6, lrd_byte, _, _, rfl, .inr (T.e.f.lo.p.moves H6), _, _, rfl, rfl, r, c, bs, _, moveI kv.2.move, _, _, rfl, hR6, y3, by omega, ?_, hlen, fun H7 b7 hR7 => ?_⟩
      · show ((moveI kv.2.move : Nat) : Int) ≤ ((3 : Nat) : Int) - 1
        omega
      replace hkv := Paired.mapP hkv fun _ _ z => z.mono (hR6.tup b7)
      replace hd3 := b7 _ _ nr hd3
      replace b3 := b3.trans b7
      obtain ⟨⟨dx7, hr7⟩, hc7⟩ := hR7
      have hR7 : RdAt K H7 r c bs (q + 1 + 1 + 1 + 1) := ⟨⟨dx7, hr7⟩, hc7⟩
      refine ⟨_, _, _, _, rfl, rfl, T.e.f.lo.p.moves H7, mx, ?_⟩
      refine ⟨_, rfl, _, rfl, _, rfl, r, dx7, _, rfl, hr7, lrd_byte, _, rfl, _, _, rfl, rfl, r, c, bs, _, kv.2.later, _, _, rfl, hR7, y4, by omega, by omega, hlen, fun H8 b8 hR8 => ?_⟩
      replace hkv := Paired.mapP hkv fun _ _ z => z.mono (hR7.tup b8)
      replace hd3 := b8 _ _ nr hd3
      replace b3 := b3.trans b8
      refine ⟨(by show 3 ≤ sizeLine; decide), fun tv ntv => ?_⟩
      have s9 := sameUpd (o := .tup [.int (kv.2.left : Nat), sV kv.2.move, .int (kv.2.later : Nat)]) (Same.refl H8) ntv
      have htv := @upd_same H8 tv (.tup [.int (kv.2.left : Nat), sV kv.2.move, .int (kv.2.later : Nat)])
      replace hkv := Paired.mapP hkv fun _ _ z => z.mono fun a xs e => s9 a _ e
      replace hd3 := s9 _ _ hd3
      replace b3 := b3.trans (.of s9)
      replace hR8 := hR8.keep s9
      generalize upd H8 tv (.tup [.int (kv.2.left : Nat), sV kv.2.move, .int (kv.2.later : Nat)]) = H9 at *
      refine ⟨_, rfl, _, rfl, _, rfl, (by show 2 ≤ sizeLine; decide), fun tk ntk => ?_⟩
      have s10 := sameUpd (o := .tup [.int (kv.1.1 : Nat), .int (kv.1.2 : Nat)]) (Same.refl H9) ntk
      have htk : (upd H9 tk (.tup [.int (kv.1.1 : Nat), .int (kv.1.2 : Nat)])) tk = some (.tup ((keyT kv.1).map kV)) := upd_same
      replace hkv := Paired.mapP hkv fun _ _ z => z.mono fun a xs e => s10 a _ e
      replace hd3 := s10 _ _ hd3
      replace htv := s10 _ _ htv
      replace b3 := b3.trans (.of s10)
      replace hR8 := hR8.keep s10
      generalize upd H9 tk (.tup [.int (kv.1.1 : Nat), .int (kv.1.2 : Nat)]) = H10 at *
      have hkl := hkv.length
      rw [List.length_take] at hkl
      refine ⟨rd, _, rfl, DPut.t (k := keyT kv.1) hd3 htk (by rw [sizeLine_eq]; omega), ?_⟩
      have hno : ∀ z ∈ rs.take i, z.1 ≠ kv.1 := fun z hz e => by
        obtain ⟨j, hj2⟩ := List.mem_iff_getElem?.mp hz
        have hj1 := (List.getElem?_eq_some_iff.mp hj2).1
        rw [List.length_take] at hj1
        rw [List.getElem?_take_of_lt (by omega)] at hj2
        have := sorted_lt so hj2 hri (by omega)
        rw [e] at this
        omega
      have z1 := rules_put (k := kv.1) (r := kv.2) htv hkv
      rw [putA_new hno] at z1
      have kt := keepT (o' := .dT (putK kvs (keyT kv.1) (.ref tv))) hd3 (fun xs q => by cases q)
      have z2 : Paired (RuleAt (upd H10 rd (.dT (putK kvs (keyT kv.1) (.ref tv))))) (rs.take (i + 1)) (putK kvs (keyT kv.1) (.ref tv)) := by
        rw [List.take_succ, hri]
        exact Paired.mapP z1 fun _ _ q => q.mono kt
      have z3 := @upd_same H10 rd (.dT (putK kvs (keyT kv.1) (.ref tv)))
      replace hR8 := hR8.put (o := .dT (putK kvs (keyT kv.1) (.ref tv))) nr nc
      have b4 := b3.put (o := .dT (putK kvs (keyT kv.1) (.ref tv))) nrd
      generalize upd H10 rd (.dT (putK kvs (keyT kv.1) (.ref tv))) = H11 at *
      have nx : ∀ kv', rs[i + 1]? = some kv' → (kv.1.1 < kv'.1.1 ∨ (kv.1.1 = kv'.1.1 ∧ kv.1.2 < kv'.1.2)) ∧ kv'.1.2 < g := fun kv' h' => ⟨sorted_lt so hri h' (Nat.lt_succ_self i), (hru kv' (List.mem_of_getElem? h')).k2⟩
      refine ⟨_, rfl, _, _, rfl, rfl, _, rfl, _, _, rfl, rfl, _, rfl, ?_⟩
      refine ite2 (fun h => ?_) (fun h => ?_)
      · have h0 : kv.1.2 + 1 < g := by
          have := of_decide_eq_true h
          omega
        refine ⟨_, rfl, _, rfl, _, _, rfl, rfl, (by show 2 ≤ sizeLine; decide), fun t nt => ?_⟩
        have s12 := sameUpd (o := .tup [.int (kv.1.1 : Nat), .int ((kv.1.2 : Nat) + 1 : Int)]) (Same.refl H11) nt
        refine ⟨t, _, rfl, SqT.of upd_same, rfl, _, _, rfl, _, _, rfl, rfl, ?_⟩
        refine ⟨kv.1.1, kv.1.2 + 1, _, _, _, _, _, rfl, b4.trans (.of s12), hR8.keep s12, fun kv' h' => ?_, _, s12 _ _ z3, Paired.mapP z2 fun _ _ z => z.mono fun a xs e => s12 a _ e⟩
        have := nx kv' h'
        omega
      · have h0 : ¬ kv.1.2 + 1 < g := by
          have := of_decide_eq_false (Bool.eq_false_iff.mpr h)
          omega
        refine ⟨_, rfl, _, _, rfl, rfl, (by show 2 ≤ sizeLine; decide), fun t nt => ?_⟩
        have s12 := sameUpd (o := .tup [.int ((kv.1.1 : Nat) + 1 : Int), .int 0]) (Same.refl H11) nt
        refine ⟨t, _, rfl, SqT.of upd_same, rfl, _, _, rfl, _, _, rfl, rfl, ?_⟩
        refine ⟨kv.1.1 + 1, 0, _, _, _, _, _, rfl, b4.trans (.of s12), hR8.keep s12, fun kv' h' => ?_, _, s12 _ _ z3, Paired.mapP z2 fun _ _ z => z.mono fun a xs e => s12 a _ e⟩
        have := nx kv' h'
        omega
    rintro σ H3 ⟨L, F, o6, o7, o8, o9, o10, rfl, b3, hR3, _, kvs, hd3, hkv⟩
    rw [Int.toNat_natCast, List.take_length] at hR3 hkv
    exact ⟨_, rfl, k rd H3 nrd b3 hR3 ⟨kvs, hd3, hkv⟩⟩
end
end Sw

end

section
set_option maxRecDepth 100000
set_option maxHeartbeats 4000000
/-! decode: where nothing is raised -/
namespace Sw
open PySem PySem.Spec PyProof.Rows L2 SwA
theorem rules_most {g m : Nat} {rs : List ((Nat × Nat) × Rule)} (h : ∀ kv ∈ rs, RuleOk g m kv) (so : SortedR rs) : rs.length ≤ m * g := by
  have := inc_len (n := m * g) (lo := 0) (l := rs.map fun kv => kv.1.1 * g + kv.1.2) ?_ ?_
  · rw [List.length_map] at this
    exact this
  · rw [List.pairwise_map]
    unfold SortedR at so
    rw [List.pairwise_map] at so
    refine List.Pairwise.imp_of_mem (fun {a b} ha hb q => ?_) so
    have h1 := (h a ha).k2
    have h2 := (h b hb).k2
    rcases q with q | ⟨q1, q2⟩
    · have := Nat.mul_le_mul_right g (show a.1.1 + 1 ≤ b.1.1 from q)
      rw [Nat.add_mul, Nat.one_mul] at this
      omega
    · rw [q1]
      omega
  · intro x hx
    obtain ⟨kv, hk, rfl⟩ := List.mem_map.mp hx
    have h1 := (h kv hk).k1
    have h2 := (h kv hk).k2
    have := Nat.mul_le_mul_right g (show kv.1.1 + 1 ≤ m from h1)
    rw [Nat.add_mul, Nat.one_mul] at this
    omega
section
variable {P : Program} {w : World} {K : PySem.W.Frag} {mg : Str → Option Value} {base : Heap}
def spDecode : Sp := fun vs H Q _ => ∃ (a : Addr) (pl : Plan), vs = [.ref a] ∧ H a = some (.lst (iVs (codeB pl))) ∧ WfP pl ∧ SortedR pl.rules ∧ ∀ H' : Hp, Same H H' → Q (sV (textOf pl)) H'
abbrev deN : List Str := ["code", "reader", "tiles", "signs", "moods", "robots", "number", "tile", "floor", "rules", "checksum"]
theorem sc_dec : FnScope deN ["code"] (defScope s_decode) := ⟨rfl, rfl, rfl, by decide +kernel, rfl, by decide +kernel, by decide +kernel⟩
def teF (K : PySem.W.Frag) : TE := tMeth (He.ga K "Reader") "read_byte" (spByte K) [] E0 (tVar 1) (tCons (tC (.int 0)) (tCons (tOp (rI0 fun i j => .int (i - j)) (tCB (fun xs H Q => ∃ p ys, xs = [.ref p] ∧ (SqL K H p ys ∨ SqT K H p ys) ∧ Q (.int ys.length) H) (tCons (tVar 3) tNil)) (tC (.int 1))) tNil))
theorem ok_decode (T : RdT K mg) : FnE P w K mg base CX0 4 ("decode", none) ["code"] spDecode := by
  obtain ⟨fd, F⟩ := T.decode.d
  obtain ⟨t1, mTAG⟩ := T.e.TAG
  obtain ⟨t2, mBYTE⟩ := T.e.BYTE
  obtain ⟨t3, mT⟩ := T.e.f.lo.p.MAX_TILES
  obtain ⟨t4, mS⟩ := T.e.f.lo.p.MAX_SIGNS
  obtain ⟨t5, mM⟩ := T.e.f.lo.p.MAX_MOODS
  obtain ⟨t6, mR⟩ := T.e.f.lo.p.MAX_ROBOTS
  obtain ⟨fdB, GB, bB, kB⟩ := ok_byte (P := P) (w := w) (base := base) T
  obtain ⟨fdN, GN, bN, kN⟩ := ok_rnames (P := P) (w := w) (base := base) T
  obtain ⟨fdU, GU, bU, kU⟩ := ok_rrules (P := P) (w := w) (base := base) T
  obtain ⟨fdI, GI, bI, kI⟩ := ok_rdi (P := P) (w := w) (base := base) T
  obtain ⟨fdP, GP, bP, kP⟩ := ok_plan (P := P) (w := w) (base := base) T.e.f.lo
  obtain ⟨fdF, GF, bF, kF⟩ := ok_fmt (P := P) (w := w) (base := base) T.e.f
  refine ⟨fd, F.ok sc_dec (fun vs H Q E h => ?_) (fun cdv A outer s H vs Q E hr h => ?_), F.bindsN fun _ _ _ _ _ _ us hl => match us, hl with | [_], _ => rfl, F.kp⟩
  · obtain ⟨a, pl, rfl, _⟩ := h
    rfl
  · obtain ⟨a, pl, rfl, ha, wf, so, k⟩ := h
    have hr2 : Room 2 _ := hr.mono (by decide)
    have hr1 : Room 1 _ := hr.mono (by decide)
    refine ⟨_, PSs.nox (pss_cons (ps_if (pt_not (pt_val (pe_callB call_isi (by rfl) T.i.isinstance (by decide +kernel) (pa_cons (pv 0) (pa_cons (pe_bltn (v := .ty "list") (by rfl) T.list (by decide +kernel) rfl) pa_nil)))))
        (pss_one ps_no) pss_nil)
      (pss_cons (ps_set (i := 1) sc_dec.nd rfl (.inr rfl) (pe_make T.rd.m GI hr2 rfl T.rd.g bI .nil pass0 (pa_cons (pv 0) pa_nil)))
      (pss_cons (ps_expr (pe_meth (pv 1) T.rd.c T.read_byte.m GB hr2 bB .nil pass0 (pa_cons (pe_glob (v := .int 82) rfl mTAG ⟨_, rfl⟩) (pa_cons (pe_glob (v := .int 82) rfl mTAG ⟨_, rfl⟩) pa_nil))))
      (pss_cons (ps_set (i := 2) sc_dec.nd rfl (.inl rfl) (pe_meth (pv 1) T.rd.c T.read_byte.m GB hr2 bB .nil pass0 (pa_cons pe_int (pa_cons (pe_glob (v := .int 16) rfl mT ⟨_, rfl⟩) pa_nil))))
      (pss_cons (ps_asg (pe_tup (pa_cons (pe_meth (pv 1) T.rd.c T.read_names.m GN hr bN .nil pass0 (pa_cons (pe_glob (v := .int 4) rfl mS ⟨_, rfl⟩) pa_nil)) (pa_cons (pe_meth (pv 1) T.rd.c T.read_names.m GN hr bN .nil pass0 (pa_cons (pe_glob (v := .int 6) rfl mM ⟨_, rfl⟩) pa_nil)) (pa_cons (pe_lst pa_nil) pa_nil))))
        (pg_tup rfl (pgs_cons (pg_name (i := 3) sc_dec.nd rfl (.inr rfl)) (pgs_cons (pg_name (i := 4) sc_dec.nd rfl (.inl rfl)) (pgs_cons (pg_name (i := 5) sc_dec.nd rfl (.inl rfl)) pgs_nil)))))
      (pss_cons (ps_for PassesOwn.never rfl (pi_range1 (by rfl) T.e.f.lo.p.range (pa_cons (pe_meth (pv 1) T.rd.c T.read_byte.m GB hr2 bB .nil pass0 (pa_cons pe_int (pa_cons (pe_glob (v := .int 3) rfl mR ⟨_, rfl⟩) pa_nil))) pa_nil)) (pg_name (i := 6) sc_dec.nd rfl (.inl rfl))
        (pss_cons (ps_set (i := 7) sc_dec.nd rfl (.inl rfl) (pe_meth (pv 1) T.rd.c T.read_byte.m GB hr2 bB .nil pass0 (pa_cons pe_int (pa_cons (pe_op op_sub (pv 2) pe_int) pa_nil))))
        (pss_one (ps_expr (pe_bm PySem.F.plainAttrs_list PySem.F.slot_list_append PySem.F.type_list_append mt_append (pv 5) (pa_cons (pe_tup (pa_cons (pv 7) (pa_cons (pe_cmpR op_eq (pe_meth (pv 1) T.rd.c T.read_byte.m GB hr2 bB .nil pass0 (pa_cons pe_int (pa_cons pe_int pa_nil))) pe_int (nomark _)) pa_nil))) pa_nil))))))
      (pss_cons (ps_set (i := 8) sc_dec.nd rfl (.inl rfl) (pe_callTy call_tuple_of (by rfl) T.e.f.lo.p.tuple (by decide +kernel) (pa_cons (pe_lc (own := [("tile", 7)]) (g := (gName 7)) (tt := tYes) (te := teF K) rfl sc_dec.nd (pi_range1 (by rfl) T.e.f.lo.p.range (pa_cons (pv 2) pa_nil)) (blkOk_by (own := [("tile", 7)]) (N := deN) (sc := defScope s_decode) (by decide +kernel)) (fun _ _ _ _ _ => (pg_name (i := 7) sc_dec.nd rfl (.inl rfl))) (fun _ _ _ _ _ => pts_nil) (fun _ _ _ _ _ => (pe_meth (pv 1) T.rd.c T.read_byte.m GB hr2 bB .nil pass0 (pa_cons pe_int (pa_cons (pe_op op_sub (pe_callB call_len_seq (by rfl) T.e.f.lo.p.l.len boot_len (pa_cons (pv 3) pa_nil)) pe_int) pa_nil))))) pa_nil)))
      (pss_cons (ps_set (i := 9) sc_dec.nd rfl (.inl rfl) (pe_meth (pv 1) T.rd.c T.read_rules.m GU hr bU .nil pass0 (pa_cons (pe_callB call_len_seq (by rfl) T.e.f.lo.p.l.len boot_len (pa_cons (pv 4) pa_nil)) (pa_cons (pe_callB call_len_seq (by rfl) T.e.f.lo.p.l.len boot_len (pa_cons (pv 3) pa_nil)) pa_nil))))
      (pss_cons (ps_set (i := 10) sc_dec.nd rfl (.inl rfl) (pe_op op_mod (pe_callB (cr_sum rfl) (by rfl) T.e.sum (by decide +kernel) (pa_cons (pe_slice sl_list (pv 0) po_none (po_some (pe_fld (pv 1) rfl))) pa_nil)) (pe_glob (v := .int 256) rfl mBYTE ⟨_, rfl⟩)))
      (pss_cons (ps_expr (pe_meth (pv 1) T.rd.c T.read_byte.m GB hr2 bB .nil pass0 (pa_cons (pv 10) (pa_cons (pv 10) pa_nil))))
      (pss_cons (ps_if (pt_cmpR op_lt (pe_fld (pv 1) rfl) (pe_callB call_len_seq (by rfl) T.e.f.lo.p.l.len boot_len (pa_cons (pv 0) pa_nil)) (nomark _))
        (pss_one ps_no) pss_nil)
      (pss_one (ps_ret (pe_call GF hr1 rfl T.e.f.fmt.g kF bF .nil pass0 (pa_cons (pe_make T.e.f.lo.plan.m GP hr2 rfl T.e.f.lo.plan.g bP .nil pass0 (pa_cons (pv 3) (pa_cons (pv 4) (pa_cons (pv 8) (pa_cons (pe_callTy call_tuple_of (by rfl) T.e.f.lo.p.tuple (by decide +kernel) (pa_cons (pv 5) pa_nil)) (pa_cons (pv 9) pa_nil)))))) pa_nil))))))))))))))), ?_⟩
    refine ⟨_, rfl, _, _, _, _, true, rfl, .ty _, (ArN.lst ha).ty, kit_ty (by decide +kernel), _, rfl, ?_⟩
    refine ⟨_, rfl, fun r dx nr ndx dr => ?_⟩
    have ar : a ≠ r := ne_of_none ha nr
    have ad : a ≠ dx := ne_of_none ha ndx
    refine ⟨r, dx, a, rfl, upd_same, rfl, ?_⟩
    rw [upd_upd]
    have s1 : Same H (upd (upd H dx (.own r)) r (.ins (He.ga K "Reader") dx (rdFs a 0))) := sameUpd (sameUpd (Same.refl H) ndx) nr
    have hR1 : RdAt K (upd (upd H dx (.own r)) r (.ins (He.ga K "Reader") dx (rdFs a 0))) r a (codeB pl) 0 := ⟨⟨dx, upd_same⟩, s1 _ _ ha⟩
    generalize upd (upd H dx (.own r)) r (.ins (He.ga K "Reader") dx (rdFs a 0)) = H1 at *
    have hcode : codeB pl = 82 :: pl.floor.length :: (namesB pl.signs ++ (namesB pl.moods ++ (pl.robots.length :: ((pl.robots.map robB).flatten ++ (pl.floor ++ (pl.rules.length :: ((pl.rules.map ruleB).flatten ++ [(bodyB pl).sum % 256]))))))) := by
      unfold codeB
      conv => lhs; arg 1; unfold bodyB
      simp only [List.append_assoc, List.cons_append, List.nil_append]
    have lN1 := namesB_len wf.sN (by have := wf.s4; omega)
    have lN2 := namesB_len wf.mN wf.m6
    have lR := flat_small (f := robB) (l := pl.robots) (b := 2) fun x hx => Nat.le_refl _
    have lU := flat_small (f := ruleB) (l := pl.rules) (b := 5) fun x hx => Nat.le_refl _
    have hru := rules_few wf so
    have h16 := wf.n16
    have hr3 := wf.r3
    have hs4 := wf.s4
    have hm6 := wf.m6
    have hlen : (codeB pl).length ≤ 10000 := by
      rw [hcode]
      simp only [List.length_cons, List.length_append, List.length_nil]
      omega
    have hbl : (codeB pl).length = (bodyB pl).length + 1 := by unfold codeB; simp
    generalize hck : (bodyB pl).sum % 256 = ck at hcode
    have htk : (codeB pl).take (bodyB pl).length = bodyB pl := by
      unfold codeB
      rw [List.take_left']
      rfl
    have hlast : (codeB pl)[(bodyB pl).length]? = some ck := by
      unfold codeB
      rw [hck, List.getElem?_append_right (Nat.le_refl _), Nat.sub_self]
      rfl
    have hbsum : (bodyB pl).sum % 256 = ck := hck
    have hlen2 : (bodyB pl).length = 2 + (namesB pl.signs).length + (namesB pl.moods).length + 1 + (pl.robots.map robB).flatten.length + pl.floor.length + 1 + (pl.rules.map ruleB).flatten.length := by
      have := congrArg List.length hcode
      simp only [List.length_cons, List.length_append, List.length_nil] at this
      omega
    have cl := T.rd.c
    have nat : ∀ f ∈ (["code", "place"] : List Str), NoAttr K (He.ga K "Reader") f := T.rd.n
    have hs0 : 1 ≤ pl.signs.length := by
      have := wf.s1
      cases e : pl.signs with
      | nil => exact absurd e this
      | cons _ _ => simp
    have hrb0 : 1 ≤ pl.robots.length := by
      have := wf.r1
      cases e : pl.robots with
      | nil => exact absurd e this
      | cons _ _ => simp
    generalize hcd : codeB pl = cd at *
    generalize hbd : (bodyB pl).length = bl at *
    have d0 : cd.drop 0 = 82 :: (pl.floor.length :: (namesB pl.signs ++ (namesB pl.moods ++ (pl.robots.length :: ((pl.robots.map robB).flatten ++ (pl.floor ++ (pl.rules.length :: ((pl.rules.map ruleB).flatten ++ [ck])))))))) := by rw [List.drop_zero, hcode]
    obtain ⟨g0, d1⟩ := drop_at (l := []) d0
    obtain ⟨g1, d2⟩ := drop_at (l := []) d1
    have d3 := drop_app d2
    have d4 := drop_app d3
    obtain ⟨g4, d5⟩ := drop_at (l := []) d4
    have d6 := drop_app d5
    have d7 := drop_app d6
    obtain ⟨⟨dx1, hr1'⟩, hc1⟩ := hR1
    have hR1 : RdAt K H1 r a cd 0 := ⟨⟨dx1, hr1'⟩, hc1⟩
    refine ⟨_, rfl, r, dx1, _, rfl, hr1', lrd_byte, r, a, cd, 0, 82, _, _, rfl, hR1, g0, by decide, by decide, hlen, fun H2 b2 hR2 => ?_⟩
    obtain ⟨⟨dx2, hr2'⟩, hc2⟩ := hR2
    have hR2 : RdAt K H2 r a cd (0 + 1) := ⟨⟨dx2, hr2'⟩, hc2⟩
    refine ⟨_, rfl, r, dx2, _, rfl, hr2', lrd_byte, r, a, cd, _, pl.floor.length, _, _, rfl, hR2, g1, by have := wf.n1; omega, by omega, hlen, fun H3 b3 hR3 => ?_⟩
    replace b3 := b2.trans b3
    obtain ⟨⟨dx3, hr3'⟩, hc3⟩ := hR3
    have hR3 : RdAt K H3 r a cd (0 + 1 + 1) := ⟨⟨dx3, hr3'⟩, hc3⟩
    refine ⟨_, rfl, r, dx3, _, rfl, hr3', lrd_names, r, a, cd, _, 4, pl.signs, rfl, hR3, hlen, ⟨_, d2⟩, wf.sN, wf.s1, wf.s4, by decide, fun sa H4 nsa b4 hR4 hsa => ?_⟩
    have sar := (hR3.ner nsa).1
    replace b4 := b3.trans b4
    obtain ⟨⟨dx4, hr4'⟩, hc4⟩ := hR4
    have hR4 : RdAt K H4 r a cd (0 + 1 + 1 + (namesB pl.signs).length) := ⟨⟨dx4, hr4'⟩, hc4⟩
    refine ⟨_, rfl, r, dx4, _, rfl, hr4', lrd_names, r, a, cd, _, 6, pl.moods, rfl, hR4, hlen, ⟨_, d3⟩, wf.mN, wf.m1, wf.m6, by decide, fun ma H5 nma b5 hR5 hma => ?_⟩
    have mar := (hR4.ner nma).1
    replace hsa := hsa.mono fun o z => b5 _ _ sar z
    replace b5 := b4.trans b5
    refine ⟨(by show 0 ≤ sizeLine; decide), fun rl nrl => ?_⟩
    have s6 := sameUpd (o := .lst []) (Same.refl H5) nrl
    have hrl := @upd_same H5 rl (.lst [])
    have rlr := hR5.ner nrl
    have rl1 : H1 rl = none := b5.free rlr.1 nrl
    replace hsa := hsa.mono fun o z => s6 _ _ z
    replace hma := hma.mono fun o z => s6 _ _ z
    replace hR5 := hR5.keep s6
    replace b5 := b5.trans (.of s6)
    have rsa : rl ≠ sa := fun z => by
      obtain ⟨_, _, _, q⟩ := hsa
      rw [← z, hrl] at q
      cases q
    have rma : rl ≠ ma := fun z => by
      obtain ⟨_, _, _, q⟩ := hma
      rw [← z, hrl] at q
      cases q
    generalize upd H5 rl (.lst []) = H6 at *
    refine ⟨(by show 3 ≤ sizeLine; decide), fun t3 nt3 => ?_⟩
    have s7 := sameUpd (o := .tup [.ref sa, .ref ma, .ref rl]) (Same.refl H6) nt3
    have ht3 := @upd_same H6 t3 (.tup [.ref sa, .ref ma, .ref rl])
    replace hsa := hsa.mono fun o z => s7 _ _ z
    replace hma := hma.mono fun o z => s7 _ _ z
    replace hrl := s7 _ _ hrl
    replace hR5 := hR5.keep s7
    replace b5 := b5.trans (.of s7)
    generalize upd H6 t3 (.tup [.ref sa, .ref ma, .ref rl]) = H7 at *
    refine ⟨t3, _, rfl, SqT.of ht3, rfl, _, _, rfl, _, _, rfl, _, _, rfl, rfl, ?_⟩
    -- robots
    obtain ⟨⟨dx7, hr7'⟩, hc7⟩ := hR5
    have hR7 : RdAt K H7 r a cd (0 + 1 + 1 + (namesB pl.signs).length + (namesB pl.moods).length) := ⟨⟨dx7, hr7'⟩, hc7⟩
    generalize hp4 : 0 + 1 + 1 + (namesB pl.signs).length + (namesB pl.moods).length = p4 at *
    refine ⟨_, rfl, r, dx7, _, rfl, hr7', lrd_byte, r, a, cd, _, pl.robots.length, _, _, rfl, hR7, g4, by omega, by omega, hlen, fun H8 b8 hR8 => ?_⟩
    refine ⟨_, rfl, by omega, by omega, ?_⟩
    replace hsa := hsa.mono fun o z => b8 _ _ sar z
    replace hma := hma.mono fun o z => b8 _ _ mar z
    replace hrl := b8 _ _ rlr.1 hrl
    replace b8 := b5.trans b8
    refine for_range (lo := 0) (n := ((pl.robots.length : Nat) : Int).toNat) (fun i σ Hx => ∃ (o6 o7 : Option V) (ras : List Addr), σ = [some (.ref a), some (.ref r), some (.int (pl.floor.length : Nat)), some (.ref sa), some (.ref ma), some (.ref rl), o6, o7, none, none, none] ∧ But r H1 Hx ∧
      RdAt K Hx r a cd (p4 + 1 + ((pl.robots.take i).map robB).flatten.length) ∧ TupN Hx sa (pl.signs.map sV) ∧ TupN Hx ma (pl.moods.map sV) ∧ Hx rl = some (.lst (ras.map V.ref)) ∧ Paired (RobAt Hx) ras (pl.robots.take i))
      ⟨none, none, [], rfl, b8, hR8, hsa, hma, hrl, .nil⟩ ?_ ?_
    · rintro i σ Hx hi ⟨o6, o7, ras, rfl, bx, hRx, hsx, hmx, hlx, hpx⟩
      rw [Int.toNat_natCast] at hi
      have hri : pl.robots[i]? = some pl.robots[i] := List.getElem?_eq_getElem hi
      generalize pl.robots[i] = rb at hri
      have hrt := wf.rt rb (List.mem_of_getElem? hri)
      have hsplit : (pl.robots.map robB).flatten = ((pl.robots.take i).map robB).flatten ++ (robB rb ++ ((pl.robots.drop (i + 1)).map robB).flatten) := by
        have e1 := take_flat (f := robB) hri
        have e2 : pl.robots = pl.robots.take (i + 1) ++ pl.robots.drop (i + 1) := (List.take_append_drop _ _).symm
        calc (pl.robots.map robB).flatten = ((pl.robots.take (i + 1) ++ pl.robots.drop (i + 1)).map robB).flatten := by rw [← e2]
          _ = _ := by rw [List.map_append, List.flatten_append, e1, List.append_assoc]
      have hq1 : p4 + 1 + ((pl.robots.take (i + 1)).map robB).flatten.length = p4 + 1 + ((pl.robots.take i).map robB).flatten.length + 1 + 1 := by
        rw [take_flat hri, List.length_append]
        rfl
      have dq : cd.drop (p4 + 1 + ((pl.robots.take i).map robB).flatten.length) = robB rb ++ (((pl.robots.drop (i + 1)).map robB).flatten ++ (pl.floor ++ (pl.rules.length :: ((pl.rules.map ruleB).flatten ++ [ck])))) := by
        refine drop_app (a := ((pl.robots.take i).map robB).flatten) ?_
        rw [d5, hsplit]
        simp only [List.append_assoc]
      rw [hq1]
      generalize p4 + 1 + ((pl.robots.take i).map robB).flatten.length = q at hRx dq
      have y0 : cd[q]? = some rb.1 := drop_get (j := 0) dq rfl
      have y1 : cd[q + 1]? = some (if rb.2 then 1 else 0) := drop_get (j := 1) dq rfl
      obtain ⟨⟨dxx, hrx'⟩, hcx⟩ := hRx
      have hRx : RdAt K Hx r a cd q := ⟨⟨dxx, hrx'⟩, hcx⟩
      refine ⟨_, rfl, r, dxx, _, rfl, hrx', lrd_byte, _, rfl, _, _, rfl, rfl, r, a, cd, _, rb.1, _, _, rfl, hRx, y0, by omega, by omega, hlen, fun Hy b9 hRy => ?_⟩
      replace hpx := Paired.mapP hpx fun _ _ z => (hRx.tup b9) _ _ z
      replace hsx := hsx.mono fun o z => b9 _ _ sar z
      replace hmx := hmx.mono fun o z => b9 _ _ mar z
      replace hlx := b9 _ _ rlr.1 hlx
      replace bx := bx.trans b9
      obtain ⟨⟨dxy, hry'⟩, hcy⟩ := hRy
      have hRy : RdAt K Hy r a cd (q + 1) := ⟨⟨dxy, hry'⟩, hcy⟩
      refine ⟨_, rfl, .inl ⟨rfl, _, SqL.of hlx⟩, _, rfl, _, rfl, r, dxy, _, rfl, hry', lrd_byte, r, a, cd, _, _, _, _, rfl, hRy, y1, Int.natCast_nonneg _, by cases rb.2 <;> decide, hlen, fun Hz b10 hRz => ?_⟩
      replace hpx := Paired.mapP hpx fun _ _ z => (hRy.tup b10) _ _ z
      replace hsx := hsx.mono fun o z => b10 _ _ sar z
      replace hmx := hmx.mono fun o z => b10 _ _ mar z
      replace hlx := b10 _ _ rlr.1 hlx
      replace bx := bx.trans b10
      have eb : decide (V.int ((if rb.2 then 1 else 0 : Nat) : Int) = V.int 1) = rb.2 := by
        cases rb.2
        · exact decide_eq_false (fun z => by
            injection z with z
            exact absurd z (by decide))
        · exact decide_eq_true rfl
      refine ⟨rfl, ?_⟩
      rw [eb]
      refine ⟨(by show 2 ≤ sizeLine; decide), fun t nt => ?_⟩
      have s11 := sameUpd (o := .tup [.int (rb.1 : Nat), .bl rb.2]) (Same.refl Hz) nt
      have ht := @upd_same Hz t (.tup [.int (rb.1 : Nat), .bl rb.2])
      replace hpx := Paired.mapP hpx fun _ _ z => s11 _ _ z
      replace hsx := hsx.mono fun o z => s11 _ _ z
      replace hmx := hmx.mono fun o z => s11 _ _ z
      replace hlx := s11 _ _ hlx
      replace bx := bx.trans (.of s11)
      replace hRz := hRz.keep s11
      generalize upd Hz t (.tup [.int (rb.1 : Nat), .bl rb.2]) = Hw at *
      have hpl := hpx.length
      rw [List.length_take] at hpl
      have kt := keepT (o' := .lst (ras.map V.ref ++ [.ref t])) hlx (fun xs q => by cases q)
      refine ⟨rl, _, _, rfl, rfl, hlx, by rw [List.length_map, sizeLine_eq]; omega, _, _, ras ++ [t], rfl, bx.put rl1, hRz.put rlr.1 rlr.2, hsx.mono (fun o z => (upd_ne (Ne.symm rsa)).trans z), hmx.mono (fun o z => (upd_ne (Ne.symm rma)).trans z), ?_, ?_⟩
      · rw [upd_same, List.map_append]
        rfl
      · rw [List.take_succ, hri]
        exact Paired_snoc (Paired.mapP hpx fun _ _ z => kt _ _ z) (kt _ _ ht)
    rintro σ Hx ⟨o6, o7, ras, rfl, bx, hRx, hsx, hmx, hlx, hpx⟩
    rw [Int.toNat_natCast, List.take_length] at hRx hpx
    -- floor
    generalize hp5 : p4 + 1 + (pl.robots.map robB).flatten.length = p5 at *
    have hfb := wf.fl
    refine ⟨_, rfl, _, rfl, by omega, by omega, fun D nD => ?_⟩
    have Dr := hRx.ner nD
    refine lc_range (lo := 0) (n := ((pl.floor.length : Nat) : Int).toNat) (vs := [7]) (fun j Hy => But r Hx Hy ∧ RdAt K Hy r a cd (p5 + j) ∧ Hy D = some (.lst (iVs (pl.floor.take j)))) ⟨But.new nD, hRx.put Dr.1 Dr.2, upd_same⟩ ?_ ?_
    · rintro j Hy hj ⟨by_, hRy, hDy⟩
      rw [Int.toNat_natCast] at hj
      have hfj : pl.floor[j]? = some pl.floor[j] := List.getElem?_eq_getElem hj
      generalize pl.floor[j] = f at hfj
      have hff := wf.fl f (List.mem_of_getElem? hfj)
      have yj : cd[p5 + j]? = some f := drop_get d6 hfj
      obtain ⟨⟨dxy, hry'⟩, hcy⟩ := hRy
      have hRy : RdAt K Hy r a cd (p5 + j) := ⟨⟨dxy, hry'⟩, hcy⟩
      refine ⟨rfl, _, rfl, r, dxy, _, rfl, hry', lrd_byte, _, rfl, sa, _, rfl, .inr (hsx.mono fun o z => by_ _ _ sar z).sq, _, _, rfl, rfl, r, a, cd, _, f, _, _, rfl, hRy, yj, by omega, ?_, hlen, fun Hz bz hRz => ?_⟩
      · show ((f : Nat) : Int) ≤ (((pl.signs.map sV).length : Nat) : Int) - 1
        rw [List.length_map]
        omega
      · refine ⟨_, bz _ _ Dr.1 hDy, by rw [List.length_map, List.length_take, sizeLine_eq]; omega, (by_.trans bz).put nD, hRz.put Dr.1 Dr.2, ?_⟩
        rw [upd_same, List.take_succ, hfj]
        simp
    rintro Hy ⟨by_, hRy, hDy⟩
    rw [Int.toNat_natCast] at hRy hDy
    rw [List.take_length] at hDy
    replace hpx := Paired.mapP hpx fun _ _ z => (hRx.tup by_) _ _ z
    replace hsx := hsx.mono fun o z => by_ _ _ sar z
    replace hmx := hmx.mono fun o z => by_ _ _ mar z
    replace hlx := by_ _ _ rlr.1 hlx
    replace bx := bx.trans by_
    refine ⟨D, _, rfl, .inl ⟨SqL.of hDy, fun fa nfa => ?_⟩⟩
    have s12 := sameUpd (o := .tup (iVs pl.floor)) (Same.refl Hy) nfa
    have hfa := @upd_same Hy fa (.tup (iVs pl.floor))
    have far := (hRy.ner nfa).1
    replace hpx := Paired.mapP hpx fun _ _ z => s12 _ _ z
    replace hsx := hsx.mono fun o z => s12 _ _ z
    replace hmx := hmx.mono fun o z => s12 _ _ z
    replace hlx := s12 _ _ hlx
    replace bx := bx.trans (.of s12)
    replace hRy := hRy.keep s12
    generalize upd Hy fa (.tup (iVs pl.floor)) = Hz at *
    -- rules
    obtain ⟨⟨dxz, hrz'⟩, hcz⟩ := hRy
    have hRz : RdAt K Hz r a cd (p5 + pl.floor.length) := ⟨⟨dxz, hrz'⟩, hcz⟩
    refine ⟨_, rfl, r, dxz, _, rfl, hrz', lrd_rules, _, rfl, ma, _, rfl, .inr hmx.sq, _, rfl, sa, _, rfl, .inr hsx.sq, r, a, cd, _, pl.moods.length, pl.signs.length, pl.rules, by rw [List.length_map, List.length_map]; rfl, hRz, hlen, ⟨_, d7⟩, wf.ru, so, rules_most wf.ru so, wf.m6, wf.s4, fun rd Hw nrd bw hRw hrw => ?_⟩
    have rdr := (hRz.ner nrd).1
    replace hpx := Paired.mapP hpx fun _ _ z => (hRz.tup bw) _ _ z
    replace hsx := hsx.mono fun o z => bw _ _ sar z
    replace hmx := hmx.mono fun o z => bw _ _ mar z
    replace hlx := bw _ _ rlr.1 hlx
    replace hfa := bw _ _ far hfa
    replace bx := bx.trans bw
    have hp7 : p5 + pl.floor.length + 1 + (pl.rules.map ruleB).flatten.length = bl := by
      omega
    rw [hp7] at hRw
    obtain ⟨⟨dxw, hrw'⟩, hcw⟩ := hRw
    have hRw : RdAt K Hw r a cd bl := ⟨⟨dxw, hrw'⟩, hcw⟩
    have ec : cutV (iVs cd) none (some ((bl : Nat) : Int)) = iVs (bodyB pl) := by
      rw [cut_take (by rw [List.length_map]; omega), ← List.map_take, htk]
    refine ⟨_, rfl, _, rfl, r, _, dxw, _, _, rfl, hrw', cl, nat _ (by simp), lrd_place, _, rfl, a, _, rfl, SqL.of hcw, fun q nq => ?_⟩
    rw [ec]
    have s13 := sameUpd (o := .lst (iVs (bodyB pl))) (Same.refl Hw) nq
    have hq := @upd_same Hw q (.lst (iVs (bodyB pl)))
    replace hpx := Paired.mapP hpx fun _ _ z => s13 _ _ z
    replace hsx := hsx.mono fun o z => s13 _ _ z
    replace hmx := hmx.mono fun o z => s13 _ _ z
    replace hlx := s13 _ _ hlx
    replace hfa := s13 _ _ hfa
    replace hrw : RulesAt (upd Hw q (.lst (iVs (bodyB pl)))) rd pl.rules := let ⟨kvs, h1, h2⟩ := hrw; ⟨kvs, s13 _ _ h1, Paired.mapP h2 fun _ _ z => z.mono fun _ _ e => s13 _ _ e⟩
    replace bx := bx.trans (.of s13)
    replace hRw := hRw.keep s13
    generalize upd Hw q (.lst (iVs (bodyB pl))) = Hv at *
    refine ⟨q, (bodyB pl).map (fun n : Nat => (n : Int)), rfl, SqL.of (by rw [← iVs_int]; exact hq), ?_⟩
    rw [isum]
    refine ⟨_, _, rfl, rfl, (show (0 : Int) < 256 by decide), ?_⟩
    have eM : ((((bodyB pl).sum : Nat) : Int) % 256) = ((ck : Nat) : Int) := by
      rw [← hbsum]
      omega
    obtain ⟨⟨dxv, hrv'⟩, hcv⟩ := hRw
    have hRv : RdAt K Hv r a cd bl := ⟨⟨dxv, hrv'⟩, hcv⟩
    refine ⟨_, rfl, r, dxv, _, rfl, hrv', lrd_byte, _, rfl, _, rfl, r, a, cd, _, ck, _, _, rfl, hRv, hlast, by rw [eM]; omega, by rw [eM]; omega, hlen, fun Hu bu hRu => ?_⟩
    replace hrw : RulesAt Hu rd pl.rules := let ⟨kvs, h1, h2⟩ := hrw; ⟨kvs, bu _ _ rdr h1, Paired.mapP h2 fun _ _ z => z.mono (hRv.tup bu)⟩
    replace hpx := Paired.mapP hpx fun _ _ z => (hRv.tup bu) _ _ z
    replace hsx := hsx.mono fun o z => bu _ _ sar z
    replace hmx := hmx.mono fun o z => bu _ _ mar z
    replace hlx := bu _ _ rlr.1 hlx
    replace hfa := bu _ _ far hfa
    replace bx := bx.trans bu
    obtain ⟨⟨dxu, hru'⟩, hcu⟩ := hRu
    refine ⟨_, rfl, r, _, dxu, _, _, rfl, hru', cl, nat _ (by simp), lrd_place, _, rfl, a, _, rfl, .inl (SqL.of hcu), _, _, rfl, rfl, _, rfl, ?_⟩
    refine ite2 (fun h => ?_) (fun _ => ?_)
    · have := of_decide_eq_true h
      rw [List.length_map] at this
      omega
    -- the plan
    refine ⟨_, rfl, _, rfl, _, rfl, _, rfl, rl, _, rfl, .inl ⟨SqL.of hlx, fun ra nra => ?_⟩⟩
    have s14 := sameUpd (o := .tup (ras.map V.ref)) (Same.refl Hu) nra
    have hra := @upd_same Hu ra (.tup (ras.map V.ref))
    replace hpx := Paired.mapP hpx fun _ _ z => s14 _ _ z
    replace hsx := hsx.mono fun o z => s14 _ _ z
    replace hmx := hmx.mono fun o z => s14 _ _ z
    replace hfa := s14 _ _ hfa
    replace hrw : RulesAt (upd Hu ra (.tup (ras.map V.ref))) rd pl.rules := let ⟨kvs, h1, h2⟩ := hrw; ⟨kvs, s14 _ _ h1, Paired.mapP h2 fun _ _ z => z.mono fun _ _ e => s14 _ _ e⟩
    replace bx := bx.trans (.of s14)
    generalize upd Hu ra (.tup (ras.map V.ref)) = Ht at *
    refine ⟨_, rfl, ?_⟩
    intro x dx8 nx ndx8 ne8
    refine init_at (vs := [.ref sa, .ref ma, .ref fa, .ref ra, .ref rd]) rfl nx ndx8 fun H9 s15 ⟨dx9, hx9⟩ => ⟨rfl, ?_⟩
    have hP : PlanAt K H9 x pl := ⟨dx9, sa, ma, fa, ra, rd, ras, hx9, hsx.mono fun o z => s15 _ _ z, hmx.mono fun o z => s15 _ _ z, s15 _ _ hfa, s15 _ _ hra, Paired.mapP hpx fun _ _ z => s15 _ _ z, let ⟨kvs, h1, h2⟩ := hrw; ⟨kvs, s15 _ _ h1, Paired.mapP h2 fun _ _ z => z.mono fun _ _ e => s15 _ _ e⟩⟩
    refine ⟨x, pl, pl.rules, rfl, hP, wf, .refl _, so, fun H10 s16 => ?_⟩
    refine k H10 fun b o e => s16 _ _ (s15 _ _ (bx _ _ (ne_of_none e nr) (s1 _ _ e)))
end
end Sw

end

section
set_option maxRecDepth 100000
set_option maxHeartbeats 4000000
set_option pp.deepTerms false
set_option pp.deepTerms.threshold 7
/-! decode of any list: at which place it stops (plain) -/
namespace Sw
open PySem PySem.Spec PyProof.Rows L2 SwA
/-- what is read, and the next place; or the place at which it stops -/
abbrev Rd (α : Type) : Type := Except Nat (α × Nat)
def rdB (L : List V) (lo hi : Int) (p : Nat) : Rd Nat :=
  match L[p]? with
  | some (.int i) => if (decide (lo ≤ i) && decide (i ≤ hi)) = true then .ok (i.toNat, p + 1) else .error p
  | _ => .error p
def andB {α β : Type} (x : Rd α) (f : α → Nat → Rd β) : Rd β :=
  match x with
  | .ok y => f y.1 y.2
  | .error e => .error e
theorem andB_ok {α β : Type} (a : α) (p : Nat) (f : α → Nat → Rd β) : andB (.ok (a, p)) f = f a p := rfl
theorem andB_err {α β : Type} (e : Nat) (f : α → Nat → Rd β) : andB (.error e : Rd α) f = .error e := rfl
def lettersM (L : List V) : Nat → Nat → Rd Cs
  | 0, p => .ok ([], p)
  | n + 1, p => andB (rdB L 0 25 p) fun b p1 => andB (lettersM L n p1) fun w p2 => .ok ((b + 97) :: w, p2)
def nameM (L : List V) (ns : List Cs) (p : Nat) : Rd Cs := andB (rdB L 1 8 p) fun n p1 => andB (lettersM L n p1) fun w p2 => if (kws.contains w || ns.contains w) = true then .error p else .ok (w, p2)
def namesL (L : List V) : Nat → List Cs → Nat → Rd (List Cs)
  | 0, ns, p => .ok (ns, p)
  | k + 1, ns, p => andB (nameM L ns p) fun w p1 => namesL L k (ns ++ [w]) p1
def namesM (L : List V) (most : Nat) (p : Nat) : Rd (List Cs) := andB (rdB L 1 most p) fun k p1 => namesL L k [] p1
def robsM (L : List V) (n : Nat) : Nat → Nat → Rd Unit
  | 0, p => .ok ((), p)
  | k + 1, p => andB (rdB L 0 ((n : Int) - 1) p) fun _ p1 => andB (rdB L 0 1 p1) fun _ p2 => robsM L n k p2
def floorM (L : List V) (g : Nat) : Nat → Nat → Rd Unit
  | 0, p => .ok ((), p)
  | k + 1, p => andB (rdB L 0 ((g : Int) - 1) p) fun _ p1 => floorM L g k p1
def rulesL (L : List V) (m g : Nat) : Nat → Nat → Nat → Nat → Rd Unit
  | 0, _, _, p => .ok ((), p)
  | k + 1, le, fi, p => andB (rdB L le ((m : Int) - 1) p) fun mo p1 => andB (rdB L (if mo = le then fi else 0 : Nat) ((g : Int) - 1) p1) fun si p2 => andB (rdB L 0 ((g : Int) - 1) p2) fun _ p3 => andB (rdB L 0 2 p3) fun _ p4 =>
    andB (rdB L 0 ((m : Int) - 1) p4) fun _ p5 => if si + 1 < g then rulesL L m g k mo (si + 1) p5 else rulesL L m g k (mo + 1) 0 p5
def rulesM (L : List V) (m g p : Nat) : Rd Unit := andB (rdB L 0 ((m : Int) * (g : Int)) p) fun k p1 => rulesL L m g k 0 0 p1
def bodyM (L : List V) : Rd Unit :=
  andB (rdB L 82 82 0) fun _ p => andB (rdB L 1 16 p) fun n p => andB (namesM L 4 p) fun ss p => andB (namesM L 6 p) fun ms p => andB (rdB L 1 3 p) fun k p => andB (robsM L n k p) fun _ p => andB (floorM L ss.length n p) fun _ p => rulesM L ms.length ss.length p
def valI : V → Int
  | .int i => i
  | _ => 0
def sumI (l : List V) : Int := (l.map valI).sum
def sumM (L : List V) (p : Nat) : Rd Nat := rdB L (sumI (L.take p) % 256) (sumI (L.take p) % 256) p
def decM (L : List V) : Rd Unit := andB (bodyM L) fun _ p => andB (sumM L p) fun _ p1 => if p1 < L.length then .error p1 else .ok ((), p1)
/-! ### a byte -/
theorem rdB_ok {L : List V} {lo hi : Int} {p b q : Nat} (h : rdB L lo hi p = .ok (b, q)) (hlo : 0 ≤ lo) : q = p + 1 ∧ L[p]? = some (.int (b : Int)) ∧ lo ≤ b ∧ (b : Int) ≤ hi := by
  unfold rdB at h
  split at h
  · rename_i i e
    split at h
    · rename_i c
      rw [Bool.and_eq_true, decide_eq_true_eq, decide_eq_true_eq] at c
      cases h
      have : ((i.toNat : Nat) : Int) = i := Int.toNat_of_nonneg (by omega)
      rw [this]
      exact ⟨rfl, e, c.1, c.2⟩
    · cases h
  · cases h
theorem rdB_at {L : List V} {lo hi : Int} {p b : Nat} (h : L[p]? = some (.int (b : Int))) (h1 : lo ≤ b) (h2 : (b : Int) ≤ hi) : rdB L lo hi p = .ok (b, p + 1) := by
  unfold rdB
  rw [h]
  show (if (decide (lo ≤ (b : Int)) && decide ((b : Int) ≤ hi)) = true then Except.ok (((b : Int)).toNat, p + 1) else .error p) = _
  rw [decide_eq_true h1, decide_eq_true h2]
  rfl
theorem rdB_err {L : List V} {lo hi : Int} {p e : Nat} (h : rdB L lo hi p = .error e) : e = p := by
  unfold rdB at h
  split at h
  · split at h
    · cases h
    · cases h; rfl
  · cases h; rfl
theorem rdB_cong {L L' : List V} {lo hi : Int} {p : Nat} (h : L'[p]? = L[p]?) : rdB L' lo hi p = rdB L lo hi p := by
  unfold rdB
  rw [h]
/-! ### what another list tells that begins alike -/
def Bad (L : List V) (n : Nat) : Prop := ∀ lo hi : Int, 0 ≤ lo → hi ≤ 255 → rdB L lo hi n = .error n
def Fol (n : Nat) (L' : List V) {α : Type} (M M' : Rd α) (p : Nat) : Prop := ∀ a q, M = .ok (a, q) → p ≤ q ∧ (q ≤ n → M' = .ok (a, q)) ∧ (n < q → p ≤ n → Bad L' n → M' = .error n)
section
variable {L L' : List V} {n : Nat} {α β : Type}
theorem Fol.rd (hs : ∀ i < n, L'[i]? = L[i]?) {lo hi : Int} {p : Nat} (h0 : 0 ≤ lo) (h1 : hi ≤ 255) : Fol n L' (rdB L lo hi p) (rdB L' lo hi p) p := fun a q e => by
  obtain ⟨rfl, _⟩ := rdB_ok e h0
  refine ⟨by omega, fun h => ?_, fun h1' h2 hb => ?_⟩
  · rw [rdB_cong (hs p (by omega))]
    exact e
  · obtain rfl : p = n := by omega
    exact hb lo hi h0 h1
theorem Fol.and {M M' : Rd α} {f f' : α → Nat → Rd β} {p : Nat} (h : Fol n L' M M' p) (g : ∀ a q, M = .ok (a, q) → Fol n L' (f a q) (f' a q) q) : Fol n L' (andB M f) (andB M' f') p := fun b r e => by
  cases hm : M with
  | error x => rw [hm] at e; cases e
  | ok y =>
    obtain ⟨a, q⟩ := y
    rw [hm] at e
    have e : f a q = .ok (b, r) := e
    obtain ⟨h1, h2, h3⟩ := h a q hm
    obtain ⟨g1, g2, g3⟩ := g a q hm b r e
    refine ⟨Nat.le_trans h1 g1, fun hr => ?_, fun hr hp hb => ?_⟩
    · rw [h2 (Nat.le_trans g1 hr)]
      exact g2 hr
    · rcases Nat.lt_or_ge n q with z | z
      · rw [h3 z hp hb]
        rfl
      · rw [h2 z]
        exact g3 hr z hb
theorem Fol.ok (a : α) (p : Nat) : Fol n L' (.ok (a, p)) (.ok (a, p)) p := fun b q e => by
  cases e
  exact ⟨Nat.le_refl _, fun _ => rfl, fun h h2 => by omega⟩
theorem Fol.ite {c : Bool} {e a p : Nat} {w : α} : Fol n L' (if c = true then .error e else .ok (w, p)) (if c = true then .error e else .ok (w, p)) p := fun b q h => by
  cases c with
  | true => cases h
  | false => exact Fol.ok w p b q h
theorem Fol.mono {M M' : Rd α} {p p' : Nat} (h : Fol n L' M M' p) (hp : p' ≤ p) (hq : ∀ a q, M = .ok (a, q) → n < q → p' ≤ n → p ≤ n) : Fol n L' M M' p' := fun a q e => by
  obtain ⟨h1, h2, h3⟩ := h a q e
  exact ⟨Nat.le_trans hp h1, h2, fun z1 z2 => h3 z1 (hq a q e z1 z2)⟩
variable (hs : ∀ i < n, L'[i]? = L[i]?)
include hs
theorem Fol.letters : ∀ k p, Fol n L' (lettersM L k p) (lettersM L' k p) p
  | 0, p => .ok _ _
  | k + 1, p => .and (.rd hs (by decide) (by decide)) fun _ q _ => .and (Fol.letters k q) fun _ _ _ => .ok _ _
theorem Fol.name (ns : List Cs) (p : Nat) : Fol n L' (nameM L ns p) (nameM L' ns p) p := .and (.rd hs (by decide) (by decide)) fun _ q _ => .and (Fol.letters hs _ q) fun w q2 _ => Fol.ite (a := 0)
theorem Fol.namesL : ∀ k ns p, Fol n L' (namesL L k ns p) (Sw.namesL L' k ns p) p
  | 0, ns, p => .ok _ _
  | k + 1, ns, p => .and (Fol.name hs ns p) fun w q _ => Fol.namesL k (ns ++ [w]) q
theorem Fol.names {most : Nat} (hm : most ≤ 255) (p : Nat) : Fol n L' (namesM L most p) (namesM L' most p) p := .and (.rd hs (by decide) (by omega)) fun k q _ => Fol.namesL hs k [] q
theorem Fol.robs {t : Nat} (ht : t ≤ 255) : ∀ k p, Fol n L' (robsM L t k p) (robsM L' t k p) p
  | 0, p => .ok _ _
  | k + 1, p => .and (.rd hs (by decide) (by omega)) fun _ q _ => .and (.rd hs (by decide) (by decide)) fun _ q2 _ => Fol.robs ht k q2
theorem Fol.floor {g : Nat} (hg : g ≤ 255) : ∀ k p, Fol n L' (floorM L g k p) (floorM L' g k p) p
  | 0, p => .ok _ _
  | k + 1, p => .and (.rd hs (by decide) (by omega)) fun _ q _ => Fol.floor hg k q
theorem Fol.rulesL {m g : Nat} (hm : m ≤ 255) (hg : g ≤ 255) : ∀ k le fi p, Fol n L' (rulesL L m g k le fi p) (Sw.rulesL L' m g k le fi p) p
  | 0, le, fi, p => .ok _ _
  | k + 1, le, fi, p => .and (.rd hs (by omega) (by omega)) fun mo p1 _ => .and (.rd hs (by omega) (by omega)) fun si p2 _ => .and (.rd hs (by decide) (by omega)) fun _ p3 _ => .and (.rd hs (by decide) (by decide)) fun _ p4 _ => .and (.rd hs (by decide) (by omega)) fun _ p5 _ => by
      by_cases h : si + 1 < g
      · rw [if_pos h, if_pos h]
        exact Fol.rulesL hm hg k mo (si + 1) p5
      · rw [if_neg h, if_neg h]
        exact Fol.rulesL hm hg k (mo + 1) 0 p5
end
theorem namesL_len {L : List V} : ∀ k ns p ws q, namesL L k ns p = .ok (ws, q) → ws.length = ns.length + k
  | 0, ns, p, ws, q, e => by cases e; rfl
  | k + 1, ns, p, ws, q, e => by
    unfold namesL at e
    cases h : nameM L ns p with
    | error x => rw [h] at e; cases e
    | ok y =>
      rw [h] at e
      have := namesL_len k _ _ _ _ e
      rw [this, List.length_append]
      simp
      omega
theorem namesM_len {L : List V} {most p q : Nat} {ws : List Cs} (h : namesM L most p = .ok (ws, q)) : 1 ≤ ws.length ∧ ws.length ≤ most := by
  unfold namesM at h
  cases e : rdB L 1 most p with
  | error x => rw [e] at h; cases h
  | ok y =>
    obtain ⟨k, p1⟩ := y
    rw [e] at h
    have h1 := namesL_len k [] p1 ws q h
    obtain ⟨_, _, h2, h3⟩ := rdB_ok e (by decide)
    simp at h1
    omega
theorem Fol.body {L L' : List V} {n : Nat} (hs : ∀ i < n, L'[i]? = L[i]?) : Fol n L' (bodyM L) (bodyM L') 0 :=
  .and (.rd hs (by decide) (by decide)) fun _ p _ => .and (.rd hs (by decide) (by decide)) fun t p e1 => .and (Fol.names hs (by decide) p) fun ss p e2 => .and (Fol.names hs (by decide) p) fun ms p e3 => .and (.rd hs (by decide) (by decide)) fun k p _ => by
    have h1 := (rdB_ok e1 (by decide)).2.2.2
    have h2 := (namesM_len e2).2
    have h3 := (namesM_len e3).2
    have h4 : ms.length * ss.length ≤ 6 * 4 := Nat.mul_le_mul h3 h2
    exact .and (Fol.robs hs (by omega) k p) fun _ p _ => .and (Fol.floor hs (by omega) t p) fun _ p _ => .and (.rd hs (by decide) (by rw [← Int.natCast_mul]; omega)) fun k p _ => Fol.rulesL hs (by omega) (by omega) k 0 0 p
/-- a list that begins like one that is decoded, and goes wrong at a place -/
theorem dec_bad {L L' : List V} {n m : Nat} (hs : ∀ i < n, L'[i]? = L[i]?) (hd : decM L = .ok ((), m)) (hn : n < m) (hb : Bad L' n) : decM L' = .error n := by
  unfold decM at hd ⊢
  cases e : bodyM L with
  | error x => rw [e] at hd; cases hd
  | ok y =>
    obtain ⟨u, p⟩ := y
    rw [e] at hd
    have hd : andB (sumM L p) (fun _ p1 => if p1 < L.length then .error p1 else .ok ((), p1)) = .ok ((), m) := hd
    obtain ⟨_, f2, f3⟩ := Fol.body (n := n) hs u p e
    rcases Nat.lt_or_ge n p with z | z
    · rw [f3 z (Nat.zero_le _) hb]
      rfl
    · rw [f2 z]
      rw [andB_ok]
      cases e2 : sumM L p with
      | error x => rw [e2] at hd; cases hd
      | ok y =>
        obtain ⟨b, p1⟩ := y
        rw [e2] at hd
        have hd : (if p1 < L.length then Except.error p1 else .ok ((), p1)) = .ok ((), m) := hd
        split at hd
        · cases hd
        · cases hd
          unfold sumM at e2
          obtain ⟨h1, _⟩ := rdB_ok e2 (Int.emod_nonneg _ (by decide))
          obtain rfl : p = n := by omega
          unfold sumM
          rw [hb _ _ (Int.emod_nonneg _ (by decide)) (by have := Int.emod_lt_of_pos (sumI (L'.take p)) (show (0 : Int) < 256 by decide); omega)]
          rfl
theorem take_same {L L' : List V} {n p : Nat} (hs : ∀ i < n, L'[i]? = L[i]?) (hp : p ≤ n) : L'.take p = L.take p := by
  apply List.ext_getElem?
  intro i
  rw [List.getElem?_take, List.getElem?_take]
  split
  · exact hs i (by omega)
  · rfl
/-- .. and is longer -/
theorem dec_more {L L' : List V} {m : Nat} (hs : ∀ i < m, L'[i]? = L[i]?) (hd : decM L = .ok ((), m)) (hl : m < L'.length) : decM L' = .error m := by
  unfold decM at hd ⊢
  cases e : bodyM L with
  | error x => rw [e] at hd; cases hd
  | ok y =>
    obtain ⟨u, p⟩ := y
    rw [e] at hd
    have hd : andB (sumM L p) (fun _ p1 => if p1 < L.length then .error p1 else .ok ((), p1)) = .ok ((), m) := hd
    cases e2 : sumM L p with
    | error x => rw [e2] at hd; cases hd
    | ok y =>
      obtain ⟨b, p1⟩ := y
      rw [e2] at hd
      have hd : (if p1 < L.length then Except.error p1 else .ok ((), p1)) = .ok ((), m) := hd
      split at hd
      · cases hd
      · cases hd
        have e2' := e2
        unfold sumM at e2
        obtain ⟨rfl, h2, _⟩ := rdB_ok e2 (Int.emod_nonneg _ (by decide))
        obtain ⟨_, f2, _⟩ := Fol.body (n := p + 1) hs u p e
        rw [f2 (by omega)]
        rw [andB_ok]
        have e3 : sumM L' p = .ok (b, p + 1) := by
          unfold sumM
          rw [take_same hs (by omega), rdB_cong (hs p (by omega))]
          exact e2
        rw [e3]
        show (if p + 1 < L'.length then Except.error (p + 1) else .ok ((), p + 1)) = _
        rw [if_pos hl]
/-- .. and has another sum -/
theorem dec_sum {L L' : List V} {m : Nat} {i j : Int} (hs : ∀ i < m, L'[i]? = L[i]?) (hd : decM L = .ok ((), m + 1)) (h1 : L[m]? = some (.int i)) (h2 : L'[m]? = some (.int j)) (hij : i ≠ j) : decM L' = .error m := by
  unfold decM at hd ⊢
  cases e : bodyM L with
  | error x => rw [e] at hd; cases hd
  | ok y =>
    obtain ⟨u, p⟩ := y
    rw [e] at hd
    have hd : andB (sumM L p) (fun _ p1 => if p1 < L.length then .error p1 else .ok ((), p1)) = .ok ((), m + 1) := hd
    cases e2 : sumM L p with
    | error x => rw [e2] at hd; cases hd
    | ok y =>
      obtain ⟨b, p1⟩ := y
      rw [e2] at hd
      have hd : (if p1 < L.length then Except.error p1 else .ok ((), p1)) = .ok ((), m + 1) := hd
      split at hd
      · cases hd
      · cases hd
        unfold sumM at e2
        obtain ⟨h3, h4, h5, h6⟩ := rdB_ok e2 (Int.emod_nonneg _ (by decide))
        obtain rfl : m = p := by omega
        obtain ⟨_, f2, _⟩ := Fol.body (n := m) hs u m e
        rw [f2 (by omega)]
        rw [andB_ok]
        have e3 : sumM L' m = .error m := by
          unfold sumM
          rw [take_same hs (by omega)]
          rw [h1] at h4
          cases h4
          unfold rdB
          rw [h2]
          show (if (decide (_ ≤ j) && decide (j ≤ _)) = true then _ else _) = _
          rw [if_neg]
          intro z
          rw [Bool.and_eq_true, decide_eq_true_eq, decide_eq_true_eq] at z
          omega
        rw [e3]
        rfl
end Sw

end

section
set_option maxRecDepth 100000
set_option maxHeartbeats 4000000
set_option pp.deepTerms false
set_option pp.deepTerms.threshold 7
/-! the code of a plan is decoded (plain) -/
namespace Sw
open PySem PySem.Spec PyProof.Rows L2 SwA
theorem rd_at {bs rest : List Nat} {p b : Nat} {lo hi : Int} (h : bs.drop p = b :: rest) (h1 : lo ≤ b) (h2 : (b : Int) ≤ hi) : rdB (iVs bs) lo hi p = .ok (b, p + 1) := by
  refine rdB_at ?_ h1 h2
  rw [List.getElem?_map, (drop_at (l := []) h).1]
  rfl
theorem letters_at {bs : List Nat} : ∀ {w : Cs} {rest : List Nat} {p : Nat}, bs.drop p = w.map (· - 97) ++ rest → (∀ c ∈ w, isL c = true) → lettersM (iVs bs) w.length p = .ok (w, p + w.length)
  | [], _, _, _, _ => rfl
  | c :: w, rest, p, h, hw => by
    have h : bs.drop p = (c - 97) :: (w.map (· - 97) ++ rest) := h
    have hc : 97 ≤ c ∧ c ≤ 122 := by
      have := hw c List.mem_cons_self
      unfold isL at this
      simpa using this
    have h2 := (drop_at (l := []) h).2
    show andB (rdB (iVs bs) 0 25 p) _ = _
    rw [rd_at h (by omega) (by omega), andB_ok, letters_at h2 fun d hd => hw d (List.mem_cons_of_mem _ hd), andB_ok]
    rw [show c - 97 + 97 = c by omega, List.length_cons, show p + 1 + w.length = p + (w.length + 1) by omega]
theorem name_at {bs rest : List Nat} {w : Cs} {ns : List Cs} {p : Nat} (h : bs.drop p = wordB w ++ rest) (ok : NameOk w) (hn : w ∉ ns) : nameM (iVs bs) ns p = .ok (w, p + (wordB w).length) := by
  have h : bs.drop p = w.length :: (w.map (· - 97) ++ rest) := h
  have h2 := (drop_at (l := []) h).2
  unfold nameM
  rw [rd_at h (by have := ok.1.2.1; omega) (by have := ok.1.2.2; omega), andB_ok, letters_at h2 ok.1.1, andB_ok]
  have e : (kws.contains w || ns.contains w) = false := by
    rw [Bool.or_eq_false_iff]
    refine ⟨?_, ?_⟩
    · rw [← Bool.not_eq_true, List.contains_iff_mem]
      exact ok.2
    · rw [← Bool.not_eq_true, List.contains_iff_mem]
      exact hn
  rw [e, if_neg (by decide)]
  unfold wordB
  rw [List.length_cons, List.length_map, show p + 1 + w.length = p + (w.length + 1) by omega]
theorem namesL_at {bs : List Nat} : ∀ {ws : List Cs} {ns : List Cs} {rest : List Nat} {p : Nat}, bs.drop p = (ws.map wordB).flatten ++ rest → (∀ w ∈ ws, NameOk w) → (ns ++ ws).Nodup → namesL (iVs bs) ws.length ns p = .ok (ns ++ ws, p + (ws.map wordB).flatten.length)
  | [], ns, _, _, _, _, _ => by rw [List.append_nil]; rfl
  | w :: ws, ns, rest, p, h, ok, nd => by
    rw [List.map_cons, List.flatten_cons, List.append_assoc] at h
    have hn : w ∉ ns := fun z => by
      have := (List.nodup_append.mp nd).2.2 w z w List.mem_cons_self
      exact this rfl
    show andB (nameM (iVs bs) ns p) _ = _
    rw [name_at h (ok w List.mem_cons_self) hn, andB_ok]
    have nd2 : (ns ++ [w] ++ ws).Nodup := by rw [List.append_assoc]; exact nd
    rw [namesL_at (drop_app h) (fun v hv => ok v (List.mem_cons_of_mem _ hv)) nd2, List.append_assoc, List.map_cons, List.flatten_cons, List.length_append, Nat.add_assoc]
    rfl
theorem namesM_at {bs rest : List Nat} {ws : List Cs} {most p : Nat} (h : bs.drop p = namesB ws ++ rest) (ok : NamesOk ws) (h1 : ws ≠ []) (hm : ws.length ≤ most) : namesM (iVs bs) most p = .ok (ws, p + (namesB ws).length) := by
  have h : bs.drop p = ws.length :: ((ws.map wordB).flatten ++ rest) := h
  have h2 := (drop_at (l := []) h).2
  have h3 : ws.length ≠ 0 := fun z => h1 (List.length_eq_zero_iff.mp z)
  unfold namesM
  rw [rd_at h (by omega) (by omega), andB_ok, namesL_at h2 ok.ok (by rw [List.nil_append]; exact ok.nd), List.nil_append]
  unfold namesB
  rw [List.length_cons, show p + 1 + (ws.map wordB).flatten.length = p + ((ws.map wordB).flatten.length + 1) by omega]
theorem robs_at {bs : List Nat} {n : Nat} : ∀ {rs : List (Nat × Bool)} {rest : List Nat} {p : Nat}, bs.drop p = (rs.map robB).flatten ++ rest → (∀ r ∈ rs, r.1 < n) → robsM (iVs bs) n rs.length p = .ok ((), p + (rs.map robB).flatten.length)
  | [], _, _, _, _ => rfl
  | r :: rs, rest, p, h, hr => by
    have h : bs.drop p = r.1 :: (if r.2 then 1 else 0) :: ((rs.map robB).flatten ++ rest) := h
    have h2 := (drop_at (l := []) h).2
    have h3 := (drop_at (l := []) h2).2
    have h4 := hr r List.mem_cons_self
    show andB (rdB (iVs bs) 0 ((n : Int) - 1) p) _ = _
    rw [rd_at h (by omega) (by omega), andB_ok, rd_at h2 (by omega) (by cases r.2 <;> simp), andB_ok, robs_at h3 fun q hq => hr q (List.mem_cons_of_mem _ hq), List.map_cons, List.flatten_cons, List.length_append]
    rw [show (robB r).length = 2 from rfl, show p + 1 + 1 + (rs.map robB).flatten.length = p + (2 + (rs.map robB).flatten.length) by omega]
theorem floor_at {bs : List Nat} {g : Nat} : ∀ {fl : List Nat} {rest : List Nat} {p : Nat}, bs.drop p = fl ++ rest → (∀ x ∈ fl, x < g) → floorM (iVs bs) g fl.length p = .ok ((), p + fl.length)
  | [], _, _, _, _ => rfl
  | x :: fl, rest, p, h, hx => by
    have h : bs.drop p = x :: (fl ++ rest) := h
    have h2 := (drop_at (l := []) h).2
    have h4 := hx x List.mem_cons_self
    show andB (rdB (iVs bs) 0 ((g : Int) - 1) p) _ = _
    rw [rd_at h (by omega) (by omega), andB_ok, floor_at h2 fun q hq => hx q (List.mem_cons_of_mem _ hq), List.length_cons, show p + 1 + fl.length = p + (fl.length + 1) by omega]
theorem sorted_tail {kv : (Nat × Nat) × Rule} {rs : List ((Nat × Nat) × Rule)} (h : SortedR (kv :: rs)) : SortedR rs ∧ ∀ kv' ∈ rs, kv.1.1 < kv'.1.1 ∨ (kv.1.1 = kv'.1.1 ∧ kv.1.2 < kv'.1.2) := by
  unfold SortedR at h ⊢
  rw [List.map_cons, List.pairwise_cons] at h
  exact ⟨h.2, fun kv' hk => h.1 _ (List.mem_map_of_mem hk)⟩
theorem rules_at {bs : List Nat} {m g : Nat} : ∀ {rs : List ((Nat × Nat) × Rule)} {rest : List Nat} {p le fi : Nat}, bs.drop p = (rs.map ruleB).flatten ++ rest → (∀ kv ∈ rs, RuleOk g m kv) → SortedR rs → (∀ kv, rs.head? = some kv → le ≤ kv.1.1 ∧ (kv.1.1 = le → fi ≤ kv.1.2)) →
    rulesL (iVs bs) m g rs.length le fi p = .ok ((), p + (rs.map ruleB).flatten.length)
  | [], _, _, _, _, _, _, _, _ => rfl
  | kv :: rs, rest, p, le, fi, h, ok, so, hh => by
    have h : bs.drop p = kv.1.1 :: kv.1.2 :: kv.2.left :: moveI kv.2.move :: kv.2.later :: ((rs.map ruleB).flatten ++ rest) := h
    have h2 := (drop_at (l := []) h).2
    have h3 := (drop_at (l := []) h2).2
    have h4 := (drop_at (l := []) h3).2
    have h5 := (drop_at (l := []) h4).2
    have h6 := (drop_at (l := []) h5).2
    have rk := ok kv List.mem_cons_self
    have k1 := rk.k1
    have k2 := rk.k2
    have k3 := rk.l
    have k4 := rk.la
    have k5 := (move_ix (H := fun _ => none) rk.mv).2
    obtain ⟨hL, hF⟩ := hh kv rfl
    obtain ⟨so2, nx⟩ := sorted_tail so
    have ok2 : ∀ kv' ∈ rs, RuleOk g m kv' := fun q hq => ok q (List.mem_cons_of_mem _ hq)
    have hfi : (((if kv.1.1 = le then fi else 0 : Nat)) : Int) ≤ ((kv.1.2 : Nat) : Int) := by
      split
      · rename_i z
        have := hF z
        omega
      · omega
    show andB (rdB (iVs bs) le ((m : Int) - 1) p) _ = _
    rw [rd_at h (by omega) (by omega), andB_ok, rd_at h2 hfi (by omega), andB_ok, rd_at h3 (by omega) (by omega), andB_ok, rd_at h4 (by omega) (by omega), andB_ok, rd_at h5 (by omega) (by omega), andB_ok]
    have hl : p + ((kv :: rs).map ruleB).flatten.length = p + 1 + 1 + 1 + 1 + 1 + (rs.map ruleB).flatten.length := by
      rw [List.map_cons, List.flatten_cons, List.length_append, show (ruleB kv).length = 5 from rfl]
      omega
    rw [hl]
    split
    · rename_i z
      refine rules_at h6 ok2 so2 fun kv' hk => ?_
      have := nx kv' (List.mem_of_mem_head? hk)
      omega
    · rename_i z
      refine rules_at h6 ok2 so2 fun kv' hk => ?_
      have h7 := nx kv' (List.mem_of_mem_head? hk)
      have h8 := (ok2 kv' (List.mem_of_mem_head? hk)).k2
      omega
theorem sumI_nats (l : List Nat) : sumI (iVs l) = ((l.sum : Nat) : Int) := by
  unfold sumI
  induction l with
  | nil => rfl
  | cons a r ih =>
    show ((a : Int) :: (iVs r).map valI).sum = _
    rw [List.sum_cons, ih, List.sum_cons]
    omega
theorem dec_valid {pl : Plan} (wf : WfP pl) (so : SortedR pl.rules) : decM (iVs (codeB pl)) = .ok ((), (codeB pl).length) := by
  have hcode : codeB pl = 82 :: pl.floor.length :: (namesB pl.signs ++ (namesB pl.moods ++ (pl.robots.length :: ((pl.robots.map robB).flatten ++ (pl.floor ++ (pl.rules.length :: ((pl.rules.map ruleB).flatten ++ [(bodyB pl).sum % 256]))))))) := by
    unfold codeB
    conv => lhs; arg 1; unfold bodyB
    simp only [List.append_assoc, List.cons_append, List.nil_append]
  have hbl : (codeB pl).length = (bodyB pl).length + 1 := by unfold codeB; simp
  have htk : (codeB pl).take (bodyB pl).length = bodyB pl := by
    unfold codeB
    rw [List.take_left']
    rfl
  have hdl : (codeB pl).drop (bodyB pl).length = (bodyB pl).sum % 256 :: [] := by
    unfold codeB
    rw [List.drop_left']
    rfl
  generalize hck : (bodyB pl).sum % 256 = ck at *
  have hck2 : ck < 256 := by omega
  generalize hcd : codeB pl = cd at *
  have d0 : cd.drop 0 = 82 :: (pl.floor.length :: (namesB pl.signs ++ (namesB pl.moods ++ (pl.robots.length :: ((pl.robots.map robB).flatten ++ (pl.floor ++ (pl.rules.length :: ((pl.rules.map ruleB).flatten ++ [ck])))))))) := by rw [List.drop_zero, hcode]
  have d1 := (drop_at (l := []) d0).2
  have d2 := (drop_at (l := []) d1).2
  have d3 := drop_app d2
  have d4 := drop_app d3
  have d5 := (drop_at (l := []) d4).2
  have d6 := drop_app d5
  have d7 := drop_app d6
  have d8 := (drop_at (l := []) d7).2
  have h16 := wf.n16
  have hn1 := wf.n1
  have hr3 := wf.r3
  have hs4 := wf.s4
  have hm6 := wf.m6
  have hr1 : pl.robots.length ≠ 0 := fun z => wf.r1 (List.length_eq_zero_iff.mp z)
  have hmost := rules_most wf.ru so
  have hlen2 : (bodyB pl).length = 2 + (namesB pl.signs).length + (namesB pl.moods).length + 1 + (pl.robots.map robB).flatten.length + pl.floor.length + 1 + (pl.rules.map ruleB).flatten.length := by
    have := congrArg List.length hcode
    simp only [List.length_cons, List.length_append, List.length_nil] at this
    omega
  have hbody : bodyM (iVs cd) = .ok ((), (bodyB pl).length) := by
    unfold bodyM
    rw [rd_at d0 (by decide) (by decide), andB_ok, rd_at d1 (by omega) (by omega), andB_ok, namesM_at d2 wf.sN wf.s1 hs4, andB_ok, namesM_at d3 wf.mN wf.m1 hm6, andB_ok, rd_at d4 (by omega) (by omega), andB_ok, robs_at d5 wf.rt, andB_ok, floor_at d6 wf.fl, andB_ok]
    unfold rulesM
    rw [rd_at d7 (by omega) (by rw [← Int.natCast_mul]; omega), andB_ok, rules_at d8 wf.ru so (fun _ _ => ⟨Nat.zero_le _, fun _ => Nat.zero_le _⟩)]
    congr 2
    omega
  unfold decM
  rw [hbody, andB_ok]
  have hs : sumM (iVs cd) (bodyB pl).length = .ok (ck, (bodyB pl).length + 1) := by
    unfold sumM
    have e : sumI ((iVs cd).take (bodyB pl).length) % 256 = (ck : Int) := by
      rw [← List.map_take, htk, sumI_nats]
      omega
    rw [e]
    exact rd_at hdl (by omega) (by omega)
  rw [hs, andB_ok, if_neg (by rw [List.length_map, hbl]; omega), hbl]
end Sw

end

section
set_option maxRecDepth 100000
set_option maxHeartbeats 4000000
/-! a method call whose exceptions' wish reads the slots -/
namespace Sw
open PySem PySem.Spec PyProof.Rows L2 SwA
/-- o.m(e, ..): what it may let out, at the slots -/
def tMethE (C : Addr) (m : Str) (sp : Sp) (E : L2.St → XK) (ta : TE) (t : TA) : TE := fun σ H Q => ta σ H fun x H1 => ∃ a dx fs, x = .ref a ∧ H1 a = some (.ins C dx fs) ∧ fs.lookup m = none ∧
  t σ H1 fun vs H2 => sp (x :: vs) H2 Q (E σ)
section
variable {X : Cx} {CX : CXT} {k : Nat} {f C : Addr} {fd : FuncData} {ps : List Str} {sp : Sp} {E : L2.St → XK} {m : Str} {pos apos : Pos} {e o : Expr} {es : List Expr} {ta : TE} {t : TA}
theorem pe_methE {pl : Sem Bool} (he : PE X o ta) (c : Cls X.K C) (hm : Meth X.K C m f) (F : FnOk X.prog X.w X.K X.mg X.base CX k f fd ps sp) (hr : Room k X.A) (hb : Binds X.K fd ps []) (hx : ∀ σ, PassesAt CX X σ (E σ)) (ha : L2.PA X (e :: es) t)
    (hst : starEach (e :: es) X.env = (false, eval e X.env) :: starEach es X.env := by rfl) (hpl : (backTo pos (starEach es X.env)).any (·.1) = false := by rfl)
    (ht : eval (.Call (.Attribute o m apos) (e :: es) [] pos) X.env = (do
      let ov ← eval o X.env
      standAt apos.atName
      let (f, first) ← holding [ov] (getMethod ov m pl)
      callWith pos f first (backTo pos (starEach (e :: es) X.env)) (backToKw pos (keywordEach [] X.env))) := by rfl) :
    PE X (.Call (.Attribute o m apos) (e :: es) [] pos) (tMethE C m sp E ta t) := by
  refine ⟨fun pins s σ H Q I h => ?_⟩
  refine PySem.W.methodCall_KW (pl := pl) (thn (he.run pins s σ H _ I h) fun u s1 ⟨x, H1, I1, rx, a, dx, fs, ex, ea, l, q⟩ => ?_) ht
  subst ex
  obtain rfl : u = Value.ref a := rx
  refine getmeth_ok I1 ea c hm l ?_
  refine PySem.W.callWith_K (first := [.ref a]) (h₀ := X.base) I.ok.mod.kin hm.kp (thn (ha.run pos pins s1 σ H1 _ I1 q) fun us s2 ⟨vs, H2, I2, r, q2⟩ => ⟨I2.kIn, ?_⟩) hst hpl
  exact run_fnS (us := .ref a :: us) (vs := .ref a :: vs) F hr hb (hx σ) I2 (.cons rfl r) q2
end
end Sw

end

section
set_option maxRecDepth 100000
set_option maxHeartbeats 4000000
set_option pp.deepTerms false
set_option pp.deepTerms.threshold 7
/-! Reader of any list: what it reads, or the place at which it stops -/
namespace Sw
open PySem PySem.Spec PyProof.Rows L2 SwA
structure IcoT (K : PySem.W.Frag) (mg : Str → Option Value) : Prop where
  base : BaseT K mg
  op : ExcC K mg "InvalidCode" ["place"]
  d : FD K ("InvalidCode", some "__init__") "__init__" "InvalidCode.__init__" s_InvalidCode_init
structure RdxT (K : PySem.W.Frag) (mg : Str → Option Value) : Prop where
  r : RdT K mg
  ico : IcoT K mg
/-- InvalidCode is raised at a place; but r all stands -/
def PlC (K : PySem.W.Frag) (r : Addr) (H : Hp) (E : XK) (i : Nat) : Prop := ∀ (d : Addr) (H' : Hp), But r H H' → H' d = some (.xd [("place", .int i)]) → E (.ref (He.ga K "InvalidCode")) (some d) H'
theorem PlC.mono {K : PySem.W.Frag} {r : Addr} {H H' : Hp} {E : XK} {i : Nat} (h : PlC K r H E i) (b : But r H H') : PlC K r H' E i := fun d H2 b2 e => h d H2 (b.trans b2) e
/-- what comes of a reading -/
def Kt {α : Type} (M : Rd α) (P : α → Nat → Prop) (R : Nat → Prop) : Prop := match M with
  | .ok y => P y.1 y.2
  | .error e => R e
theorem Kt.and {α β : Type} {M : Rd α} {f : α → Nat → Rd β} {P : β → Nat → Prop} {R : Nat → Prop} (h : Kt (andB M f) P R) : Kt M (fun a q => Kt (f a q) P R) R := by
  cases M with
  | ok y => exact h
  | error e => exact h
theorem Kt.imp {α : Type} {M : Rd α} {P P' : α → Nat → Prop} {R R' : Nat → Prop} (h : Kt M P R) (h1 : ∀ a q, M = .ok (a, q) → P a q → P' a q) (h2 : ∀ e, M = .error e → R e → R' e) : Kt M P' R' := by
  cases M with
  | ok y => exact h1 y.1 y.2 rfl h
  | error e => exact h2 e rfl h
theorem Kt.ok {α : Type} {a : α} {q : Nat} {P : α → Nat → Prop} {R : Nat → Prop} (h : Kt (.ok (a, q)) P R) : P a q := h
theorem Kt.err {α : Type} {e : Nat} {P : α → Nat → Prop} {R : Nat → Prop} (h : Kt (.error e) P R) : R e := h
def RdV (K : PySem.W.Frag) (H : Hp) (r c : Addr) (L : List V) (p : Nat) : Prop := (∃ dx, H r = some (.ins (He.ga K "Reader") dx (rdFs c p))) ∧ H c = some (.lst L)
def KnL (K : PySem.W.Frag) (H : Hp) (L : List V) : Prop := L.length ≤ 10000 ∧ ∀ v ∈ L, ∃ n, ArN K H v n
section
variable {K : PySem.W.Frag} {H H' : Hp} {r c : Addr} {L : List V} {p : Nat}
theorem RdV.keep (h : RdV K H r c L p) (s : Same H H') : RdV K H' r c L p := let ⟨⟨dx, a⟩, b⟩ := h; ⟨⟨dx, s _ _ a⟩, s _ _ b⟩
theorem RdV.put {x : Addr} {o : HO} (h : RdV K H r c L p) (xr : x ≠ r) (xc : x ≠ c) : RdV K (upd H x o) r c L p := let ⟨⟨dx, a⟩, b⟩ := h; ⟨⟨dx, (upd_ne (Ne.symm xr)).trans a⟩, (upd_ne (Ne.symm xc)).trans b⟩
theorem RdV.ner {x : Addr} (h : RdV K H r c L p) (n : H x = none) : x ≠ r ∧ x ≠ c := let ⟨⟨_, a⟩, b⟩ := h; ⟨(fun z => by rw [z, a] at n; cases n), (fun z => by rw [z, b] at n; cases n)⟩
theorem RdV.tup (h : RdV K H r c L p) (b : But r H H') : ∀ a xs, H a = some (.tup xs) → H' a = some (.tup xs) := fun a xs e => b a _ (fun z => by
  obtain ⟨⟨_, q⟩, _⟩ := h
  rw [z, q] at e
  cases e) e
theorem KnL.keep {dx : Addr} {fs : List (Str × V)} {C : Addr} (h : KnL K H L) (hr : H r = some (.ins C dx fs)) (b : But r H H') : KnL K H' L := ⟨h.1, fun v hv => by
  have n : ∀ {a : Addr} {o : HO}, H a = some o → (∀ C dx fs, o ≠ .ins C dx fs) → H' a = some o := fun e z => b _ _ (fun q => by
    rw [q, hr] at e
    exact z _ _ _ (Option.some.inj e).symm) e
  obtain ⟨n1, q⟩ := h.2 v hv
  cases q with
  | int i => exact ⟨_, .int i⟩
  | bl b => exact ⟨_, .bl b⟩
  | non => exact ⟨_, .non⟩
  | str z => exact ⟨_, .str z⟩
  | tup e => exact ⟨_, .tup (n e (by intro _ _ _ z; cases z))⟩
  | lst e => exact ⟨_, .lst (n e (by intro _ _ _ z; cases z))⟩⟩
theorem KnL.putL {x : Addr} {xs ys : List V} (h : KnL K H L) (hx : H x = some (.lst xs)) : KnL K (upd H x (.lst ys)) L := ⟨h.1, fun v hv => by
  obtain ⟨n1, q⟩ := h.2 v hv
  cases q with
  | int i => exact ⟨_, .int i⟩
  | bl b => exact ⟨_, .bl b⟩
  | non => exact ⟨_, .non⟩
  | str z => exact ⟨_, .str z⟩
  | tup e => exact ⟨_, .tup ((upd_ne fun z => by rw [z, hx] at e; cases e).trans e)⟩
  | @lst a us e =>
    by_cases z : a = x
    · rw [z]
      exact ⟨_, .lst upd_same⟩
    · exact ⟨_, .lst ((upd_ne z).trans e)⟩⟩
theorem rdB_val {lo hi : Int} {v : V} (h : L[p]? = some v) (h0 : 0 ≤ lo) : (isIntIn v lo hi = true → ∃ b : Nat, v = .int b ∧ rdB L lo hi p = .ok (b, p + 1)) ∧ (isIntIn v lo hi = false → rdB L lo hi p = .error p) := by
  constructor
  · intro z
    cases v with
    | int i =>
      have z : (decide (lo ≤ i) && decide (i ≤ hi)) = true := z
      rw [Bool.and_eq_true, decide_eq_true_eq, decide_eq_true_eq] at z
      have e : ((i.toNat : Nat) : Int) = i := Int.toNat_of_nonneg (by omega)
      exact ⟨i.toNat, by rw [e], rdB_at (by rw [e]; exact h) (by omega) (by omega)⟩
    | _ => cases z
  · intro z
    unfold rdB
    rw [h]
    cases v with
    | int i =>
      have z : (decide (lo ≤ i) && decide (i ≤ hi)) = false := z
      show (if (decide (lo ≤ i) && decide (i ≤ hi)) = true then _ else _) = _
      rw [z]
      rfl
    | _ => rfl
theorem rdB_end {lo hi : Int} : rdB L lo hi L.length = .error L.length := by
  unfold rdB
  rw [List.getElem?_eq_none (Nat.le_refl _)]
theorem rdB_le {lo hi : Int} {b q : Nat} (h : rdB L lo hi p = .ok (b, q)) (h0 : 0 ≤ lo) : q ≤ L.length := by
  obtain ⟨rfl, h2, _⟩ := rdB_ok h h0
  exact (List.getElem?_eq_some_iff.mp h2).1
end
section
variable {P : Program} {w : World} {K : PySem.W.Frag} {mg : Str → Option Value} {base : Heap}
theorem sc_ico : FnScope ["self", "place"] ["self", "place"] (defScope s_InvalidCode_init) := ⟨rfl, rfl, rfl, by decide +kernel, rfl, by decide +kernel, by decide +kernel⟩
theorem ok_ico (T : IcoT K mg) : FnE P w K mg base CX0 1 ("InvalidCode", some "__init__") ["self", "place"] (spFault (He.ga K "InvalidCode") ["place"]) := by
  obtain ⟨fd, F⟩ := T.d
  refine ⟨fd, F.ok sc_ico (fun vs H Q E h => ?_) (fun cdv A outer s H vs Q E hr h => ?_), F.bindsN fun _ _ _ _ _ _ us hl => match us, hl with | [_, _], _ => rfl, F.kp⟩
  · obtain ⟨a, args, rfl, e, _⟩ := h
    simp [e]
  · obtain ⟨a, args, rfl, e, ha, k⟩ := h
    obtain ⟨v1, rfl⟩ : ∃ v1, args = [v1] := by
      match args, e with
      | [v1], _ => exact ⟨v1, rfl⟩
    refine ⟨_, PSs.nox (pss_cons (ps_expr (pe_ownveinit rfl T.base.g T.base.cr T.base.vv (pa_cons (pv 0) (pa_cons (pv 1) pa_nil))))
      (pss_one (ps_ost (pv 0) (pv 1)))), ?_⟩
    refine ⟨_, rfl, _, rfl, a, _, _, rfl, by simp, T.op.o, ha, ?_⟩
    refine ⟨_, rfl, _, rfl, a, _, rfl, T.op.o, T.op.n _ (by simp), Or.inl ⟨ha, fun dx ndx da => ?_⟩⟩
    exact k dx _ ndx da upd_same (by rw [upd_ne da, upd_same]; rfl) fun b h1 h2 => by rw [upd_ne h1, upd_ne h2]
/-! ### read_byte -/
def spByteX (K : PySem.W.Frag) : Sp := fun vs H Q E => ∃ (r c : Addr) (L : List V) (p : Nat) (lo hi : Int), vs = [.ref r, .int lo, .int hi] ∧ RdV K H r c L p ∧ p ≤ L.length ∧ KnL K H L ∧ 0 ≤ lo ∧
  Kt (rdB L lo hi p) (fun b q => ∀ H' : Hp, But r H H' → RdV K H' r c L q → Q (.int b) H') (fun e => PlC K r H E e)
theorem sc_byteX : FnScope ["self", "low", "high"] ["self", "low", "high"] (defScope s_Reader_read_byte) := ⟨rfl, rfl, rfl, by decide +kernel, rfl, by decide +kernel, by decide +kernel⟩
theorem ok_byteX (T : RdxT K mg) : FnE P w K mg base (L2.CX P w) 3 ("Reader", some "read_byte") ["self", "low", "high"] (spByteX K) := by
  obtain ⟨fd, F⟩ := T.r.read_byte.d
  obtain ⟨fdI, GI, bI, kI⟩ := ok_int_in (P := P) (w := w) (base := base) T.r.i
  obtain ⟨fdZ, GZ, bZ, kZ⟩ := ok_ico (P := P) (w := w) (base := base) T.ico
  refine ⟨fd, F.ok sc_byteX (fun vs H Q E h => ?_) (fun cdv A outer s H vs Q E hr h => ?_), F.bindsN fun _ _ _ _ _ _ us hl => match us, hl with | [_, _, _], _ => rfl, F.kp⟩
  · obtain ⟨r, c, L, p, lo, hi, rfl, _⟩ := h
    rfl
  · obtain ⟨r, c, L, p, lo, hi, rfl, ⟨⟨dx, hr0⟩, hc⟩, hp, hkn, h0, kt⟩ := h
    have hr1 : Room 1 _ := hr.mono (by decide)
    have hr2 : Room 2 _ := hr.mono (by decide)
    have cl := T.r.rd.c
    have nat : ∀ f ∈ (["code", "place"] : List Str), NoAttr K (He.ga K "Reader") f := T.r.rd.n
    have rc : c ≠ r := fun z => by rw [z, hr0] at hc; cases hc
    have hlen := hkn.1
    refine ⟨_, (pss_cons (ps_if (PW.pt (pw_or (pt_cmpR op_eq (pe_fld (pv 0) rfl) (pe_callB call_len_seq (by rfl) T.r.e.f.lo.p.l.len boot_len (pa_cons (pe_fld (pv 0) rfl) pa_nil)) (nomark _)) (pw_or1 (pt_not (pt_val (pe_call GI hr1 rfl T.r.i.is_int_in.g kI bI .nil pass0 (pa_cons (pe_ix ix_list (pe_fld (pv 0) rfl) (pe_fld (pv 0) rfl) (fun _ _ => rfl)) (pa_cons (pv 1) (pa_cons (pv 2) pa_nil)))))))))
        (pss_one (ps_raise rfl (takes_of rfl rfl rfl rfl) (pmk_oex T.ico.op.o T.ico.op.i T.ico.op.t GZ hr2 bZ .nil pass0 rfl T.ico.op.g (pa_cons (pe_fld (pv 0) rfl) pa_nil)))) pss_nil)
      (pss_cons (ps_fldaug (pv 0) pe_int in_add)
      (pss_one (ps_ret (pe_ix ix_list (pe_fld (pv 0) rfl) (pe_op op_sub (pe_fld (pv 0) rfl) pe_int) (fun _ _ => rfl)))))), ?_⟩
    have hfault : ∀ (H1 : Hp), Same H H1 → rdB L lo hi p = .error p → PlC K r H1 E p := fun H1 s1 e => by
      rw [e] at kt
      exact PlC.mono kt (.of s1)
    refine ⟨_, rfl, r, _, dx, _, _, rfl, hr0, cl, nat _ (by simp), lrd_place, _, rfl, r, _, dx, _, _, rfl, hr0, cl, nat _ (by simp), lrd_code, c, _, rfl, .inl (SqL.of hc), rfl, _, rfl, ?_⟩
    by_cases hpe : p = L.length
    · rw [show decide (V.int (p : Nat) = V.int (L.length : Nat)) = true from decide_eq_true (by rw [hpe])]
      refine iteT ?_
      refine iteT ?_
      refine ⟨_, rfl, r, _, dx, _, _, rfl, hr0, cl, nat _ (by simp), lrd_place, ?_⟩
      exact fault_at rfl (by simp) fun d H2 nd s e => hfault H (Same.refl _) (by rw [hpe]; exact rdB_end) d H2 (.of s) e
    have d1 : decide (V.int (p : Nat) = V.int (L.length : Nat)) = false := decide_eq_false fun z => by
      injection z with z
      omega
    rw [d1]
    refine iteF ?_
    obtain ⟨v, hv⟩ : ∃ v, L[p]? = some v := ⟨_, List.getElem?_eq_getElem (by omega)⟩
    obtain ⟨n, hn⟩ := hkn.2 v (List.mem_of_getElem? hv)
    obtain ⟨v1, v2⟩ := rdB_val (hi := hi) hv h0
    refine ⟨_, rfl, r, _, dx, _, _, rfl, hr0, cl, nat _ (by simp), lrd_code, _, rfl, r, _, dx, _, _, rfl, hr0, cl, nat _ (by simp), lrd_place, c, _, _, _, rfl, rfl, SqL.of hc, atI_nat hv, _, rfl, _, rfl, _, _, _, _, rfl, hn, _, rfl, ?_⟩
    cases hb : isIntIn v lo hi with
    | false =>
      refine iteT ?_
      refine ⟨_, rfl, r, _, dx, _, _, rfl, hr0, cl, nat _ (by simp), lrd_place, ?_⟩
      exact fault_at rfl (by simp) fun d H2 nd s e => hfault H (Same.refl _) (v2 hb) d H2 (.of s) e
    | true =>
      obtain ⟨b, rfl, eb⟩ := v1 hb
      refine iteF ?_
      refine ⟨_, rfl, r, _, dx, _, _, rfl, hr0, cl, nat _ (by simp), lrd_place, _, _, rfl, rfl, dx, _, hr0, (by show 2 < 1000; decide), ?_⟩
      rw [put_place]
      have ep : (((p : Nat) : Int) + 1) = ((p + 1 : Nat) : Int) := by omega
      rw [ep]
      have bu := @But.upd r H (.ins (He.ga K "Reader") dx (rdFs c (p + 1)))
      have hr1' := @upd_same H r (.ins (He.ga K "Reader") dx (rdFs c (p + 1)))
      have hc1 : (upd H r (.ins (He.ga K "Reader") dx (rdFs c (p + 1)))) c = some (.lst L) := bu _ _ rc hc
      generalize upd H r (.ins (He.ga K "Reader") dx (rdFs c (p + 1))) = H1 at *
      refine ⟨_, rfl, r, _, dx, _, _, rfl, hr1', cl, nat _ (by simp), lrd_code, _, rfl, r, _, dx, _, _, rfl, hr1', cl, nat _ (by simp), lrd_place, _, _, rfl, rfl, ?_⟩
      have eq : (((p + 1 : Nat) : Int) - 1) = ((p : Nat) : Int) := by omega
      show rIxL K (.ref c) (.int (((p + 1 : Nat) : Int) - 1)) H1 _
      rw [eq]
      rw [eb] at kt
      exact ⟨c, _, _, _, rfl, rfl, SqL.of hc1, atI_nat hv, kt H1 bu ⟨⟨dx, hr1'⟩, hc1⟩⟩
/-! ### read_names -/
theorem letter_ix {b : Nat} (h : b ≤ 25) : atI ("abcdefghijklmnopqrstuvwxyz" : Str).cps.toList ((b : Nat) : Int) = some (b + 97) := by
  have key : ∀ n < 26, ("abcdefghijklmnopqrstuvwxyz" : Str).cps.toList[n]? = some (n + 97) := by decide +kernel
  exact atI_nat (key _ (by omega))
def spRNamesX (K : PySem.W.Frag) : Sp := fun vs H Q E => ∃ (r c : Addr) (L : List V) (p most : Nat), vs = [.ref r, .int most] ∧ RdV K H r c L p ∧ p ≤ L.length ∧ KnL K H L ∧ most ≤ 6 ∧
  Kt (namesM L most p) (fun ws q => ∀ (a : Addr) (H' : Hp), H a = none → But r H H' → RdV K H' r c L q → q ≤ L.length → TupN H' a (ws.map sV) → Q (.ref a) H') (fun e => PlC K r H E e)
theorem sc_rnamesX : FnScope rnN ["self", "most"] (defScope s_Reader_read_names) := ⟨rfl, rfl, rfl, by decide +kernel, rfl, by decide +kernel, by decide +kernel⟩
def teLX (K : PySem.W.Frag) (W : WX) : TE := tOp rIxS (tC (.str "abcdefghijklmnopqrstuvwxyz")) (tMethE (He.ga K "Reader") "read_byte" (spByteX K) (WE W) (tVar 0) (tCons (tC (.int 0)) (tCons (tOp (rI0 fun i j => .int (i - j)) (tCB (fun xs H Q => ∃ z, xs = [V.str z] ∧ z.length ≤ sizeLine ∧ Q (V.int z.length) H) (tCons (tC (.str "abcdefghijklmnopqrstuvwxyz")) tNil)) (tC (.int 1))) tNil)))
theorem ok_rnamesX (T : RdxT K mg) : FnE P w K mg base (L2.CX P w) 4 ("Reader", some "read_names") ["self", "most"] (spRNamesX K) := by
  obtain ⟨fd, F⟩ := T.r.read_names.d
  obtain ⟨tL, mL⟩ := T.r.e.f.lo.p.l.LETTERS
  obtain ⟨tM, mM⟩ := T.r.e.f.lo.p.l.MAX_LETTERS
  obtain ⟨fdB, GB, bB, kB⟩ := ok_byteX (P := P) (w := w) (base := base) T
  obtain ⟨fdZ, GZ, bZ, kZ⟩ := ok_ico (P := P) (w := w) (base := base) T.ico
  refine ⟨fd, F.ok sc_rnamesX (fun vs H Q E h => ?_) (fun cdv A outer s H vs Q E hr h => ?_), F.bindsN fun _ _ _ _ _ _ us hl => match us, hl with | [_, _], _ => rfl, F.kp⟩
  · obtain ⟨r, c, L, p, most, rfl, _⟩ := h
    rfl
  · obtain ⟨r, c, L, p, most, rfl, hR, hp, hkn, hm6, kt⟩ := h
    have hrB : Room 3 _ := hr
    have hr2 : Room 2 _ := hr.mono (by decide)
    have cl := T.r.rd.c
    have nat : ∀ f ∈ (["code", "place"] : List Str), NoAttr K (He.ga K "Reader") f := T.r.rd.n
    refine ⟨_, (pss_cons (ps_set (i := 2) sc_rnamesX.nd rfl (.inl rfl) (pe_lst pa_nil))
      (pss_cons (ps_for (passes_of rfl) rfl (pi_range1 (by rfl) T.r.e.f.lo.p.range (pa_cons (pe_meth (pv 0) T.r.rd.c T.r.read_byte.m GB hrB bB .nil (passes_call (takes_of rfl rfl rfl rfl) (fun _ _ _ _ h => h)) (pa_cons pe_int (pa_cons (pv 1) pa_nil))) pa_nil)) (pg_name (i := 3) sc_rnamesX.nd rfl (.inl rfl))
        (pss_cons (ps_set (i := 4) sc_rnamesX.nd rfl (.inl rfl) (pe_fld (pv 0) rfl))
        (pss_cons (ps_set (i := 5) sc_rnamesX.nd rfl (.inl rfl) (pe_meth (pv 0) T.r.rd.c T.r.read_byte.m GB hrB bB .nil (passes_call (takes_of rfl rfl rfl rfl) (fun _ _ _ _ h => h)) (pa_cons pe_int (pa_cons (pe_glob (v := .int 8) rfl mM ⟨_, rfl⟩) pa_nil))))
        (pss_cons (ps_set (i := 6) sc_rnamesX.nd rfl (.inl rfl) (pe_join pe_str (pe_lcY (own := [("letter", 7)]) (g := gName 7) (tt := tYes) (te := fun W => teLX K W) rfl rfl rfl (takes_of rfl rfl rfl rfl) rfl sc_rnamesX.nd (pi_range1 (by rfl) T.r.e.f.lo.p.range (pa_cons (pv 5) pa_nil)) (blkOk_by (own := [("letter", 7)]) (N := rnN) (sc := defScope s_Reader_read_names) (by decide +kernel)) (fun _ _ _ _ _ => pg_name sc_rnamesX.nd rfl (.inl rfl)) (fun _ _ _ _ _ => pts_nil) (fun W _ _ _ _ _ xe tkF => pe_ix ix_str (pe_glob (v := .str "abcdefghijklmnopqrstuvwxyz") rfl mL ⟨_, rfl⟩) (pe_methE (pv 0) T.r.rd.c T.r.read_byte.m GB hrB bB (passAtG tkF) (pa_cons pe_int (pa_cons (pe_op op_sub (pe_callB call_len_str (by rfl) T.r.e.f.lo.p.l.len boot_len (pa_cons (pe_glob (v := .str "abcdefghijklmnopqrstuvwxyz") rfl mL ⟨_, rfl⟩) pa_nil)) pe_int) pa_nil))) (fun _ _ => rfl)))))
        (pss_cons (ps_if (PW.pt (pw_or (pt_cmpR op_in_seq (pv 6) (pe_glob (v := .ref (He.ga K "KEYWORDS")) rfl T.r.e.f.lo.p.l.KEYWORDS rfl) (by rfl)) (pw_or1 (pt_cmpR op_in_seq (pv 6) (pv 2) (by rfl)))))
          (pss_one (ps_raise rfl (takes_of rfl rfl rfl rfl) (pmk_oex T.ico.op.o T.ico.op.i T.ico.op.t GZ hr2 bZ .nil pass0 rfl T.ico.op.g (pa_cons (pv 4) pa_nil)))) pss_nil)
        (pss_one (ps_expr (pe_bm PySem.F.plainAttrs_list PySem.F.slot_list_append PySem.F.type_list_append mt_append (pv 2) (pa_cons (pv 6) pa_nil)))))))))
      (pss_one (ps_ret (pe_tupleOfN (by rfl) T.r.e.f.lo.p.tuple (pv 2)))))), ?_⟩
    refine ⟨(by show 0 ≤ sizeLine; decide), fun nl nnl => ?_⟩
    obtain ⟨nr, nc⟩ := hR.ner nnl
    have b1 := @But.new r nl H (.lst []) nnl
    have hR1 := hR.put (o := .lst []) nr nc
    have hl1 := @upd_same H nl (.lst [])
    generalize upd H nl (.lst []) = H1 at *
    obtain ⟨dx0, hr0⟩ := hR.1
    have hkn1 := hkn.keep hr0 b1
    obtain ⟨dx1, hr1⟩ := hR1.1
    unfold namesM at kt
    replace kt := kt.and
    refine ⟨_, rfl, r, dx1, _, rfl, hr1, lrd_byte, _, rfl, r, c, L, p, 1, most, rfl, hR1, hp, hkn1, by decide, kt.imp (fun k q e hK H2 b2 hR2 => ?_) (fun e _ h => h.mono b1)⟩
    have hq := rdB_le e (by decide)
    have hk6 := (rdB_ok e (by decide)).2.2.2
    clear kt e
    have hkn2 := hkn1.keep hr1 b2
    refine ⟨_, rfl, by omega, by omega, ?_⟩
    refine for_range (lo := 0) (n := ((k : Nat) : Int).toNat) (fun i σ H3 => ∃ (ns : List Cs) (q : Nat) (o3 o4 o5 o6 : Option V), σ = [some (.ref r), some (.int most), some (.ref nl), o3, o4, o5, o6, none] ∧ But r H H3 ∧
      RdV K H3 r c L q ∧ q ≤ L.length ∧ KnL K H3 L ∧ H3 nl = some (.lst (ns.map sV)) ∧ ns.length = i ∧ Kt (namesL L (k - i) ns q) (fun ws q => ∀ (a : Addr) (H' : Hp), H a = none → But r H H' → RdV K H' r c L q → q ≤ L.length → TupN H' a (ws.map sV) → Q (.ref a) H') (fun e => PlC K r H E e))
      ⟨[], q, none, none, none, none, rfl, b1.trans b2, hR2, hq, hkn2, b2 _ _ nr hl1, rfl, hK⟩ ?_ ?_
    · clear hK hR2 hkn2 hq b2
      rintro i σ H3 hi ⟨ns, q, o3, o4, o5, o6, rfl, b3, hR3, hq3, hkn3, hl3, hni, kt⟩
      rw [Int.toNat_natCast] at hi
      obtain ⟨m, hm, hm'⟩ : ∃ m, k - i = m + 1 ∧ k - (i + 1) = m := ⟨k - (i + 1), by omega, rfl⟩
      rw [hm] at kt
      unfold namesL at kt
      replace kt := kt.and
      unfold nameM at kt
      replace kt := kt.and
      obtain ⟨dx3, hr3⟩ := hR3.1
      refine ⟨_, rfl, r, _, dx3, _, _, rfl, hr3, cl, nat _ (by simp), lrd_place, ?_⟩
      refine ⟨_, rfl, r, dx3, _, rfl, hr3, lrd_byte, r, c, L, q, 1, 8, rfl, hR3, hq3, hkn3, by decide, kt.imp (fun n q4 e4 hK4 H4 b4 hR4 => ?_) (fun e _ h => h.mono b3)⟩
      have hq4 := rdB_le e4 (by decide)
      have hn8 := (rdB_ok e4 (by decide)).2.2.2
      have hkn4 := hkn3.keep hr3 b4
      replace hK4 := hK4.and
      clear kt e4
      refine ⟨⟨_, rfl⟩, _, rfl, _, rfl, by omega, by omega, fun D nD => ?_⟩
      have Dr := hR4.ner nD
      have hl4 := b4 _ _ nr hl3
      have Dl : D ≠ nl := fun z => by rw [z, hl4] at nD; cases nD
      obtain ⟨dx4, hr4⟩ := hR4.1
      refine lc_range (lo := 0) (n := ((n : Nat) : Int).toNat) (vs := [7]) (fun j H5 => ∃ (acc : Cs) (q5 : Nat), But r H4 H5 ∧ RdV K H5 r c L q5 ∧ q5 ≤ L.length ∧ KnL K H5 L ∧ H5 D = some (.lst ((acc.map fun x => sx [x]).map V.str)) ∧ acc.length = j ∧
        Kt (lettersM L (n - j) q5) (fun w q' => Kt (if (kws.contains (acc ++ w) || ns.contains (acc ++ w)) = true then Except.error q else Except.ok (acc ++ w, q')) (fun w p1 => Kt (namesL L m (ns ++ [w]) p1) (fun ws q => ∀ (a : Addr) (H' : Hp), H a = none → But r H H' → RdV K H' r c L q → q ≤ L.length → TupN H' a (ws.map sV) → Q (.ref a) H') (fun e => PlC K r H E e)) (fun e => PlC K r H E e)) (fun e => PlC K r H E e))
        ⟨[], q4, But.new nD, hR4.put Dr.1 Dr.2, hq4, hkn4.keep hr4 (But.new nD), upd_same, rfl, hK4⟩ ?_ ?_
      · clear hK4
        rintro j H5 hj ⟨acc, q5, b5, hR5, hq5, hkn5, hD5, hal, kt⟩
        rw [Int.toNat_natCast] at hj
        obtain ⟨m', hm1, hm2⟩ : ∃ m', n - j = m' + 1 ∧ n - (j + 1) = m' := ⟨n - (j + 1), by omega, rfl⟩
        rw [hm1] at kt
        unfold lettersM at kt
        replace kt := kt.and
        obtain ⟨dx5, hr5⟩ := hR5.1
        have hL26 : ((("abcdefghijklmnopqrstuvwxyz" : Str).length : Nat) : Int) - 1 = 25 := by
          have : ("abcdefghijklmnopqrstuvwxyz" : Str).length = 26 := by decide +kernel
          rw [this]
          rfl
        refine ⟨rfl, _, rfl, r, dx5, _, rfl, hr5, lrd_byte, _, rfl, (by rw [sizeLine_eq]; decide +kernel), _, _, rfl, rfl, r, c, L, q5, 0, 25, (by simp [hL26]), hR5, hq5, hkn5, by decide, kt.imp (fun b q6 e6 hK6 H6 b6 hR6 => ?_) (fun e _ h => h.mono (b3.trans (b4.trans b5)))⟩
        have hq6 := rdB_le e6 (by decide)
        have hb25 := (rdB_ok e6 (by decide)).2.2.2
        refine ⟨_, _, b + 97, rfl, rfl, (by rw [sizeLine_eq]; decide +kernel), letter_ix (by omega), _, b6 _ _ Dr.1 hD5, ?_, acc ++ [b + 97], q6, (b5.trans b6).put nD, hR6.put Dr.1 Dr.2, hq6, ?_, ?_, ?_, ?_⟩
        · rw [List.length_map, List.length_map, hal, sizeLine_eq]
          omega
        · exact (hkn5.keep hr5 b6).putL (b6 _ _ Dr.1 hD5)
        · rw [upd_same]
          simp [sx]
        · rw [List.length_append, hal]
          rfl
        · rw [hm2]
          refine hK6.and.imp (fun w q7 _ h => ?_) (fun _ _ h => h)
          replace h := Kt.ok h
          rw [show acc ++ ((b + 97) :: w) = acc ++ [b + 97] ++ w by simp] at h
          exact h
      · rintro H5 ⟨acc, q5, b5, hR5, hq5, hkn5, hD5, hal, kt⟩
        rw [Int.toNat_natCast] at hal kt
        rw [Nat.sub_self] at kt
        unfold lettersM at kt
        replace kt := Kt.ok kt
        rw [List.append_nil] at kt
        refine ⟨sx [], D, acc.map fun x => sx [x], (by kernel_rfl), rfl, .inl (SqL.of hD5), ?_, ?_⟩
        · rw [sum_letters, sx_len]
          simp
          omega
        have ej : Txt.join (sx []) (acc.map fun x => sx [x]) = sx acc := by
          rw [← join_letters acc, List.map_map]
          rfl
        rw [ej]
        have hl5 := b5 _ _ nr hl4
        have b35 := b3.trans (b4.trans b5)
        refine ⟨_, rfl, _, _, rfl, .inr (T.r.e.f.lo.p.l.kws H5), rfl, flat_sx kws, _, rfl, ?_⟩
        show if inV (sV acc) (kws.map fun w => V.str (sx w)) = true then _ else _
        rw [inV_sx]
        by_cases hk : acc ∈ kws
        · rw [decide_eq_true hk]
          refine iteT ?_
          rw [List.contains_iff_mem.mpr hk] at kt
          refine iteT ⟨_, rfl, ?_⟩
          exact fault_at rfl (by simp) fun d H6 nd s e => (show PlC K r H E q from kt) d H6 (b35.trans (.of s)) e
        rw [decide_eq_false hk]
        refine iteF ?_
        have hkc : kws.contains acc = false := by rw [← Bool.not_eq_true, List.contains_iff_mem]; exact hk
        rw [hkc, Bool.false_or] at kt
        refine ⟨_, rfl, _, rfl, nl, _, rfl, .inl (SqL.of hl5), rfl, flat_sx _, _, rfl, ?_⟩
        show if inV (sV acc) (ns.map fun w => V.str (sx w)) = true then _ else _
        rw [inV_sx]
        by_cases hn : acc ∈ ns
        · rw [decide_eq_true hn]
          rw [List.contains_iff_mem.mpr hn] at kt
          refine iteT ⟨_, rfl, ?_⟩
          exact fault_at rfl (by simp) fun d H6 nd s e => (show PlC K r H E q from kt) d H6 (b35.trans (.of s)) e
        rw [decide_eq_false hn]
        have hnc : ns.contains acc = false := by rw [← Bool.not_eq_true, List.contains_iff_mem]; exact hn
        rw [hnc] at kt
        rw [if_neg (by decide)] at kt
        replace kt := Kt.ok kt
        refine iteF ⟨_, rfl, .inl ⟨rfl, _, SqL.of hl5⟩, _, rfl, nl, _, _, rfl, rfl, hl5, ?_, ns ++ [acc], q5, _, _, _, _, rfl, b35.put nnl, hR5.put nr nc, hq5, ?_, ?_, ?_, ?_⟩
        · rw [List.length_map, hni, sizeLine_eq]
          omega
        · exact hkn5.putL hl5
        · rw [upd_same, List.map_append]
          rfl
        · rw [List.length_append, hni]
          rfl
        · rw [hm']
          exact kt
    · rintro σ H3 ⟨ns, q, o3, o4, o5, o6, rfl, b3, hR3, hq3, hkn3, hl3, hni, kt⟩
      rw [Int.toNat_natCast] at kt
      rw [Nat.sub_self] at kt
      unfold namesL at kt
      replace kt := Kt.ok kt
      refine ⟨_, rfl, nl, _, rfl, SqL.of hl3, fun a o na oc od => ?_⟩
      obtain ⟨ar, ac⟩ := hR3.ner na
      exact kt a _ (b3.free ar na) (b3.put (b3.free ar na)) (hR3.put ar ac) hq3 ⟨o, oc, od, upd_same⟩
end
end Sw

end

section
set_option maxRecDepth 100000
set_option maxHeartbeats 4000000
/-! parts of a list by slices -/
namespace Sw
open PySem PySem.Spec PyProof.Rows L2 SwA
theorem cut_takeB {xs : List V} (n : Nat) : cutV xs none (some (n : Int)) = xs.take n := by
  show (xs.drop 0).take (HT.sIx xs.length xs.length (some (n : Int)) - 0) = xs.take n
  rw [HT.sIx_nat, List.drop_zero, Nat.sub_zero, ← List.take_eq_take_min]
theorem cut_dropB {xs : List V} (n : Nat) : cutV xs (some (n : Int)) none = xs.drop n := by
  show (xs.drop (HT.sIx xs.length 0 (some (n : Int)))).take (HT.sIx xs.length xs.length none - HT.sIx xs.length 0 (some (n : Int))) = xs.drop n
  rw [HT.sIx_none, HT.sIx_nat]
  rcases Nat.le_total n xs.length with h | h
  · rw [Nat.min_eq_left h]
    exact List.take_of_length_le (by rw [List.length_drop]; omega)
  · rw [Nat.min_eq_right h, List.drop_length, List.take_nil, List.drop_of_length_le h]
end Sw

end

section
set_option maxRecDepth 100000
set_option maxHeartbeats 4000000
set_option pp.deepTerms false
set_option pp.deepTerms.threshold 7
/-! read_rules and decode of any list -/
namespace Sw
open PySem PySem.Spec PyProof.Rows L2 SwA
/-! ### what is read are numbers -/
def IR (L : List V) {α : Type} (M : Rd α) (p : Nat) : Prop := ∀ a q, M = .ok (a, q) → ∀ i, p ≤ i → i < q → ∃ z : Int, L[i]? = some (.int z)
section
variable {L : List V} {α β : Type}
theorem IR.rd {lo hi : Int} {p : Nat} (h0 : 0 ≤ lo) : IR L (rdB L lo hi p) p := fun a q e i h1 h2 => by
  obtain ⟨rfl, h3, _⟩ := rdB_ok e h0
  obtain rfl : i = p := by omega
  exact ⟨_, h3⟩
theorem IR.and {M : Rd α} {f : α → Nat → Rd β} {p : Nat} (h : IR L M p) (g : ∀ a q, M = .ok (a, q) → IR L (f a q) q) : IR L (andB M f) p := fun b r e i h1 h2 => by
  cases hm : M with
  | error x => rw [hm] at e; cases e
  | ok y =>
    obtain ⟨a, q⟩ := y
    rw [hm] at e
    rcases Nat.lt_or_ge i q with z | z
    · exact h a q hm i h1 z
    · exact g a q hm b r e i z h2
theorem IR.ok (a : α) (p : Nat) : IR L (.ok (a, p)) p := fun b q e i h1 h2 => by
  cases e
  omega
theorem IR.ite {c : Bool} {e p : Nat} {w : α} : IR L (if c = true then .error e else .ok (w, p)) p := fun b q h => by
  cases c with
  | true => cases h
  | false => exact IR.ok w p b q h
theorem IR.letters : ∀ k p, IR L (lettersM L k p) p
  | 0, p => .ok _ _
  | k + 1, p => .and (.rd (by decide)) fun _ q _ => .and (IR.letters k q) fun _ _ _ => .ok _ _
theorem IR.namesL : ∀ k ns p, IR L (namesL L k ns p) p
  | 0, ns, p => .ok _ _
  | k + 1, ns, p => .and (.and (.rd (by decide)) fun _ q _ => .and (IR.letters _ q) fun w q2 _ => IR.ite) fun w q _ => IR.namesL k (ns ++ [w]) q
theorem IR.names {most : Nat} (p : Nat) : IR L (namesM L most p) p := .and (.rd (by decide)) fun k q _ => IR.namesL k [] q
theorem IR.robs {t : Nat} : ∀ k p, IR L (robsM L t k p) p
  | 0, p => .ok _ _
  | k + 1, p => .and (.rd (by decide)) fun _ q _ => .and (.rd (by decide)) fun _ q2 _ => IR.robs k q2
theorem IR.floor {g : Nat} : ∀ k p, IR L (floorM L g k p) p
  | 0, p => .ok _ _
  | k + 1, p => .and (.rd (by decide)) fun _ q _ => IR.floor k q
theorem IR.rulesL {m g : Nat} : ∀ k le fi p, IR L (rulesL L m g k le fi p) p
  | 0, le, fi, p => .ok _ _
  | k + 1, le, fi, p => .and (.rd (by omega)) fun mo p1 _ => .and (.rd (by omega)) fun si p2 _ => .and (.rd (by decide)) fun _ p3 _ => .and (.rd (by decide)) fun _ p4 _ => .and (.rd (by decide)) fun _ p5 _ => by
      by_cases h : si + 1 < g
      · rw [if_pos h]
        exact IR.rulesL k mo (si + 1) p5
      · rw [if_neg h]
        exact IR.rulesL k (mo + 1) 0 p5
theorem IR.body : IR L (bodyM L) 0 :=
  .and (.rd (by decide)) fun _ p _ => .and (.rd (by decide)) fun t p _ => .and (IR.names p) fun ss p _ => .and (IR.names p) fun ms p _ => .and (.rd (by decide)) fun k p _ => .and (IR.robs k p) fun _ p _ => .and (IR.floor t p) fun _ p _ => .and (.rd (by decide)) fun k p _ => IR.rulesL k 0 0 p
end
theorem ints_of : ∀ {L : List V} {p : Nat}, (∀ i, i < p → ∃ z : Int, L[i]? = some (.int z)) → ∃ zs : List Int, L.take p = zs.map V.int ∧ sumI (L.take p) = zs.sum
  | L, 0, _ => ⟨[], rfl, rfl⟩
  | [], p + 1, h => by
    obtain ⟨z, e⟩ := h 0 (by omega)
    cases e
  | v :: L, p + 1, h => by
    obtain ⟨z, e⟩ := h 0 (by omega)
    cases e
    obtain ⟨zs, h1, h2⟩ := ints_of (L := L) (p := p) fun i hi => h (i + 1) (by omega)
    refine ⟨z :: zs, by rw [List.take_succ_cons, h1]; rfl, ?_⟩
    rw [List.take_succ_cons, List.sum_cons, ← h2]
    rfl
section
variable {P : Program} {w : World} {K : PySem.W.Frag} {mg : Str → Option Value} {base : Heap}
/-! ### read_rules -/
def spRRulesX (K : PySem.W.Frag) : Sp := fun vs H Q E => ∃ (r c : Addr) (L : List V) (p m g : Nat), vs = [.ref r, .int m, .int g] ∧ RdV K H r c L p ∧ p ≤ L.length ∧ KnL K H L ∧ m ≤ 6 ∧ g ≤ 4 ∧
  Kt (rulesM L m g p) (fun _ q => ∀ (a : Addr) (H' : Hp), H a = none → But r H H' → RdV K H' r c L q → q ≤ L.length → Q (.ref a) H') (fun e => PlC K r H E e)
theorem sc_rrulesX : FnScope rrN ["self", "moods", "signs"] (defScope s_Reader_read_rules) := ⟨rfl, rfl, rfl, by decide +kernel, rfl, by decide +kernel, by decide +kernel⟩
theorem KnL.putD {x : Addr} {o o' : HO} {H : Hp} {L : List V} (h : KnL K H L) (hx : H x = some o) (n1 : ∀ xs, o ≠ .tup xs) (n2 : ∀ xs, o ≠ .lst xs) : KnL K (upd H x o') L := ⟨h.1, fun v hv => by
  obtain ⟨n1', q⟩ := h.2 v hv
  cases q with
  | int i => exact ⟨_, .int i⟩
  | bl b => exact ⟨_, .bl b⟩
  | non => exact ⟨_, .non⟩
  | str z => exact ⟨_, .str z⟩
  | tup e => exact ⟨_, .tup ((upd_ne fun z => n1 _ (by rw [z, hx] at e; exact Option.some.inj e)).trans e)⟩
  | lst e => exact ⟨_, .lst ((upd_ne fun z => n2 _ (by rw [z, hx] at e; exact Option.some.inj e)).trans e)⟩⟩
theorem KnL.same {H H' : Hp} {L : List V} (h : KnL K H L) (s : Same H H') : KnL K H' L := ⟨h.1, fun v hv => by
  obtain ⟨n1', q⟩ := h.2 v hv
  cases q with
  | int i => exact ⟨_, .int i⟩
  | bl b => exact ⟨_, .bl b⟩
  | non => exact ⟨_, .non⟩
  | str z => exact ⟨_, .str z⟩
  | tup e => exact ⟨_, .tup (s _ _ e)⟩
  | lst e => exact ⟨_, .lst (s _ _ e)⟩⟩
theorem move_ixX {b : Nat} (h : b ≤ 2) : ∃ z, atI (moves.map fun w => V.str (sx w)) ((b : Nat) : Int) = some z := by
  have : b < (moves.map fun w => V.str (sx w)).length := by
    show b < 3
    omega
  exact ⟨_, atI_nat (List.getElem?_eq_getElem this)⟩
theorem ok_rrulesX (T : RdxT K mg) : FnE P w K mg base (L2.CX P w) 4 ("Reader", some "read_rules") ["self", "moods", "signs"] (spRRulesX K) := by
  obtain ⟨fd, F⟩ := T.r.read_rules.d
  obtain ⟨fdB, GB, bB, kB⟩ := ok_byteX (P := P) (w := w) (base := base) T
  refine ⟨fd, F.ok sc_rrulesX (fun vs H Q E h => ?_) (fun cdv A outer s H vs Q E hr h => ?_), F.bindsN fun _ _ _ _ _ _ us hl => match us, hl with | [_, _, _], _ => rfl, F.kp⟩
  · obtain ⟨r, c, L, p, m, g, rfl, _⟩ := h
    rfl
  · obtain ⟨r, c, L, p, m, g, rfl, hR, hp, hkn, hm, hg, kt⟩ := h
    have hrB : Room 3 _ := hr
    have hu := hu_of hr
    have h24 : m * g ≤ 6 * 4 := Nat.mul_le_mul hm hg
    refine ⟨_, (pss_cons (ps_par3 (i := 3) (j := 4) (l := 5) (by rfl) sc_rrulesX.nd rfl rfl rfl (by decide) (by decide) (by decide) rfl rfl rfl (pa_cons pe_dnewT (pa_cons pe_int (pa_cons pe_int pa_nil))) (by rfl))
      (pss_cons (ps_for (passes_of rfl) rfl (pi_range1 (by rfl) T.r.e.f.lo.p.range (pa_cons (pe_meth (pv 0) T.r.rd.c T.r.read_byte.m GB hrB bB .nil (passes_call (takes_of rfl rfl rfl rfl) (fun _ _ _ _ h => h)) (pa_cons pe_int (pa_cons (pe_op op_mul (pv 1) (pv 2)) pa_nil))) pa_nil)) (pg_name (i := 6) sc_rrulesX.nd rfl (.inl rfl))
        (pss_cons (ps_set (i := 7) sc_rrulesX.nd rfl (.inl rfl) (pe_meth (pv 0) T.r.rd.c T.r.read_byte.m GB hrB bB .nil (passes_call (takes_of rfl rfl rfl rfl) (fun _ _ _ _ h => h)) (pa_cons (pv 4) (pa_cons (pe_op op_sub (pv 1) pe_int) pa_nil))))
        (pss_cons (ps_set (i := 8) sc_rrulesX.nd rfl (.inl rfl) (pe_meth (pv 0) T.r.rd.c T.r.read_byte.m GB hrB bB .nil (passes_call (takes_of rfl rfl rfl rfl) (fun _ _ _ _ h => h)) (pa_cons (pe_ifExp (pt_cmpR op_eq (pv 7) (pv 4) (nomark _)) (pv 5) pe_int) (pa_cons (pe_op op_sub (pv 2) pe_int) pa_nil))))
        (pss_cons (ps_set (i := 9) sc_rrulesX.nd rfl (.inl rfl) (pe_meth (pv 0) T.r.rd.c T.r.read_byte.m GB hrB bB .nil (passes_call (takes_of rfl rfl rfl rfl) (fun _ _ _ _ h => h)) (pa_cons pe_int (pa_cons (pe_op op_sub (pv 2) pe_int) pa_nil))))
        (pss_cons (ps_set (i := 10) sc_rrulesX.nd rfl (.inl rfl) (pe_ix ix_tup (pe_glob (v := .ref (He.ga K "MOVES")) rfl T.r.e.f.lo.p.MOVES rfl) (pe_meth (pv 0) T.r.rd.c T.r.read_byte.m GB hrB bB .nil (passes_call (takes_of rfl rfl rfl rfl) (fun _ _ _ _ h => h)) (pa_cons pe_int (pa_cons (pe_op op_sub (pe_callB call_len_seq (by rfl) T.r.e.f.lo.p.l.len boot_len (pa_cons (pe_glob (v := .ref (He.ga K "MOVES")) rfl T.r.e.f.lo.p.MOVES rfl) pa_nil)) pe_int) pa_nil))) (fun _ _ => rfl)))
        (pss_cons (ps_dput hu (pv 3) (pe_tup (pa_cons (pv 7) (pa_cons (pv 8) pa_nil))) (pe_tup (pa_cons (pv 9) (pa_cons (pv 10) (pa_cons (pe_meth (pv 0) T.r.rd.c T.r.read_byte.m GB hrB bB .nil (passes_call (takes_of rfl rfl rfl rfl) (fun _ _ _ _ h => h)) (pa_cons pe_int (pa_cons (pe_op op_sub (pv 1) pe_int) pa_nil))) pa_nil)))) rfl)
        (pss_one (ps_asg (pe_ifExp (pt_cmpR op_lt (pe_op op_add (pv 8) pe_int) (pv 2) (nomark _)) (pe_tup (pa_cons (pv 7) (pa_cons (pe_op op_add (pv 8) pe_int) pa_nil))) (pe_tup (pa_cons (pe_op op_add (pv 7) pe_int) (pa_cons pe_int pa_nil))))
          (pg_tup rfl (pgs_cons (pg_name (i := 4) sc_rrulesX.nd rfl (.inl rfl)) (pgs_cons (pg_name (i := 5) sc_rrulesX.nd rfl (.inl rfl)) pgs_nil)))))))))))
      (pss_one (ps_ret (pv 3))))), ?_⟩
    intro rd nrd
    refine ⟨_, _, _, rfl, ?_⟩
    obtain ⟨nr, nc⟩ := hR.ner nrd
    have b1 := @But.new r rd H (.dT []) nrd
    have hR1 := hR.put (o := .dT []) nr nc
    have hd1 := @upd_same H rd (.dT [])
    obtain ⟨dx0, hr0⟩ := hR.1
    have hkn1 := hkn.keep hr0 b1
    generalize upd H rd (.dT []) = H1 at *
    obtain ⟨dx1, hr1⟩ := hR1.1
    unfold rulesM at kt
    replace kt := kt.and
    have hmi : ((m : Nat) : Int) * ((g : Nat) : Int) ≤ 24 := by
      rw [← Int.natCast_mul]
      omega
    refine ⟨_, rfl, r, dx1, _, rfl, hr1, lrd_byte, _, rfl, _, rfl, _, _, rfl, rfl, .inl ⟨by omega, by omega⟩, r, c, L, p, 0, _, rfl, hR1, hp, hkn1, by decide, kt.imp (fun k q e hK H2 b2 hR2 => ?_) (fun e _ h => h.mono b1)⟩
    have hq := rdB_le e (by decide)
    have hk := (rdB_ok e (by decide)).2.2.2
    have hkn2 := hkn1.keep hr1 b2
    refine ⟨_, rfl, by omega, by omega, ?_⟩
    refine for_range (lo := 0) (n := ((k : Nat) : Int).toNat) (fun i σ H3 => ∃ (le fi q : Nat) (kvs : List (List Key × V)) (o6 o7 o8 o9 o10 : Option V), σ = [some (.ref r), some (.int m), some (.int g), some (.ref rd), some (.int le), some (.int fi), o6, o7, o8, o9, o10] ∧ But r H H3 ∧
      RdV K H3 r c L q ∧ q ≤ L.length ∧ KnL K H3 L ∧ H3 rd = some (.dT kvs) ∧ kvs.length ≤ i ∧ Kt (rulesL L m g (k - i) le fi q) (fun _ q => ∀ (a : Addr) (H' : Hp), H a = none → But r H H' → RdV K H' r c L q → q ≤ L.length → Q (.ref a) H') (fun e => PlC K r H E e))
      ⟨0, 0, q, [], none, none, none, none, none, rfl, b1.trans b2, hR2, hq, hkn2, b2 _ _ nr hd1, Nat.zero_le _, hK⟩ ?_ ?_
    · clear hK hkn2 hR2 hq e
      rintro i σ H3 hi ⟨le, fi, q, kvs, o6, o7, o8, o9, o10, rfl, b3, hR3, hq3, hkn3, hd3, hkl, kt⟩
      rw [Int.toNat_natCast] at hi
      obtain ⟨m', hm1, hm2⟩ : ∃ m', k - i = m' + 1 ∧ k - (i + 1) = m' := ⟨k - (i + 1), by omega, rfl⟩
      rw [hm1] at kt
      unfold rulesL at kt
      replace kt := kt.and
      obtain ⟨dx3, hr3⟩ := hR3.1
      refine ⟨_, rfl, r, dx3, _, rfl, hr3, lrd_byte, _, rfl, _, rfl, _, _, rfl, rfl, r, c, L, q, le, _, rfl, hR3, hq3, hkn3, by omega, kt.imp (fun mo q4 e4 hK4 H4 b4 hR4 => ?_) (fun e _ h => h.mono b3)⟩
      have hq4 := rdB_le e4 (by omega)
      replace hkn3 := hkn3.keep hr3 b4
      replace hd3 := b4 _ _ nr hd3
      replace b3 := b3.trans b4
      replace hK4 := hK4.and
      clear kt e4 hR3 hr3 hq3
      obtain ⟨dx4, hr4⟩ := hR4.1
      refine ⟨_, rfl, r, dx4, _, rfl, hr4, lrd_byte, _, rfl, _, rfl, rfl, _, rfl, ?_⟩
      refine if_sign (F := fi) rfl ?_
      refine ⟨_, rfl, _, _, rfl, rfl, r, c, L, q4, _, _, rfl, hR4, hq4, hkn3, by omega, hK4.imp (fun si q5 e5 hK5 H5 b5 hR5 => ?_) (fun e _ h => h.mono b3)⟩
      have hq5 := rdB_le e5 (by omega)
      replace hkn3 := hkn3.keep hr4 b5
      replace hd3 := b5 _ _ nr hd3
      replace b3 := b3.trans b5
      replace hK5 := hK5.and
      clear hK4 e5 hR4 hr4 hq4
      obtain ⟨dx5, hr5⟩ := hR5.1
      refine ⟨_, rfl, r, dx5, _, rfl, hr5, lrd_byte, _, rfl, _, _, rfl, rfl, r, c, L, q5, _, _, rfl, hR5, hq5, hkn3, by decide, hK5.imp (fun lf q6 e6 hK6 H6 b6 hR6 => ?_) (fun e _ h => h.mono b3)⟩
      have hq6 := rdB_le e6 (by decide)
      replace hkn3 := hkn3.keep hr5 b6
      replace hd3 := b6 _ _ nr hd3
      replace b3 := b3.trans b6
      replace hK6 := hK6.and
      clear hK5 e6 hR5 hr5 hq5
      obtain ⟨dx6, hr6⟩ := hR6.1
      refine ⟨_, rfl, r, dx6, _, rfl, hr6, lrd_byte, _, _, rfl, .inr (T.r.e.f.lo.p.moves H6), _, _, rfl, rfl, r, c, L, q6, 0, 2, rfl, hR6, hq6, hkn3, by decide, hK6.imp (fun mv q7 e7 hK7 H7 b7 hR7 => ?_) (fun e _ h => h.mono b3)⟩
      have hq7 := rdB_le e7 (by decide)
      have hmv := (rdB_ok e7 (by decide)).2.2.2
      replace hkn3 := hkn3.keep hr6 b7
      replace hd3 := b7 _ _ nr hd3
      replace b3 := b3.trans b7
      replace hK7 := hK7.and
      clear hK6 e7 hR6 hr6 hq6
      obtain ⟨dx7, hr7⟩ := hR7.1
      obtain ⟨mz, hmz⟩ := move_ixX (b := mv) (by omega)
      refine ⟨_, _, _, _, rfl, rfl, T.r.e.f.lo.p.moves H7, hmz, ?_⟩
      refine ⟨_, rfl, _, rfl, _, rfl, r, dx7, _, rfl, hr7, lrd_byte, _, rfl, _, _, rfl, rfl, r, c, L, q7, _, _, rfl, hR7, hq7, hkn3, by decide, hK7.imp (fun la q8 e8 hK8 H8 b8 hR8 => ?_) (fun e _ h => h.mono b3)⟩
      have hq8 := rdB_le e8 (by decide)
      replace hkn3 := hkn3.keep hr7 b8
      replace hd3 := b8 _ _ nr hd3
      replace b3 := b3.trans b8
      clear hK7 e8 hR7 hr7 hq7
      refine ⟨(by show 3 ≤ sizeLine; decide), fun tv ntv => ?_⟩
      have s9 := sameUpd (o := .tup [.int (lf : Nat), mz, .int (la : Nat)]) (Same.refl H8) ntv
      replace hd3 := s9 _ _ hd3
      replace b3 := b3.trans (.of s9)
      replace hR8 := hR8.keep s9
      replace hkn3 := hkn3.same s9
      generalize upd H8 tv (.tup [.int (lf : Nat), mz, .int (la : Nat)]) = H9 at *
      refine ⟨_, rfl, _, rfl, _, rfl, (by show 2 ≤ sizeLine; decide), fun tk ntk => ?_⟩
      have s10 := sameUpd (o := .tup [.int (mo : Nat), .int (si : Nat)]) (Same.refl H9) ntk
      have htk : (upd H9 tk (.tup [.int (mo : Nat), .int (si : Nat)])) tk = some (.tup ((keyT (mo, si)).map kV)) := upd_same
      replace hd3 := s10 _ _ hd3
      replace b3 := b3.trans (.of s10)
      replace hR8 := hR8.keep s10
      replace hkn3 := hkn3.same s10
      generalize upd H9 tk (.tup [.int (mo : Nat), .int (si : Nat)]) = H10 at *
      refine ⟨rd, _, rfl, DPut.t (k := keyT (mo, si)) hd3 htk (by rw [sizeLine_eq]; omega), ?_⟩
      replace hkn3 := hkn3.putD (o' := .dT (putK kvs (keyT (mo, si)) (.ref tv))) hd3 (by intro _ z; cases z) (by intro _ z; cases z)
      have z3 := @upd_same H10 rd (.dT (putK kvs (keyT (mo, si)) (.ref tv)))
      have hpl := length_putK kvs (keyT (mo, si)) (.ref tv)
      replace hR8 := hR8.put (o := .dT (putK kvs (keyT (mo, si)) (.ref tv))) nr nc
      have b4' := b3.put (o := .dT (putK kvs (keyT (mo, si)) (.ref tv))) nrd
      generalize upd H10 rd (.dT (putK kvs (keyT (mo, si)) (.ref tv))) = H11 at *
      refine ⟨_, rfl, _, _, rfl, rfl, _, rfl, _, _, rfl, rfl, _, rfl, ?_⟩
      refine ite2 (fun h => ?_) (fun h => ?_)
      · have h0 : si + 1 < g := by
          have := of_decide_eq_true h
          omega
        rw [if_pos h0] at hK8
        refine ⟨_, rfl, _, rfl, _, _, rfl, rfl, (by show 2 ≤ sizeLine; decide), fun t nt => ?_⟩
        have s12 := sameUpd (o := .tup [.int (mo : Nat), .int ((si : Nat) + 1 : Int)]) (Same.refl H11) nt
        refine ⟨t, _, rfl, SqT.of upd_same, rfl, _, _, rfl, _, _, rfl, rfl, ?_⟩
        exact ⟨mo, si + 1, q8, _, _, _, _, _, _, rfl, b4'.trans (.of s12), hR8.keep s12, hq8, hkn3.same s12, s12 _ _ z3, by omega, by rw [hm2]; exact hK8⟩
      · have h0 : ¬ si + 1 < g := by
          have := of_decide_eq_false (Bool.eq_false_iff.mpr h)
          omega
        rw [if_neg h0] at hK8
        refine ⟨_, rfl, _, _, rfl, rfl, (by show 2 ≤ sizeLine; decide), fun t nt => ?_⟩
        have s12 := sameUpd (o := .tup [.int ((mo : Nat) + 1 : Int), .int 0]) (Same.refl H11) nt
        refine ⟨t, _, rfl, SqT.of upd_same, rfl, _, _, rfl, _, _, rfl, rfl, ?_⟩
        exact ⟨mo + 1, 0, q8, _, _, _, _, _, _, rfl, b4'.trans (.of s12), hR8.keep s12, hq8, hkn3.same s12, s12 _ _ z3, by omega, by rw [hm2]; exact hK8⟩
    · rintro σ H3 ⟨le, fi, q, kvs, o6, o7, o8, o9, o10, rfl, b3, hR3, hq3, hkn3, hd3, hkl, kt⟩
      rw [Int.toNat_natCast] at kt
      rw [Nat.sub_self] at kt
      unfold rulesL at kt
      replace kt := Kt.ok kt
      exact ⟨_, rfl, kt rd H3 nrd b3 hR3 hq3⟩
end
end Sw

end

section
set_option maxRecDepth 100000
set_option maxHeartbeats 4000000
set_option pp.deepTerms false
set_option pp.deepTerms.threshold 7
/-! decode of any value: the place at which it stops -/
namespace Sw
open PySem PySem.Spec PyProof.Rows L2 SwA
/-- InvalidCode is raised at a place; all stands -/
def PlS (K : PySem.W.Frag) (H : Hp) (E : XK) (i : Nat) : Prop := ∀ (d : Addr) (H' : Hp), Same H H' → H' d = some (.xd [("place", .int i)]) → E (.ref (He.ga K "InvalidCode")) (some d) H'
theorem kit_nlX {K : PySem.W.Frag} {H : Hp} {v : V} {n : String} (h : ArN K H v n) (hn : n ≠ "list") : PySem.W.kitOne K (.type n) (.type "list") = some false := by
  cases h <;> first | exact kit_ty (by decide +kernel) | exact absurd rfl hn
section
variable {P : Program} {w : World} {K : PySem.W.Frag} {mg : Str → Option Value} {base : Heap}
def spDecX (K : PySem.W.Frag) : Sp := fun vs H _ E => ∃ v : V, vs = [v] ∧ ((∃ n, ArN K H v n ∧ n ≠ "list" ∧ PlS K H E 0) ∨ ∃ (c : Addr) (L : List V) (e : Nat), v = .ref c ∧ H c = some (.lst L) ∧ KnL K H L ∧ decM L = .error e ∧ PlS K H E e)
theorem sc_decX : FnScope deN ["code"] (defScope s_decode) := ⟨rfl, rfl, rfl, by decide +kernel, rfl, by decide +kernel, by decide +kernel⟩
def teFX (K : PySem.W.Frag) (W : WX) : TE := tMethE (He.ga K "Reader") "read_byte" (spByteX K) (WE W) (tVar 1) (tCons (tC (.int 0)) (tCons (tOp (rI0 fun i j => .int (i - j)) (tCB (fun xs H Q => ∃ p ys, xs = [.ref p] ∧ (SqL K H p ys ∨ SqT K H p ys) ∧ Q (.int ys.length) H) (tCons (tVar 3) tNil)) (tC (.int 1))) tNil))
theorem ok_decX (T : RdxT K mg) : FnE P w K mg base (L2.CX P w) 5 ("decode", none) ["code"] (spDecX K) := by
  obtain ⟨fd, F⟩ := T.r.decode.d
  obtain ⟨t1, mTAG⟩ := T.r.e.TAG
  obtain ⟨t2, mBYTE⟩ := T.r.e.BYTE
  obtain ⟨t3, mT⟩ := T.r.e.f.lo.p.MAX_TILES
  obtain ⟨t4, mS⟩ := T.r.e.f.lo.p.MAX_SIGNS
  obtain ⟨t5, mM⟩ := T.r.e.f.lo.p.MAX_MOODS
  obtain ⟨t6, mR⟩ := T.r.e.f.lo.p.MAX_ROBOTS
  obtain ⟨fdB, GB, bB, kB⟩ := ok_byteX (P := P) (w := w) (base := base) T
  obtain ⟨fdN, GN, bN, kN⟩ := ok_rnamesX (P := P) (w := w) (base := base) T
  obtain ⟨fdU, GU, bU, kU⟩ := ok_rrulesX (P := P) (w := w) (base := base) T
  obtain ⟨fdI, GI, bI, kI⟩ := ok_rdi (P := P) (w := w) (base := base) T.r
  obtain ⟨fdZ, GZ, bZ, kZ⟩ := ok_ico (P := P) (w := w) (base := base) T.ico
  refine ⟨fd, F.ok sc_decX (fun vs H Q E h => ?_) (fun cdv A outer s H vs Q E hr h => ?_), F.bindsN fun _ _ _ _ _ _ us hl => match us, hl with | [_], _ => rfl, F.kp⟩
  · obtain ⟨v, rfl, _⟩ := h
    rfl
  · obtain ⟨v, rfl, hcs⟩ := h
    have hr3 : Room 3 _ := hr.mono (by decide)
    have hr2 : Room 2 _ := hr.mono (by decide)
    have hr1 : Room 1 _ := hr.mono (by decide)
    refine ⟨_, (pss_cons (ps_if (pt_not (pt_val (pe_callB call_isi (by rfl) T.r.i.isinstance (by decide +kernel) (pa_cons (pv 0) (pa_cons (pe_bltn (v := .ty "list") (by rfl) T.r.list (by decide +kernel) rfl) pa_nil)))))
        (pss_one (ps_raise rfl (takes_of rfl rfl rfl rfl) (pmk_oex T.ico.op.o T.ico.op.i T.ico.op.t GZ hr2 bZ .nil pass0 rfl T.ico.op.g (pa_cons pe_int pa_nil)))) pss_nil)
      (pss_cons (ps_set (i := 1) sc_decX.nd rfl (.inr rfl) (pe_make T.r.rd.m GI hr2 rfl T.r.rd.g bI .nil pass0 (pa_cons (pv 0) pa_nil)))
      (pss_cons (ps_expr (pe_meth (pv 1) T.r.rd.c T.r.read_byte.m GB hr3 bB .nil (passes_call (takes_of rfl rfl rfl rfl) (fun _ _ _ _ h => h)) (pa_cons (pe_glob (v := .int 82) rfl mTAG ⟨_, rfl⟩) (pa_cons (pe_glob (v := .int 82) rfl mTAG ⟨_, rfl⟩) pa_nil))))
      (pss_cons (ps_set (i := 2) sc_decX.nd rfl (.inl rfl) (pe_meth (pv 1) T.r.rd.c T.r.read_byte.m GB hr3 bB .nil (passes_call (takes_of rfl rfl rfl rfl) (fun _ _ _ _ h => h)) (pa_cons pe_int (pa_cons (pe_glob (v := .int 16) rfl mT ⟨_, rfl⟩) pa_nil))))
      (pss_cons (ps_asg (pe_tup (pa_cons (pe_meth (pv 1) T.r.rd.c T.r.read_names.m GN hr bN .nil (passes_call (takes_of rfl rfl rfl rfl) (fun _ _ _ _ h => h)) (pa_cons (pe_glob (v := .int 4) rfl mS ⟨_, rfl⟩) pa_nil)) (pa_cons (pe_meth (pv 1) T.r.rd.c T.r.read_names.m GN hr bN .nil (passes_call (takes_of rfl rfl rfl rfl) (fun _ _ _ _ h => h)) (pa_cons (pe_glob (v := .int 6) rfl mM ⟨_, rfl⟩) pa_nil)) (pa_cons (pe_lst pa_nil) pa_nil))))
        (pg_tup rfl (pgs_cons (pg_name (i := 3) sc_decX.nd rfl (.inr rfl)) (pgs_cons (pg_name (i := 4) sc_decX.nd rfl (.inl rfl)) (pgs_cons (pg_name (i := 5) sc_decX.nd rfl (.inl rfl)) pgs_nil)))))
      (pss_cons (ps_for (passes_of rfl) rfl (pi_range1 (by rfl) T.r.e.f.lo.p.range (pa_cons (pe_meth (pv 1) T.r.rd.c T.r.read_byte.m GB hr3 bB .nil (passes_call (takes_of rfl rfl rfl rfl) (fun _ _ _ _ h => h)) (pa_cons pe_int (pa_cons (pe_glob (v := .int 3) rfl mR ⟨_, rfl⟩) pa_nil))) pa_nil)) (pg_name (i := 6) sc_decX.nd rfl (.inl rfl))
        (pss_cons (ps_set (i := 7) sc_decX.nd rfl (.inl rfl) (pe_meth (pv 1) T.r.rd.c T.r.read_byte.m GB hr3 bB .nil (passes_call (takes_of rfl rfl rfl rfl) (fun _ _ _ _ h => h)) (pa_cons pe_int (pa_cons (pe_op op_sub (pv 2) pe_int) pa_nil))))
        (pss_one (ps_expr (pe_bm PySem.F.plainAttrs_list PySem.F.slot_list_append PySem.F.type_list_append mt_append (pv 5) (pa_cons (pe_tup (pa_cons (pv 7) (pa_cons (pe_cmpR op_eq (pe_meth (pv 1) T.r.rd.c T.r.read_byte.m GB hr3 bB .nil (passes_call (takes_of rfl rfl rfl rfl) (fun _ _ _ _ h => h)) (pa_cons pe_int (pa_cons pe_int pa_nil))) pe_int (nomark _)) pa_nil))) pa_nil))))))
      (pss_cons (ps_set (i := 8) sc_decX.nd rfl (.inl rfl) (pe_callTy call_tuple_of (by rfl) T.r.e.f.lo.p.tuple (by decide +kernel) (pa_cons (pe_lcY (own := [("tile", 7)]) (g := gName 7) (tt := tYes) (te := fun W => teFX K W) rfl rfl rfl (takes_of rfl rfl rfl rfl) rfl sc_decX.nd (pi_range1 (by rfl) T.r.e.f.lo.p.range (pa_cons (pv 2) pa_nil)) (blkOk_by (own := [("tile", 7)]) (N := deN) (sc := defScope s_decode) (by decide +kernel)) (fun _ _ _ _ _ => pg_name sc_decX.nd rfl (.inl rfl)) (fun _ _ _ _ _ => pts_nil) (fun W _ _ _ _ _ xe tkF => pe_methE (pv 1) T.r.rd.c T.r.read_byte.m GB hr3 bB (passAtG tkF) (pa_cons pe_int (pa_cons (pe_op op_sub (pe_callB call_len_seq (by rfl) T.r.e.f.lo.p.l.len boot_len (pa_cons (pv 3) pa_nil)) pe_int) pa_nil)))) pa_nil)))
      (pss_cons (ps_set (i := 9) sc_decX.nd rfl (.inl rfl) (pe_meth (pv 1) T.r.rd.c T.r.read_rules.m GU hr bU .nil (passes_call (takes_of rfl rfl rfl rfl) (fun _ _ _ _ h => h)) (pa_cons (pe_callB call_len_seq (by rfl) T.r.e.f.lo.p.l.len boot_len (pa_cons (pv 4) pa_nil)) (pa_cons (pe_callB call_len_seq (by rfl) T.r.e.f.lo.p.l.len boot_len (pa_cons (pv 3) pa_nil)) pa_nil))))
      (pss_cons (ps_set (i := 10) sc_decX.nd rfl (.inl rfl) (pe_op op_mod (pe_callB (cr_sum rfl) (by rfl) T.r.e.sum (by decide +kernel) (pa_cons (pe_slice sl_list (pv 0) po_none (po_some (pe_fld (pv 1) rfl))) pa_nil)) (pe_glob (v := .int 256) rfl mBYTE ⟨_, rfl⟩)))
      (pss_cons (ps_expr (pe_meth (pv 1) T.r.rd.c T.r.read_byte.m GB hr3 bB .nil (passes_call (takes_of rfl rfl rfl rfl) (fun _ _ _ _ h => h)) (pa_cons (pv 10) (pa_cons (pv 10) pa_nil))))
      (pss_cons (ps_if (pt_cmpR op_lt (pe_fld (pv 1) rfl) (pe_callB call_len_seq (by rfl) T.r.e.f.lo.p.l.len boot_len (pa_cons (pv 0) pa_nil)) (nomark _))
        (pss_one (ps_raise rfl (takes_of rfl rfl rfl rfl) (pmk_oex T.ico.op.o T.ico.op.i T.ico.op.t GZ hr2 bZ .nil pass0 rfl T.ico.op.g (pa_cons (pe_fld (pv 1) rfl) pa_nil)))) pss_nil)
      (pss_one ps_no)))))))))))), ?_⟩
    rcases hcs with ⟨n, hn, hnl, k⟩ | ⟨a, L, e0, rfl, ha, hkn, hde, k⟩
    · refine ⟨_, rfl, _, _, _, _, false, rfl, .ty _, hn.ty, kit_nlX hn hnl, _, rfl, iteT ?_⟩
      exact fault_at rfl (by simp) fun d H2 nd s e => k d H2 s e
    refine ⟨_, rfl, _, _, _, _, true, rfl, .ty _, (ArN.lst (K := K) ha).ty, kit_ty (by decide +kernel), _, rfl, ?_⟩
    refine ⟨_, rfl, fun r dx nr ndx dr => ?_⟩
    have ar : a ≠ r := ne_of_none ha nr
    refine ⟨r, dx, a, rfl, upd_same, rfl, ?_⟩
    rw [upd_upd]
    have s1 : Same H (upd (upd H dx (.own r)) r (.ins (He.ga K "Reader") dx (rdFs a 0))) := sameUpd (sameUpd (Same.refl H) ndx) nr
    have hR1 : RdV K (upd (upd H dx (.own r)) r (.ins (He.ga K "Reader") dx (rdFs a 0))) r a L 0 := ⟨⟨dx, upd_same⟩, s1 _ _ ha⟩
    generalize upd (upd H dx (.own r)) r (.ins (He.ga K "Reader") dx (rdFs a 0)) = H1 at *
    have hkn1 := hkn.same s1
    have kP : PlC K r H1 E e0 := fun d H' b e => k d H' (fun x o q => b x o (fun z => by rw [z, nr] at q; cases q) (s1 _ _ q)) e
    obtain ⟨RR, hR0⟩ : ∃ RR : Nat → Prop, RR = PlC K r H1 E := ⟨_, rfl⟩
    have kt : Kt (decM L) (fun _ _ => False) RR := by
      rw [hde, hR0]
      exact kP
    have rr : ∀ {Hx : Hp} {e : Nat}, But r H1 Hx → RR e → PlC K r Hx E e := fun b h => by rw [hR0] at h; exact PlC.mono h b
    clear hde kP k
    have cl := T.r.rd.c
    have nat : ∀ f ∈ (["code", "place"] : List Str), NoAttr K (He.ga K "Reader") f := T.r.rd.n
    unfold decM at kt
    replace kt := kt.and.imp (P' := fun u q => bodyM L = .ok (u, q) ∧ Kt (andB (sumM L q) fun _ p1 => if p1 < L.length then .error p1 else .ok ((), p1)) (fun _ _ => False) RR) (fun u q e h => ⟨e, h⟩) (fun _ _ h => h)
    generalize hPB : (fun (u : Unit) (q : Nat) => bodyM L = .ok (u, q) ∧ Kt (andB (sumM L q) fun _ p1 => if p1 < L.length then .error p1 else .ok ((), p1)) (fun _ _ => False) RR) = PB at kt
    unfold bodyM at kt
    replace kt := kt.and
    obtain ⟨dx1, hr1'⟩ := hR1.1
    refine ⟨_, rfl, r, dx1, _, rfl, hr1', lrd_byte, r, a, L, 0, 82, 82, rfl, hR1, Nat.zero_le _, hkn1, by decide, kt.imp (fun tg q2 e2 hK2 H2 b2 hR2 => ?_) (fun e _ h => rr .refl h)⟩
    have hq2 := rdB_le e2 (by decide)
    have hkn2 := hkn1.keep hr1' b2
    replace hK2 := hK2.and
    clear kt e2
    obtain ⟨dx2, hr2'⟩ := hR2.1
    refine ⟨_, rfl, r, dx2, _, rfl, hr2', lrd_byte, r, a, L, q2, 1, 16, rfl, hR2, hq2, hkn2, by decide, hK2.imp (fun tn q3 e3 hK3 H3 b3 hR3 => ?_) (fun e _ h => rr b2 h)⟩
    have hq3 := rdB_le e3 (by decide)
    have htn := (rdB_ok e3 (by decide)).2.2
    have hkn3 := hkn2.keep hr2' b3
    replace b3 := b2.trans b3
    replace hK3 := hK3.and
    clear hK2 e3 hR2 b2 hkn2
    obtain ⟨dx3, hr3'⟩ := hR3.1
    refine ⟨_, rfl, r, dx3, _, rfl, hr3', lrd_names, r, a, L, q3, 4, rfl, hR3, hq3, hkn3, by decide, hK3.imp (fun ss q4 e4 hK4 sa H4 nsa b4 hR4 hq4 hsa => ?_) (fun e _ h => rr b3 h)⟩
    have hss := namesM_len e4
    have sar := (hR3.ner nsa).1
    have hkn4 := hkn3.keep hr3' b4
    replace b4 := b3.trans b4
    replace hK4 := hK4.and
    clear hK3 e4 hR3 b3 hkn3
    obtain ⟨dx4, hr4'⟩ := hR4.1
    refine ⟨_, rfl, r, dx4, _, rfl, hr4', lrd_names, r, a, L, q4, 6, rfl, hR4, hq4, hkn4, by decide, hK4.imp (fun ms q5 e5 hK5 ma H5 nma b5 hR5 hq5 hma => ?_) (fun e _ h => rr b4 h)⟩
    have hms := namesM_len e5
    have mar := (hR4.ner nma).1
    have hkn5 := hkn4.keep hr4' b5
    replace hsa := hsa.mono fun o z => b5 _ _ sar z
    replace b5 := b4.trans b5
    replace hK5 := hK5.and
    clear hK4 e5 hR4 b4 hkn4
    refine ⟨(by show 0 ≤ sizeLine; decide), fun rl nrl => ?_⟩
    have s6 := sameUpd (o := .lst []) (Same.refl H5) nrl
    have hrl := @upd_same H5 rl (.lst [])
    have rlr := hR5.ner nrl
    have rl1 : H1 rl = none := b5.free rlr.1 nrl
    replace hsa := hsa.mono fun o z => s6 _ _ z
    replace hma := hma.mono fun o z => s6 _ _ z
    replace hR5 := hR5.keep s6
    replace hkn5 := hkn5.same s6
    replace b5 := b5.trans (.of s6)
    have rsa : rl ≠ sa := fun z => by
      obtain ⟨_, _, _, q⟩ := hsa
      rw [← z, hrl] at q
      cases q
    have rma : rl ≠ ma := fun z => by
      obtain ⟨_, _, _, q⟩ := hma
      rw [← z, hrl] at q
      cases q
    generalize upd H5 rl (.lst []) = H6 at *
    refine ⟨(by show 3 ≤ sizeLine; decide), fun t3 nt3 => ?_⟩
    have s7 := sameUpd (o := .tup [.ref sa, .ref ma, .ref rl]) (Same.refl H6) nt3
    have ht3 := @upd_same H6 t3 (.tup [.ref sa, .ref ma, .ref rl])
    replace hsa := hsa.mono fun o z => s7 _ _ z
    replace hma := hma.mono fun o z => s7 _ _ z
    replace hrl := s7 _ _ hrl
    replace hR5 := hR5.keep s7
    replace hkn5 := hkn5.same s7
    replace b5 := b5.trans (.of s7)
    generalize upd H6 t3 (.tup [.ref sa, .ref ma, .ref rl]) = H7 at *
    refine ⟨t3, _, rfl, SqT.of ht3, rfl, _, _, rfl, _, _, rfl, _, _, rfl, rfl, ?_⟩
    -- robots
    obtain ⟨dx7, hr7'⟩ := hR5.1
    refine ⟨_, rfl, r, dx7, _, rfl, hr7', lrd_byte, r, a, L, q5, 1, 3, rfl, hR5, hq5, hkn5, by decide, hK5.imp (fun k q6 e6 hK6 H8 b8 hR8 => ?_) (fun e _ h => rr b5 h)⟩
    have hq6 := rdB_le e6 (by decide)
    have hk3 := (rdB_ok e6 (by decide)).2.2.2
    have hkn8 := hkn5.keep hr7' b8
    replace hsa := hsa.mono fun o z => b8 _ _ sar z
    replace hma := hma.mono fun o z => b8 _ _ mar z
    replace hrl := b8 _ _ rlr.1 hrl
    replace b8 := b5.trans b8
    replace hK6 := hK6.and
    clear hK5 e6 hR5 b5 hkn5
    refine ⟨_, rfl, by omega, by omega, ?_⟩
    refine for_range (lo := 0) (n := ((k : Nat) : Int).toNat) (fun i σ Hx => ∃ (o6 o7 : Option V) (xs : List V) (q : Nat), σ = [some (.ref a), some (.ref r), some (.int (tn : Nat)), some (.ref sa), some (.ref ma), some (.ref rl), o6, o7, none, none, none] ∧ But r H1 Hx ∧
      RdV K Hx r a L q ∧ q ≤ L.length ∧ KnL K Hx L ∧ TupN Hx sa (ss.map sV) ∧ TupN Hx ma (ms.map sV) ∧ Hx rl = some (.lst xs) ∧ xs.length = i ∧ Kt (robsM L tn (k - i) q) (fun _ q => Kt (andB (floorM L ss.length tn q) fun _ p => rulesM L ms.length ss.length p) PB RR) RR)
      ⟨none, none, [], q6, rfl, b8, hR8, hq6, hkn8, hsa, hma, hrl, rfl, hK6⟩ ?_ ?_
    · clear hK6 hkn8 hR8 hq6 hsa hma hrl b8
      rintro i σ Hx hi ⟨o6, o7, xs, q, rfl, bx, hRx, hqx, hknx, hsx, hmx, hlx, hxl, kt⟩
      rw [Int.toNat_natCast] at hi
      obtain ⟨m', hm1, hm2⟩ : ∃ m', k - i = m' + 1 ∧ k - (i + 1) = m' := ⟨k - (i + 1), by omega, rfl⟩
      rw [hm1] at kt
      unfold robsM at kt
      replace kt := kt.and
      obtain ⟨dxx, hrx'⟩ := hRx.1
      refine ⟨_, rfl, r, dxx, _, rfl, hrx', lrd_byte, _, rfl, _, _, rfl, rfl, r, a, L, q, 0, _, rfl, hRx, hqx, hknx, by decide, kt.imp (fun tl qy ey hKy Hy by_ hRy => ?_) (fun e _ h => rr bx h)⟩
      have hqy := rdB_le ey (by decide)
      replace hknx := hknx.keep hrx' by_
      replace hsx := hsx.mono fun o z => by_ _ _ sar z
      replace hmx := hmx.mono fun o z => by_ _ _ mar z
      replace hlx := by_ _ _ rlr.1 hlx
      replace bx := bx.trans by_
      replace hKy := hKy.and
      clear kt ey hRx
      obtain ⟨dxy, hry'⟩ := hRy.1
      refine ⟨_, rfl, .inl ⟨rfl, _, SqL.of hlx⟩, _, rfl, _, rfl, r, dxy, _, rfl, hry', lrd_byte, r, a, L, qy, 0, 1, rfl, hRy, hqy, hknx, by decide, hKy.imp (fun wy qz ez hKz Hz bz hRz => ?_) (fun e _ h => rr bx h)⟩
      have hqz := rdB_le ez (by decide)
      replace hknx := hknx.keep hry' bz
      replace hsx := hsx.mono fun o z => bz _ _ sar z
      replace hmx := hmx.mono fun o z => bz _ _ mar z
      replace hlx := bz _ _ rlr.1 hlx
      replace bx := bx.trans bz
      clear hKy ez hRy
      refine ⟨rfl, ?_⟩
      refine ⟨(by show 2 ≤ sizeLine; decide), fun t nt => ?_⟩
      have s11 := sameUpd (o := .tup [.int (tl : Nat), .bl (decide (V.int (wy : Nat) = V.int 1))]) (Same.refl Hz) nt
      replace hsx := hsx.mono fun o z => s11 _ _ z
      replace hmx := hmx.mono fun o z => s11 _ _ z
      replace hlx := s11 _ _ hlx
      replace bx := bx.trans (.of s11)
      replace hRz := hRz.keep s11
      replace hknx := hknx.same s11
      generalize upd Hz t (.tup [.int (tl : Nat), .bl (decide (V.int (wy : Nat) = V.int 1))]) = Hw at *
      refine ⟨rl, _, _, rfl, rfl, hlx, by rw [hxl, sizeLine_eq]; omega, _, _, xs ++ [.ref t], qz, rfl, bx.put rl1, hRz.put rlr.1 rlr.2, hqz, hknx.putL hlx, hsx.mono (fun o z => (upd_ne (Ne.symm rsa)).trans z), hmx.mono (fun o z => (upd_ne (Ne.symm rma)).trans z), upd_same, by rw [List.length_append, hxl]; rfl, by rw [hm2]; exact hKz⟩
    clear hK6 hkn8 hR8 hq6 hsa hma hrl b8
    rintro σ Hx ⟨o6, o7, xs, q, rfl, bx, hRx, hqx, hknx, hsx, hmx, hlx, hxl, kt⟩
    rw [Int.toNat_natCast] at kt
    rw [Nat.sub_self] at kt
    unfold robsM at kt
    replace kt := (Kt.ok kt).and
    -- floor
    refine ⟨_, rfl, _, rfl, by omega, by omega, fun D nD => ?_⟩
    have Dr := hRx.ner nD
    obtain ⟨dxx, hrx'⟩ := hRx.1
    refine lc_range (lo := 0) (n := ((tn : Nat) : Int).toNat) (vs := [7]) (fun j Hy => ∃ (ys : List V) (q : Nat), But r Hx Hy ∧ RdV K Hy r a L q ∧ q ≤ L.length ∧ KnL K Hy L ∧ Hy D = some (.lst ys) ∧ ys.length = j ∧ Kt (floorM L ss.length (tn - j) q) (fun _ q => Kt (rulesM L ms.length ss.length q) PB RR) RR) ⟨[], q, But.new nD, hRx.put Dr.1 Dr.2, hqx, hknx.keep hrx' (But.new nD), upd_same, rfl, kt⟩ ?_ ?_
    · clear kt
      rintro j Hy hj ⟨ys, qy, by_, hRy, hqy, hkny, hDy, hyl, kt⟩
      rw [Int.toNat_natCast] at hj
      obtain ⟨m', hm1, hm2⟩ : ∃ m', tn - j = m' + 1 ∧ tn - (j + 1) = m' := ⟨tn - (j + 1), by omega, rfl⟩
      rw [hm1] at kt
      unfold floorM at kt
      replace kt := kt.and
      obtain ⟨dxy, hry'⟩ := hRy.1
      refine ⟨rfl, _, rfl, r, dxy, _, rfl, hry', lrd_byte, _, rfl, sa, _, rfl, .inr (hsx.mono fun o z => by_ _ _ sar z).sq, _, _, rfl, rfl, r, a, L, qy, 0, ((ss.length : Nat) : Int) - 1, by rw [List.length_map], hRy, hqy, hkny, by decide, kt.imp (fun b qz ez hKz Hz bz hRz => ?_) (fun e _ h => rr (bx.trans by_) h)⟩
      have hqz := rdB_le ez (by decide)
      have hDz := bz _ _ Dr.1 hDy
      refine ⟨_, hDz, by rw [hyl, sizeLine_eq]; omega, ys ++ [.int (b : Nat)], qz, (by_.trans bz).put nD, hRz.put Dr.1 Dr.2, hqz, (hkny.keep hry' bz).putL hDz, upd_same, by rw [List.length_append, hyl]; rfl, by rw [hm2]; exact hKz⟩
    clear kt hRx hqx
    rintro Hy ⟨ys, qy, by_, hRy, hqy, hkny, hDy, hyl, kt⟩
    rw [Int.toNat_natCast] at kt
    rw [Nat.sub_self] at kt
    unfold floorM at kt
    replace kt := Kt.ok kt
    replace hsx := hsx.mono fun o z => by_ _ _ sar z
    replace hmx := hmx.mono fun o z => by_ _ _ mar z
    replace bx := bx.trans by_
    refine ⟨D, _, rfl, .inl ⟨SqL.of hDy, fun fa nfa => ?_⟩⟩
    have s12 := sameUpd (o := .tup ys) (Same.refl Hy) nfa
    replace hsx := hsx.mono fun o z => s12 _ _ z
    replace hmx := hmx.mono fun o z => s12 _ _ z
    replace bx := bx.trans (.of s12)
    replace hRy := hRy.keep s12
    replace hkny := hkny.same s12
    generalize upd Hy fa (.tup ys) = Hz at *
    -- rules
    obtain ⟨dxz, hrz'⟩ := hRy.1
    refine ⟨_, rfl, r, dxz, _, rfl, hrz', lrd_rules, _, rfl, ma, _, rfl, .inr hmx.sq, _, rfl, sa, _, rfl, .inr hsx.sq, r, a, L, qy, ms.length, ss.length, by rw [List.length_map, List.length_map]; rfl, hRy, hqy, hkny, by omega, by omega, kt.imp (fun u q9 e9 hPq rd Hw nrd bw hRw hqw => ?_) (fun e _ h => rr bx h)⟩
    have hknw := hkny.keep hrz' bw
    replace bx := bx.trans bw
    rw [← hPB] at hPq
    obtain ⟨hbody, hK9⟩ := hPq
    have hK9 := hK9.and
    obtain ⟨zs, hzs, hsum⟩ := ints_of (L := L) (p := q9) fun i hi => IR.body u q9 hbody i (Nat.zero_le _) hi
    obtain ⟨dxw, hrw'⟩ := hRw.1
    have ec : cutV L none (some ((q9 : Nat) : Int)) = zs.map V.int := by rw [cut_takeB, hzs]
    refine ⟨_, rfl, _, rfl, r, _, dxw, _, _, rfl, hrw', cl, nat _ (by simp), lrd_place, _, rfl, a, _, rfl, SqL.of hRw.2, fun q nq => ?_⟩
    rw [ec]
    have s13 := sameUpd (o := .lst (zs.map V.int)) (Same.refl Hw) nq
    have hq := @upd_same Hw q (.lst (zs.map V.int))
    replace bx := bx.trans (.of s13)
    replace hRw := hRw.keep s13
    replace hknw := hknw.same s13
    generalize upd Hw q (.lst (zs.map V.int)) = Hv at *
    refine ⟨q, zs, rfl, SqL.of hq, ?_⟩
    refine ⟨_, _, rfl, rfl, (show (0 : Int) < 256 by decide), ?_⟩
    obtain ⟨dxv, hrv'⟩ := hRw.1
    unfold sumM at hK9
    rw [hsum] at hK9
    refine ⟨_, rfl, r, dxv, _, rfl, hrv', lrd_byte, _, rfl, _, rfl, r, a, L, q9, _, _, rfl, hRw, hqw, hknw, Int.emod_nonneg _ (by decide), hK9.imp (fun b q10 e10 hK10 Hu bu hRu => ?_) (fun e _ h => rr bx h)⟩
    replace bx := bx.trans bu
    obtain ⟨dxu, hru'⟩ := hRu.1
    refine ⟨_, rfl, r, _, dxu, _, _, rfl, hru', cl, nat _ (by simp), lrd_place, _, rfl, a, _, rfl, .inl (SqL.of hRu.2), _, _, rfl, rfl, _, rfl, ?_⟩
    refine ite2 (fun h => ?_) (fun h => ?_)
    · have h0 : q10 < L.length := by
        have := of_decide_eq_true h
        omega
      rw [if_pos h0] at hK10
      have hK10 := Kt.err hK10
      refine ⟨_, rfl, r, _, dxu, _, _, rfl, hru', cl, nat _ (by simp), lrd_place, ?_⟩
      exact fault_at rfl (by simp) fun d H2 nd s e => rr bx hK10 d H2 (.of s) e
    · have h0 : ¬ q10 < L.length := by
        have := of_decide_eq_false (Bool.eq_false_iff.mpr h)
        omega
      rw [if_neg h0] at hK10
      exact (Kt.ok hK10).elim
end
end Sw

end

section

set_option maxRecDepth 100000
set_option maxHeartbeats 4000000
set_option pp.deepTerms false
set_option pp.deepTerms.threshold 7
/-! k15: bytes of which the last one is invalid (printed by mkbd.py) -/
namespace Sw
open PySem PySem.Spec PyProof.Rows L2 SwA
theorem at_slots {t : L2.St → Hp → Prop} {σ : L2.St} {H : Hp} (σ' : L2.St) (e : σ = σ') (h : t σ' H) : t σ H := e ▸ h
theorem DrawAt.ne {H : Hp} {d x : Addr} (h : DrawAt H d) (n : H x = none) : d ≠ x := fun z => by
  obtain ⟨a, b, c, l, e⟩ := h
  rw [z, n] at e
  cases e
theorem DrawAt.not {H : Hp} {d x : Addr} {o : HO} (hd : DrawAt H d) (h : H x = some o) (n : ∀ xs, o ≠ .lst xs) : x ≠ d := fun z => by
  obtain ⟨a, b, c, _, e⟩ := hd
  rw [z, e] at h
  exact n _ (Option.some.inj h).symm
def CaseAt (H0 H : Hp) (v : V) (x : List Nat × Nat) : Prop := ∃ t l : Addr, v = .ref t ∧ H t = some (.tup [.ref l, .int (x.2 : Nat)]) ∧ H l = some (.lst (iVs x.1)) ∧ H0 l = none
theorem CaseAt.same {H0 H H' : Hp} {v : V} {x : List Nat × Nat} (h : CaseAt H0 H v x) (s : Same H H') : CaseAt H0 H' v x := let ⟨t, l, e1, e2, e3, e4⟩ := h; ⟨t, l, e1, s _ _ e2, s _ _ e3, e4⟩
theorem Paired_app15 {α β : Type} {F : α → β → Prop} : ∀ {a : List α} {b : List β} {c : List α} {d : List β}, Paired F a b → Paired F c d → Paired F (a ++ c) (b ++ d)
  | _, _, _, _, .nil, h => h
  | _, _, _, _, .cons x t, h => .cons x (Paired_app15 t h)
theorem CaseAt.putC {H0 H : Hp} {v : V} {x : List Nat × Nat} {c a : Addr} {r : List V} {o : HO} (h : CaseAt H0 H v x) (hc : H c = some (.lst (.ref a :: r))) : CaseAt H0 (upd H c o) v x := by
  obtain ⟨t, l, e1, e2, e3, e4⟩ := h
  refine ⟨t, l, e1, (upd_ne fun z => by rw [z, hc] at e2; cases e2).trans e2, (upd_ne fun z => ?_).trans e3, e4⟩
  rw [z, hc] at e3
  cases hx : x.1 with
  | nil => rw [hx] at e3; cases e3
  | cons n m => rw [hx] at e3; cases e3
def badL : List (List Nat × Nat) := [([81], 0), ([82, 0], 1), ([82, 17], 1), ([82, 2, 0], 2), ([82, 2, 5], 2), ([82, 2, 1, 0], 3), ([82, 2, 1, 9], 3), ([82, 2, 1, 1, 26], 4), ([82, 2, 2, 1, 0, 1, 0], 5), ([82, 2, 1, 3, 15, 20, 19], 3), ([82, 2, 2, 1, 0, 1, 1, 7], 7), ([82, 2, 2, 1, 0, 1, 1, 2, 1, 0, 1, 0], 10), ([82, 2, 2, 1, 0, 1, 1, 2, 1, 0, 1, 2, 0], 12), ([82, 2, 2, 1, 0, 1, 1, 2, 1, 0, 1, 2, 4], 12), ([82, 2, 2, 1, 0, 1, 1, 2, 1, 0, 1, 2, 1, 2], 13), ([82, 2, 2, 1, 0, 1, 1, 2, 1, 0, 1, 2, 1, 1, 2], 14), ([82, 2, 2, 1, 0, 1, 1, 2, 1, 0, 1, 2, 1, 1, 1, 2], 15), ([82, 2, 2, 1, 0, 1, 1, 2, 1, 0, 1, 2, 1, 1, 1, 1, 2], 16), ([82, 2, 2, 1, 0, 1, 1, 2, 1, 0, 1, 2, 1, 1, 1, 1, 0, 5], 17), ([82, 2, 2, 1, 0, 1, 1, 2, 1, 0, 1, 2, 1, 1, 1, 1, 0, 1, 2], 18), ([82, 2, 2, 1, 0, 1, 1, 2, 1, 0, 1, 2, 1, 1, 1, 1, 0, 1, 0, 2], 19), ([82, 2, 2, 1, 0, 1, 1, 2, 1, 0, 1, 2, 1, 1, 1, 1, 0, 1, 0, 0, 2], 20), ([82, 2, 2, 1, 0, 1, 1, 2, 1, 0, 1, 2, 1, 1, 1, 1, 0, 1, 0, 0, 0, 3], 21), ([82, 2, 2, 1, 0, 1, 1, 2, 1, 0, 1, 2, 1, 1, 1, 1, 0, 1, 0, 0, 0, 0, 2], 22), ([82, 2, 2, 1, 0, 1, 1, 2, 1, 0, 1, 2, 1, 1, 1, 1, 0, 2, 0, 1, 0, 0, 0, 0], 23), ([82, 2, 2, 1, 0, 1, 1, 2, 1, 0, 1, 2, 1, 1, 1, 1, 0, 2, 1, 0, 0, 0, 0, 0], 23), ([82, 2, 2, 1, 0, 1, 1, 2, 1, 0, 1, 2, 1, 1, 1, 1, 0, 2, 1, 0, 0, 0, 0, 1, 0], 24), ([82, 2, 2, 1, 0, 1, 1, 2, 1, 0, 1, 2, 1, 1, 1, 1, 0, 2, 1, 1, 0, 0, 0, 1], 23)]
def lastL : List Nat × Nat := ([82, 2, 2, 1, 0, 1, 1, 2, 1, 0, 1, 2, 1, 1, 1, 1, 0, 2, 1, 1, 0, 0, 0, 1], 23)
theorem bad_cat : badL = badL.take 27 ++ [lastL] := by decide +kernel
theorem bb_fin {H H' : Hp} {c t : Addr} {cv : List V} (hC : Paired (CaseAt H H') cv (badL.take 27)) (hc : H' c = some (.lst cv)) (zc : H c = none) (f : Same H H') (hl : CaseAt H H' (.ref t) lastL) :
    Same H (upd H' c (.lst (cv ++ [.ref t]))) ∧ Paired (CaseAt H (upd H' c (.lst (cv ++ [.ref t])))) (cv ++ [.ref t]) badL ∧ (cv ++ [V.ref t]).length = 28 ∧ (upd H' c (.lst (cv ++ [.ref t]))) c = some (.lst (cv ++ [.ref t])) := by
  have hlc : cv.length = 27 := by rw [hC.length]; decide +kernel
  obtain ⟨a0, cr, hcr⟩ : ∃ a0 cr, cv = V.ref a0 :: cr := by
    cases hC with
    | cons h _ => obtain ⟨t, _, e, _⟩ := h; exact ⟨t, _, by rw [e]⟩
  have hcC := hc
  rw [hcr] at hcC
  refine ⟨fun b ob e => (upd_ne fun z => by rw [z, zc] at e; cases e).trans (f _ _ e), ?_, by rw [List.length_append, hlc]; rfl, upd_same⟩
  rw [bad_cat]
  exact Paired_app15 (Paired.mapP hC fun _ _ q => q.putC hcC) (.cons (hl.putC hcC) .nil)
structure BbT (K : PySem.W.Frag) (mg : Str → Option Value) : Prop where
  l : LawT K mg
  bb : DeT K mg "_law_bad_bytes" s__law_bad_bytes
section
variable {P : Program} {w : World} {K : PySem.W.Frag} {mg : Str → Option Value} {base : Heap}
def spBad : Sp := fun vs H Q _ => ∃ (d : Addr), vs = [.ref d] ∧ DrawAt H d ∧ ∀ (t l : Addr) (x : List Nat × Nat) (H' : Hp), Drawn d H H' → x ∈ badL → H l = none → H' t = some (.tup [.ref l, .int (x.2 : Nat)]) → H' l = some (.lst (iVs x.1)) → Q (.ref t) H'
abbrev bbN : List Str := ["_law_d", "_law_names", "_law_robots", "_law_rules", "_law_cases"]
theorem sc_bb : FnScope bbN ["_law_d"] (defScope s__law_bad_bytes) := ⟨rfl, rfl, rfl, by decide +kernel, rfl, by decide +kernel, by decide +kernel⟩
theorem ok_bb (T : BbT K mg) : FnE P w K mg base CX0 2 ("_law_bad_bytes", none) ["_law_d"] spBad := by
  obtain ⟨fd, F⟩ := T.bb.d
  obtain ⟨fdB, GB, bB, kB⟩ := ok_below (P := P) (w := w) (base := base) T.l
  refine ⟨fd, F.ok sc_bb (fun vs H Q E h => ?_) (fun cdv A outer s H vs Q E hr h => ?_), F.bindsN fun _ _ _ _ _ _ us hl => match us, hl with | [_], _ => rfl, F.kp⟩
  · obtain ⟨d, rfl, _⟩ := h
    rfl
  · obtain ⟨d, rfl, hd, k⟩ := h
    have hr1 : Room 1 _ := hr.mono (by decide)
    refine ⟨_, PSs.nox (pss_cons (ps_set (i := 1) sc_bb.nd rfl (.inl rfl) (pe_lst (pa_cons pe_int (pa_cons pe_int (pa_cons pe_int (pa_cons pe_int (pa_cons pe_int (pa_cons pe_int (pa_cons pe_int (pa_cons pe_int (pa_cons pe_int (pa_cons pe_int (pa_cons pe_int (pa_cons pe_int pa_nil))))))))))))))
      (pss_cons (ps_set (i := 2) sc_bb.nd rfl (.inl rfl) (pe_op op_cat (pv 1) (pe_lst (pa_cons pe_int (pa_cons pe_int (pa_cons pe_int pa_nil))))))
      (pss_cons (ps_set (i := 3) sc_bb.nd rfl (.inl rfl) (pe_op op_cat (pv 2) (pe_lst (pa_cons pe_int (pa_cons pe_int pa_nil)))))
      (pss_cons (ps_set (i := 4) sc_bb.nd rfl (.inl rfl) (pe_lst (pa_cons (pe_tup (pa_cons (pe_lst (pa_cons pe_int pa_nil)) (pa_cons pe_int pa_nil))) (pa_cons (pe_tup (pa_cons (pe_lst (pa_cons pe_int (pa_cons pe_int pa_nil))) (pa_cons pe_int pa_nil))) (pa_cons (pe_tup (pa_cons (pe_lst (pa_cons pe_int (pa_cons pe_int pa_nil))) (pa_cons pe_int pa_nil))) (pa_cons (pe_tup (pa_cons (pe_lst (pa_cons pe_int (pa_cons pe_int (pa_cons pe_int pa_nil)))) (pa_cons pe_int pa_nil))) (pa_cons (pe_tup (pa_cons (pe_lst (pa_cons pe_int (pa_cons pe_int (pa_cons pe_int pa_nil)))) (pa_cons pe_int pa_nil))) (pa_cons (pe_tup (pa_cons (pe_lst (pa_cons pe_int (pa_cons pe_int (pa_cons pe_int (pa_cons pe_int pa_nil))))) (pa_cons pe_int pa_nil))) pa_nil))))))))
      (pss_cons (ps_set (i := 4) sc_bb.nd rfl (.inl rfl) (pe_op op_cat (pv 4) (pe_lst (pa_cons (pe_tup (pa_cons (pe_lst (pa_cons pe_int (pa_cons pe_int (pa_cons pe_int (pa_cons pe_int pa_nil))))) (pa_cons pe_int pa_nil))) (pa_cons (pe_tup (pa_cons (pe_lst (pa_cons pe_int (pa_cons pe_int (pa_cons pe_int (pa_cons pe_int (pa_cons pe_int pa_nil)))))) (pa_cons pe_int pa_nil))) (pa_cons (pe_tup (pa_cons (pe_lst (pa_cons pe_int (pa_cons pe_int (pa_cons pe_int (pa_cons pe_int (pa_cons pe_int (pa_cons pe_int (pa_cons pe_int pa_nil)))))))) (pa_cons pe_int pa_nil))) pa_nil))))))
      (pss_cons (ps_set (i := 4) sc_bb.nd rfl (.inl rfl) (pe_op op_cat (pv 4) (pe_lst (pa_cons (pe_tup (pa_cons (pe_lst (pa_cons pe_int (pa_cons pe_int (pa_cons pe_int (pa_cons pe_int (pa_cons pe_int (pa_cons pe_int (pa_cons pe_int pa_nil)))))))) (pa_cons pe_int pa_nil))) (pa_cons (pe_tup (pa_cons (pe_op op_cat (pe_slice sl_list (pv 1) po_none (po_some pe_int)) (pe_lst (pa_cons pe_int pa_nil))) (pa_cons pe_int pa_nil))) (pa_cons (pe_tup (pa_cons (pe_op op_cat (pe_slice sl_list (pv 1) po_none (po_some pe_int)) (pe_lst (pa_cons pe_int (pa_cons pe_int pa_nil)))) (pa_cons pe_int pa_nil))) pa_nil))))))
      (pss_cons (ps_set (i := 4) sc_bb.nd rfl (.inl rfl) (pe_op op_cat (pv 4) (pe_lst (pa_cons (pe_tup (pa_cons (pe_op op_cat (pv 1) (pe_lst (pa_cons pe_int pa_nil))) (pa_cons pe_int pa_nil))) (pa_cons (pe_tup (pa_cons (pe_op op_cat (pv 1) (pe_lst (pa_cons pe_int pa_nil))) (pa_cons pe_int pa_nil))) (pa_cons (pe_tup (pa_cons (pe_op op_cat (pv 1) (pe_lst (pa_cons pe_int (pa_cons pe_int pa_nil)))) (pa_cons pe_int pa_nil))) (pa_cons (pe_tup (pa_cons (pe_op op_cat (pv 1) (pe_lst (pa_cons pe_int (pa_cons pe_int (pa_cons pe_int pa_nil))))) (pa_cons pe_int pa_nil))) pa_nil)))))))
      (pss_cons (ps_set (i := 4) sc_bb.nd rfl (.inl rfl) (pe_op op_cat (pv 4) (pe_lst (pa_cons (pe_tup (pa_cons (pe_op op_cat (pv 2) (pe_lst (pa_cons pe_int pa_nil))) (pa_cons pe_int pa_nil))) (pa_cons (pe_tup (pa_cons (pe_op op_cat (pv 2) (pe_lst (pa_cons pe_int (pa_cons pe_int pa_nil)))) (pa_cons pe_int pa_nil))) (pa_cons (pe_tup (pa_cons (pe_op op_cat (pv 3) (pe_lst (pa_cons pe_int pa_nil))) (pa_cons pe_int pa_nil))) (pa_cons (pe_tup (pa_cons (pe_op op_cat (pv 3) (pe_lst (pa_cons pe_int (pa_cons pe_int pa_nil)))) (pa_cons pe_int pa_nil))) pa_nil)))))))
      (pss_cons (ps_set (i := 4) sc_bb.nd rfl (.inl rfl) (pe_op op_cat (pv 4) (pe_lst (pa_cons (pe_tup (pa_cons (pe_op op_cat (pv 3) (pe_lst (pa_cons pe_int (pa_cons pe_int (pa_cons pe_int pa_nil))))) (pa_cons pe_int pa_nil))) (pa_cons (pe_tup (pa_cons (pe_op op_cat (pv 3) (pe_lst (pa_cons pe_int (pa_cons pe_int (pa_cons pe_int (pa_cons pe_int pa_nil)))))) (pa_cons pe_int pa_nil))) (pa_cons (pe_tup (pa_cons (pe_op op_cat (pv 3) (pe_lst (pa_cons pe_int (pa_cons pe_int (pa_cons pe_int (pa_cons pe_int (pa_cons pe_int pa_nil))))))) (pa_cons pe_int pa_nil))) pa_nil))))))
      (pss_cons (ps_set (i := 4) sc_bb.nd rfl (.inl rfl) (pe_op op_cat (pv 4) (pe_lst (pa_cons (pe_tup (pa_cons (pe_op op_cat (pv 3) (pe_lst (pa_cons pe_int (pa_cons pe_int (pa_cons pe_int (pa_cons pe_int (pa_cons pe_int (pa_cons pe_int pa_nil)))))))) (pa_cons pe_int pa_nil))) (pa_cons (pe_tup (pa_cons (pe_op op_cat (pv 3) (pe_lst (pa_cons pe_int (pa_cons pe_int (pa_cons pe_int (pa_cons pe_int (pa_cons pe_int (pa_cons pe_int (pa_cons pe_int pa_nil))))))))) (pa_cons pe_int pa_nil))) pa_nil)))))
      (pss_cons (ps_set (i := 4) sc_bb.nd rfl (.inl rfl) (pe_op op_cat (pv 4) (pe_lst (pa_cons (pe_tup (pa_cons (pe_op op_cat (pv 3) (pe_lst (pa_cons pe_int (pa_cons pe_int (pa_cons pe_int (pa_cons pe_int (pa_cons pe_int (pa_cons pe_int (pa_cons pe_int pa_nil))))))))) (pa_cons pe_int pa_nil))) (pa_cons (pe_tup (pa_cons (pe_op op_cat (pv 3) (pe_lst (pa_cons pe_int (pa_cons pe_int (pa_cons pe_int (pa_cons pe_int (pa_cons pe_int (pa_cons pe_int (pa_cons pe_int (pa_cons pe_int pa_nil)))))))))) (pa_cons pe_int pa_nil))) pa_nil)))))
      (pss_cons (ps_expr (pe_bm PySem.F.plainAttrs_list PySem.F.slot_list_append PySem.F.type_list_append mt_append (pv 4) (pa_cons (pe_tup (pa_cons (pe_op op_cat (pv 3) (pe_lst (pa_cons pe_int (pa_cons pe_int (pa_cons pe_int (pa_cons pe_int (pa_cons pe_int (pa_cons pe_int (pa_cons pe_int pa_nil))))))))) (pa_cons pe_int pa_nil))) pa_nil)))
      (pss_one (ps_ret (pe_ix ix_list (pv 4) (pe_call GB hr1 rfl T.l.below.g kB bB .nil pass0 (pa_cons (pv 0) (pa_cons (pe_callB call_len_seq (by rfl) T.l.len boot_len (pa_cons (pv 4) pa_nil)) pa_nil))) (fun _ _ => rfl)))))))))))))))), ?_⟩
    refine ⟨(by show 12 ≤ sizeLine; decide), fun l1 nl1 => ?_⟩
    have zl1 := nl1
    have s1 := sameUpd (o := .lst [.int 82, .int 2, .int 2, .int 1, .int 0, .int 1, .int 1, .int 2, .int 1, .int 0, .int 1, .int 2]) (Same.refl H) nl1
    have hl1 := @upd_same H l1 (.lst [.int 82, .int 2, .int 2, .int 1, .int 0, .int 1, .int 1, .int 2, .int 1, .int 0, .int 1, .int 2])
    generalize upd H l1 (.lst [.int 82, .int 2, .int 2, .int 1, .int 0, .int 1, .int 1, .int 2, .int 1, .int 0, .int 1, .int 2]) = H1 at *
    have f := s1
    clear s1 nl1
    clear zl1
    obtain ⟨NM, qNM, eNM⟩ : ∃ zs, zs = [.int 82, .int 2, .int 2, .int 1, .int 0, .int 1, .int 1, .int 2, .int 1, .int 0, .int 1, .int 2] ∧ zs = iVs [82, 2, 2, 1, 0, 1, 1, 2, 1, 0, 1, 2] := ⟨_, rfl, rfl⟩
    have lNM : NM.length = 12 := by rw [eNM]; rfl
    rw [← qNM] at hl1
    clear qNM
    dsimp only [gName]
    refine at_slots [some (.ref d), some (.ref l1), none, none, none] rfl ?_
    refine ⟨_, rfl, (by show 3 ≤ sizeLine; decide), fun l2 nl2 => ?_⟩
    have s2 := sameUpd (o := .lst [.int 1, .int 1, .int 1]) (Same.refl H1) nl2
    have hl2 := @upd_same H1 l2 (.lst [.int 1, .int 1, .int 1])
    replace hl1 := s2 _ _ hl1
    replace f := f.trans s2
    generalize upd H1 l2 (.lst [.int 1, .int 1, .int 1]) = H2 at *
    clear s2 nl2
    refine ⟨l1, l2, _, _, rfl, rfl, hl1, hl2, (by rw [lNM]; show 12 + 3 ≤ sizeLine; decide), fun l3 nl3 => ?_⟩
    have zl3 := f.free nl3
    have s3 := sameUpd (o := .lst (NM ++ [.int 1, .int 1, .int 1])) (Same.refl H2) nl3
    have hl3 := @upd_same H2 l3 (.lst (NM ++ [.int 1, .int 1, .int 1]))
    replace hl1 := s3 _ _ hl1
    replace hl2 := s3 _ _ hl2
    replace f := f.trans s3
    generalize upd H2 l3 (.lst (NM ++ [.int 1, .int 1, .int 1])) = H3 at *
    clear s3 nl3
    clear hl2
    clear zl3
    obtain ⟨RB, qRB, eRB⟩ : ∃ zs, zs = (NM ++ [.int 1, .int 1, .int 1]) ∧ zs = iVs [82, 2, 2, 1, 0, 1, 1, 2, 1, 0, 1, 2, 1, 1, 1] := ⟨_, rfl, by rw [eNM]; rfl⟩
    have lRB : RB.length = 15 := by rw [eRB]; rfl
    rw [← qRB] at hl3
    clear qRB
    dsimp only [gName]
    refine at_slots [some (.ref d), some (.ref l1), some (.ref l3), none, none] rfl ?_
    refine ⟨_, rfl, (by show 2 ≤ sizeLine; decide), fun l4 nl4 => ?_⟩
    have s4 := sameUpd (o := .lst [.int 1, .int 0]) (Same.refl H3) nl4
    have hl4 := @upd_same H3 l4 (.lst [.int 1, .int 0])
    replace hl1 := s4 _ _ hl1
    replace hl3 := s4 _ _ hl3
    replace f := f.trans s4
    generalize upd H3 l4 (.lst [.int 1, .int 0]) = H4 at *
    clear s4 nl4
    refine ⟨l3, l4, _, _, rfl, rfl, hl3, hl4, (by rw [lRB]; show 15 + 2 ≤ sizeLine; decide), fun l5 nl5 => ?_⟩
    have zl5 := f.free nl5
    have s5 := sameUpd (o := .lst (RB ++ [.int 1, .int 0])) (Same.refl H4) nl5
    have hl5 := @upd_same H4 l5 (.lst (RB ++ [.int 1, .int 0]))
    replace hl1 := s5 _ _ hl1
    replace hl3 := s5 _ _ hl3
    replace hl4 := s5 _ _ hl4
    replace f := f.trans s5
    generalize upd H4 l5 (.lst (RB ++ [.int 1, .int 0])) = H5 at *
    clear s5 nl5
    clear hl4
    clear zl5
    obtain ⟨RU, qRU, eRU⟩ : ∃ zs, zs = (RB ++ [.int 1, .int 0]) ∧ zs = iVs [82, 2, 2, 1, 0, 1, 1, 2, 1, 0, 1, 2, 1, 1, 1, 1, 0] := ⟨_, rfl, by rw [eRB]; rfl⟩
    have lRU : RU.length = 17 := by rw [eRU]; rfl
    rw [← qRU] at hl5
    clear qRU
    dsimp only [gName]
    refine at_slots [some (.ref d), some (.ref l1), some (.ref l3), some (.ref l5), none] rfl ?_
    refine ⟨(by show 1 ≤ sizeLine; decide), fun l6 nl6 => ?_⟩
    have zl6 := f.free nl6
    have s6 := sameUpd (o := .lst [.int 81]) (Same.refl H5) nl6
    have hl6 := @upd_same H5 l6 (.lst [.int 81])
    replace hl1 := s6 _ _ hl1
    replace hl3 := s6 _ _ hl3
    replace hl5 := s6 _ _ hl5
    replace f := f.trans s6
    generalize upd H5 l6 (.lst [.int 81]) = H6 at *
    clear s6 nl6
    refine ⟨(by show 2 ≤ sizeLine; decide), fun t7 nt7 => ?_⟩
    have s7 := sameUpd (o := .tup [.ref l6, .int 0]) (Same.refl H6) nt7
    have ht7 := @upd_same H6 t7 (.tup [.ref l6, .int 0])
    replace hl1 := s7 _ _ hl1
    replace hl3 := s7 _ _ hl3
    replace hl5 := s7 _ _ hl5
    replace hl6 := s7 _ _ hl6
    replace f := f.trans s7
    generalize upd H6 t7 (.tup [.ref l6, .int 0]) = H7 at *
    clear s7 nt7
    refine ⟨(by show 2 ≤ sizeLine; decide), fun l8 nl8 => ?_⟩
    have zl8 := f.free nl8
    have s8 := sameUpd (o := .lst [.int 82, .int 0]) (Same.refl H7) nl8
    have hl8 := @upd_same H7 l8 (.lst [.int 82, .int 0])
    replace hl1 := s8 _ _ hl1
    replace hl3 := s8 _ _ hl3
    replace hl5 := s8 _ _ hl5
    replace hl6 := s8 _ _ hl6
    replace ht7 := s8 _ _ ht7
    replace f := f.trans s8
    generalize upd H7 l8 (.lst [.int 82, .int 0]) = H8 at *
    clear s8 nl8
    refine ⟨(by show 2 ≤ sizeLine; decide), fun t9 nt9 => ?_⟩
    have s9 := sameUpd (o := .tup [.ref l8, .int 1]) (Same.refl H8) nt9
    have ht9 := @upd_same H8 t9 (.tup [.ref l8, .int 1])
    replace hl1 := s9 _ _ hl1
    replace hl3 := s9 _ _ hl3
    replace hl5 := s9 _ _ hl5
    replace hl6 := s9 _ _ hl6
    replace ht7 := s9 _ _ ht7
    replace hl8 := s9 _ _ hl8
    replace f := f.trans s9
    generalize upd H8 t9 (.tup [.ref l8, .int 1]) = H9 at *
    clear s9 nt9
    refine ⟨(by show 2 ≤ sizeLine; decide), fun l10 nl10 => ?_⟩
    have zl10 := f.free nl10
    have s10 := sameUpd (o := .lst [.int 82, .int 17]) (Same.refl H9) nl10
    have hl10 := @upd_same H9 l10 (.lst [.int 82, .int 17])
    replace hl1 := s10 _ _ hl1
    replace hl3 := s10 _ _ hl3
    replace hl5 := s10 _ _ hl5
    replace hl6 := s10 _ _ hl6
    replace ht7 := s10 _ _ ht7
    replace hl8 := s10 _ _ hl8
    replace ht9 := s10 _ _ ht9
    replace f := f.trans s10
    generalize upd H9 l10 (.lst [.int 82, .int 17]) = H10 at *
    clear s10 nl10
    refine ⟨(by show 2 ≤ sizeLine; decide), fun t11 nt11 => ?_⟩
    have s11 := sameUpd (o := .tup [.ref l10, .int 1]) (Same.refl H10) nt11
    have ht11 := @upd_same H10 t11 (.tup [.ref l10, .int 1])
    replace hl1 := s11 _ _ hl1
    replace hl3 := s11 _ _ hl3
    replace hl5 := s11 _ _ hl5
    replace hl6 := s11 _ _ hl6
    replace ht7 := s11 _ _ ht7
    replace hl8 := s11 _ _ hl8
    replace ht9 := s11 _ _ ht9
    replace hl10 := s11 _ _ hl10
    replace f := f.trans s11
    generalize upd H10 t11 (.tup [.ref l10, .int 1]) = H11 at *
    clear s11 nt11
    refine ⟨(by show 3 ≤ sizeLine; decide), fun l12 nl12 => ?_⟩
    have zl12 := f.free nl12
    have s12 := sameUpd (o := .lst [.int 82, .int 2, .int 0]) (Same.refl H11) nl12
    have hl12 := @upd_same H11 l12 (.lst [.int 82, .int 2, .int 0])
    replace hl1 := s12 _ _ hl1
    replace hl3 := s12 _ _ hl3
    replace hl5 := s12 _ _ hl5
    replace hl6 := s12 _ _ hl6
    replace ht7 := s12 _ _ ht7
    replace hl8 := s12 _ _ hl8
    replace ht9 := s12 _ _ ht9
    replace hl10 := s12 _ _ hl10
    replace ht11 := s12 _ _ ht11
    replace f := f.trans s12
    generalize upd H11 l12 (.lst [.int 82, .int 2, .int 0]) = H12 at *
    clear s12 nl12
    refine ⟨(by show 2 ≤ sizeLine; decide), fun t13 nt13 => ?_⟩
    have s13 := sameUpd (o := .tup [.ref l12, .int 2]) (Same.refl H12) nt13
    have ht13 := @upd_same H12 t13 (.tup [.ref l12, .int 2])
    replace hl1 := s13 _ _ hl1
    replace hl3 := s13 _ _ hl3
    replace hl5 := s13 _ _ hl5
    replace hl6 := s13 _ _ hl6
    replace ht7 := s13 _ _ ht7
    replace hl8 := s13 _ _ hl8
    replace ht9 := s13 _ _ ht9
    replace hl10 := s13 _ _ hl10
    replace ht11 := s13 _ _ ht11
    replace hl12 := s13 _ _ hl12
    replace f := f.trans s13
    generalize upd H12 t13 (.tup [.ref l12, .int 2]) = H13 at *
    clear s13 nt13
    refine ⟨(by show 3 ≤ sizeLine; decide), fun l14 nl14 => ?_⟩
    have zl14 := f.free nl14
    have s14 := sameUpd (o := .lst [.int 82, .int 2, .int 5]) (Same.refl H13) nl14
    have hl14 := @upd_same H13 l14 (.lst [.int 82, .int 2, .int 5])
    replace hl1 := s14 _ _ hl1
    replace hl3 := s14 _ _ hl3
    replace hl5 := s14 _ _ hl5
    replace hl6 := s14 _ _ hl6
    replace ht7 := s14 _ _ ht7
    replace hl8 := s14 _ _ hl8
    replace ht9 := s14 _ _ ht9
    replace hl10 := s14 _ _ hl10
    replace ht11 := s14 _ _ ht11
    replace hl12 := s14 _ _ hl12
    replace ht13 := s14 _ _ ht13
    replace f := f.trans s14
    generalize upd H13 l14 (.lst [.int 82, .int 2, .int 5]) = H14 at *
    clear s14 nl14
    refine ⟨(by show 2 ≤ sizeLine; decide), fun t15 nt15 => ?_⟩
    have s15 := sameUpd (o := .tup [.ref l14, .int 2]) (Same.refl H14) nt15
    have ht15 := @upd_same H14 t15 (.tup [.ref l14, .int 2])
    replace hl1 := s15 _ _ hl1
    replace hl3 := s15 _ _ hl3
    replace hl5 := s15 _ _ hl5
    replace hl6 := s15 _ _ hl6
    replace ht7 := s15 _ _ ht7
    replace hl8 := s15 _ _ hl8
    replace ht9 := s15 _ _ ht9
    replace hl10 := s15 _ _ hl10
    replace ht11 := s15 _ _ ht11
    replace hl12 := s15 _ _ hl12
    replace ht13 := s15 _ _ ht13
    replace hl14 := s15 _ _ hl14
    replace f := f.trans s15
    generalize upd H14 t15 (.tup [.ref l14, .int 2]) = H15 at *
    clear s15 nt15
    refine ⟨(by show 4 ≤ sizeLine; decide), fun l16 nl16 => ?_⟩
    have zl16 := f.free nl16
    have s16 := sameUpd (o := .lst [.int 82, .int 2, .int 1, .int 0]) (Same.refl H15) nl16
    have hl16 := @upd_same H15 l16 (.lst [.int 82, .int 2, .int 1, .int 0])
    replace hl1 := s16 _ _ hl1
    replace hl3 := s16 _ _ hl3
    replace hl5 := s16 _ _ hl5
    replace hl6 := s16 _ _ hl6
    replace ht7 := s16 _ _ ht7
    replace hl8 := s16 _ _ hl8
    replace ht9 := s16 _ _ ht9
    replace hl10 := s16 _ _ hl10
    replace ht11 := s16 _ _ ht11
    replace hl12 := s16 _ _ hl12
    replace ht13 := s16 _ _ ht13
    replace hl14 := s16 _ _ hl14
    replace ht15 := s16 _ _ ht15
    replace f := f.trans s16
    generalize upd H15 l16 (.lst [.int 82, .int 2, .int 1, .int 0]) = H16 at *
    clear s16 nl16
    refine ⟨(by show 2 ≤ sizeLine; decide), fun t17 nt17 => ?_⟩
    have s17 := sameUpd (o := .tup [.ref l16, .int 3]) (Same.refl H16) nt17
    have ht17 := @upd_same H16 t17 (.tup [.ref l16, .int 3])
    replace hl1 := s17 _ _ hl1
    replace hl3 := s17 _ _ hl3
    replace hl5 := s17 _ _ hl5
    replace hl6 := s17 _ _ hl6
    replace ht7 := s17 _ _ ht7
    replace hl8 := s17 _ _ hl8
    replace ht9 := s17 _ _ ht9
    replace hl10 := s17 _ _ hl10
    replace ht11 := s17 _ _ ht11
    replace hl12 := s17 _ _ hl12
    replace ht13 := s17 _ _ ht13
    replace hl14 := s17 _ _ hl14
    replace ht15 := s17 _ _ ht15
    replace hl16 := s17 _ _ hl16
    replace f := f.trans s17
    generalize upd H16 t17 (.tup [.ref l16, .int 3]) = H17 at *
    clear s17 nt17
    refine ⟨(by show 6 ≤ sizeLine; decide), fun c18 nc18 => ?_⟩
    have s18 := sameUpd (o := .lst [.ref t7, .ref t9, .ref t11, .ref t13, .ref t15, .ref t17]) (Same.refl H17) nc18
    have hc18 := @upd_same H17 c18 (.lst [.ref t7, .ref t9, .ref t11, .ref t13, .ref t15, .ref t17])
    replace hl1 := s18 _ _ hl1
    replace hl3 := s18 _ _ hl3
    replace hl5 := s18 _ _ hl5
    replace hl6 := s18 _ _ hl6
    replace ht7 := s18 _ _ ht7
    replace hl8 := s18 _ _ hl8
    replace ht9 := s18 _ _ ht9
    replace hl10 := s18 _ _ hl10
    replace ht11 := s18 _ _ ht11
    replace hl12 := s18 _ _ hl12
    replace ht13 := s18 _ _ ht13
    replace hl14 := s18 _ _ hl14
    replace ht15 := s18 _ _ ht15
    replace hl16 := s18 _ _ hl16
    replace ht17 := s18 _ _ ht17
    replace f := f.trans s18
    generalize upd H17 c18 (.lst [.ref t7, .ref t9, .ref t11, .ref t13, .ref t15, .ref t17]) = H18 at *
    clear s18 nc18
    obtain ⟨cv, hcv, hC⟩ : ∃ cv, [V.ref t7, V.ref t9, V.ref t11, V.ref t13, V.ref t15, V.ref t17] = cv ∧ Paired (CaseAt H H18) cv (badL.take 6) := ⟨_, rfl, .cons ⟨t7, l6, rfl, ht7, hl6, zl6⟩ (.cons ⟨t9, l8, rfl, ht9, hl8, zl8⟩ (.cons ⟨t11, l10, rfl, ht11, hl10, zl10⟩ (.cons ⟨t13, l12, rfl, ht13, hl12, zl12⟩ (.cons ⟨t15, l14, rfl, ht15, hl14, zl14⟩ (.cons ⟨t17, l16, rfl, ht17, hl16, zl16⟩ (.nil))))))⟩
    rw [hcv] at hc18
    clear hcv
    clear hl6 hl8 hl10 hl12 hl14 hl16 ht7 ht9 ht11 ht13 ht15 ht17 zl6 zl8 zl10 zl12 zl14 zl16
    dsimp only [gName]
    refine at_slots [some (.ref d), some (.ref l1), some (.ref l3), some (.ref l5), some (.ref c18)] rfl ?_
    refine ⟨_, rfl, (by show 4 ≤ sizeLine; decide), fun l19 nl19 => ?_⟩
    have zl19 := f.free nl19
    have s19 := sameUpd (o := .lst [.int 82, .int 2, .int 1, .int 9]) (Same.refl H18) nl19
    have hl19 := @upd_same H18 l19 (.lst [.int 82, .int 2, .int 1, .int 9])
    replace hl1 := s19 _ _ hl1
    replace hl3 := s19 _ _ hl3
    replace hl5 := s19 _ _ hl5
    replace hc18 := s19 _ _ hc18
    replace f := f.trans s19
    replace hC := Paired.mapP hC fun _ _ q => q.same s19
    generalize upd H18 l19 (.lst [.int 82, .int 2, .int 1, .int 9]) = H19 at *
    clear s19 nl19
    refine ⟨(by show 2 ≤ sizeLine; decide), fun t20 nt20 => ?_⟩
    have s20 := sameUpd (o := .tup [.ref l19, .int 3]) (Same.refl H19) nt20
    have ht20 := @upd_same H19 t20 (.tup [.ref l19, .int 3])
    replace hl1 := s20 _ _ hl1
    replace hl3 := s20 _ _ hl3
    replace hl5 := s20 _ _ hl5
    replace hc18 := s20 _ _ hc18
    replace hl19 := s20 _ _ hl19
    replace f := f.trans s20
    replace hC := Paired.mapP hC fun _ _ q => q.same s20
    generalize upd H19 t20 (.tup [.ref l19, .int 3]) = H20 at *
    clear s20 nt20
    refine ⟨(by show 5 ≤ sizeLine; decide), fun l21 nl21 => ?_⟩
    have zl21 := f.free nl21
    have s21 := sameUpd (o := .lst [.int 82, .int 2, .int 1, .int 1, .int 26]) (Same.refl H20) nl21
    have hl21 := @upd_same H20 l21 (.lst [.int 82, .int 2, .int 1, .int 1, .int 26])
    replace hl1 := s21 _ _ hl1
    replace hl3 := s21 _ _ hl3
    replace hl5 := s21 _ _ hl5
    replace hc18 := s21 _ _ hc18
    replace hl19 := s21 _ _ hl19
    replace ht20 := s21 _ _ ht20
    replace f := f.trans s21
    replace hC := Paired.mapP hC fun _ _ q => q.same s21
    generalize upd H20 l21 (.lst [.int 82, .int 2, .int 1, .int 1, .int 26]) = H21 at *
    clear s21 nl21
    refine ⟨(by show 2 ≤ sizeLine; decide), fun t22 nt22 => ?_⟩
    have s22 := sameUpd (o := .tup [.ref l21, .int 4]) (Same.refl H21) nt22
    have ht22 := @upd_same H21 t22 (.tup [.ref l21, .int 4])
    replace hl1 := s22 _ _ hl1
    replace hl3 := s22 _ _ hl3
    replace hl5 := s22 _ _ hl5
    replace hc18 := s22 _ _ hc18
    replace hl19 := s22 _ _ hl19
    replace ht20 := s22 _ _ ht20
    replace hl21 := s22 _ _ hl21
    replace f := f.trans s22
    replace hC := Paired.mapP hC fun _ _ q => q.same s22
    generalize upd H21 t22 (.tup [.ref l21, .int 4]) = H22 at *
    clear s22 nt22
    refine ⟨(by show 7 ≤ sizeLine; decide), fun l23 nl23 => ?_⟩
    have zl23 := f.free nl23
    have s23 := sameUpd (o := .lst [.int 82, .int 2, .int 2, .int 1, .int 0, .int 1, .int 0]) (Same.refl H22) nl23
    have hl23 := @upd_same H22 l23 (.lst [.int 82, .int 2, .int 2, .int 1, .int 0, .int 1, .int 0])
    replace hl1 := s23 _ _ hl1
    replace hl3 := s23 _ _ hl3
    replace hl5 := s23 _ _ hl5
    replace hc18 := s23 _ _ hc18
    replace hl19 := s23 _ _ hl19
    replace ht20 := s23 _ _ ht20
    replace hl21 := s23 _ _ hl21
    replace ht22 := s23 _ _ ht22
    replace f := f.trans s23
    replace hC := Paired.mapP hC fun _ _ q => q.same s23
    generalize upd H22 l23 (.lst [.int 82, .int 2, .int 2, .int 1, .int 0, .int 1, .int 0]) = H23 at *
    clear s23 nl23
    refine ⟨(by show 2 ≤ sizeLine; decide), fun t24 nt24 => ?_⟩
    have s24 := sameUpd (o := .tup [.ref l23, .int 5]) (Same.refl H23) nt24
    have ht24 := @upd_same H23 t24 (.tup [.ref l23, .int 5])
    replace hl1 := s24 _ _ hl1
    replace hl3 := s24 _ _ hl3
    replace hl5 := s24 _ _ hl5
    replace hc18 := s24 _ _ hc18
    replace hl19 := s24 _ _ hl19
    replace ht20 := s24 _ _ ht20
    replace hl21 := s24 _ _ hl21
    replace ht22 := s24 _ _ ht22
    replace hl23 := s24 _ _ hl23
    replace f := f.trans s24
    replace hC := Paired.mapP hC fun _ _ q => q.same s24
    generalize upd H23 t24 (.tup [.ref l23, .int 5]) = H24 at *
    clear s24 nt24
    refine ⟨(by show 3 ≤ sizeLine; decide), fun c25 nc25 => ?_⟩
    have s25 := sameUpd (o := .lst [.ref t20, .ref t22, .ref t24]) (Same.refl H24) nc25
    have hc25 := @upd_same H24 c25 (.lst [.ref t20, .ref t22, .ref t24])
    replace hl1 := s25 _ _ hl1
    replace hl3 := s25 _ _ hl3
    replace hl5 := s25 _ _ hl5
    replace hc18 := s25 _ _ hc18
    replace hl19 := s25 _ _ hl19
    replace ht20 := s25 _ _ ht20
    replace hl21 := s25 _ _ hl21
    replace ht22 := s25 _ _ ht22
    replace hl23 := s25 _ _ hl23
    replace ht24 := s25 _ _ ht24
    replace f := f.trans s25
    replace hC := Paired.mapP hC fun _ _ q => q.same s25
    generalize upd H24 c25 (.lst [.ref t20, .ref t22, .ref t24]) = H25 at *
    clear s25 nc25
    have hlc : cv.length = 6 := hC.length
    refine ⟨c18, c25, _, _, rfl, rfl, hc18, hc25, (by rw [hlc]; show 6 + 3 ≤ sizeLine; decide), fun c26 nc26 => ?_⟩
    have s26 := sameUpd (o := .lst (cv ++ [.ref t20, .ref t22, .ref t24])) (Same.refl H25) nc26
    have hc26 := @upd_same H25 c26 (.lst (cv ++ [.ref t20, .ref t22, .ref t24]))
    replace hl1 := s26 _ _ hl1
    replace hl3 := s26 _ _ hl3
    replace hl5 := s26 _ _ hl5
    replace hc18 := s26 _ _ hc18
    replace hl19 := s26 _ _ hl19
    replace ht20 := s26 _ _ ht20
    replace hl21 := s26 _ _ hl21
    replace ht22 := s26 _ _ ht22
    replace hl23 := s26 _ _ hl23
    replace ht24 := s26 _ _ ht24
    replace hc25 := s26 _ _ hc25
    replace f := f.trans s26
    replace hC := Paired.mapP hC fun _ _ q => q.same s26
    generalize upd H25 c26 (.lst (cv ++ [.ref t20, .ref t22, .ref t24])) = H26 at *
    clear s26 nc26
    obtain ⟨cv9, hcw, hD⟩ : ∃ cw, cv ++ [V.ref t20, V.ref t22, V.ref t24] = cw ∧ Paired (CaseAt H H26) cw (badL.take 9) := ⟨_, rfl, Paired_app15 hC (.cons ⟨t20, l19, rfl, ht20, hl19, zl19⟩ (.cons ⟨t22, l21, rfl, ht22, hl21, zl21⟩ (.cons ⟨t24, l23, rfl, ht24, hl23, zl23⟩ (.nil))))⟩
    rw [hcw] at hc26
    clear hl19 hl21 hl23 ht20 ht22 ht24 zl19 zl21 zl23 hc25 hc18
    clear hcw hC hlc
    have hC := hD
    clear hD
    dsimp only [gName]
    refine at_slots [some (.ref d), some (.ref l1), some (.ref l3), some (.ref l5), some (.ref c26)] rfl ?_
    refine ⟨_, rfl, (by show 7 ≤ sizeLine; decide), fun l27 nl27 => ?_⟩
    have zl27 := f.free nl27
    have s27 := sameUpd (o := .lst [.int 82, .int 2, .int 1, .int 3, .int 15, .int 20, .int 19]) (Same.refl H26) nl27
    have hl27 := @upd_same H26 l27 (.lst [.int 82, .int 2, .int 1, .int 3, .int 15, .int 20, .int 19])
    replace hl1 := s27 _ _ hl1
    replace hl3 := s27 _ _ hl3
    replace hl5 := s27 _ _ hl5
    replace hc26 := s27 _ _ hc26
    replace f := f.trans s27
    replace hC := Paired.mapP hC fun _ _ q => q.same s27
    generalize upd H26 l27 (.lst [.int 82, .int 2, .int 1, .int 3, .int 15, .int 20, .int 19]) = H27 at *
    clear s27 nl27
    refine ⟨(by show 2 ≤ sizeLine; decide), fun t28 nt28 => ?_⟩
    have s28 := sameUpd (o := .tup [.ref l27, .int 3]) (Same.refl H27) nt28
    have ht28 := @upd_same H27 t28 (.tup [.ref l27, .int 3])
    replace hl1 := s28 _ _ hl1
    replace hl3 := s28 _ _ hl3
    replace hl5 := s28 _ _ hl5
    replace hc26 := s28 _ _ hc26
    replace hl27 := s28 _ _ hl27
    replace f := f.trans s28
    replace hC := Paired.mapP hC fun _ _ q => q.same s28
    generalize upd H27 t28 (.tup [.ref l27, .int 3]) = H28 at *
    clear s28 nt28
    refine ⟨_, rfl, _, rfl, l1, _, rfl, SqL.of hl1, fun l29 nl29 => ?_⟩
    have s29 := sameUpd (o := .lst (cutV NM none (some ((7 : Nat) : Int)))) (Same.refl H28) nl29
    have hl29 := @upd_same H28 l29 (.lst (cutV NM none (some ((7 : Nat) : Int))))
    replace hl1 := s29 _ _ hl1
    replace hl3 := s29 _ _ hl3
    replace hl5 := s29 _ _ hl5
    replace hc26 := s29 _ _ hc26
    replace hl27 := s29 _ _ hl27
    replace ht28 := s29 _ _ ht28
    replace f := f.trans s29
    replace hC := Paired.mapP hC fun _ _ q => q.same s29
    generalize upd H28 l29 (.lst (cutV NM none (some ((7 : Nat) : Int)))) = H29 at *
    clear s29 nl29
    refine ⟨(by show 1 ≤ sizeLine; decide), fun l30 nl30 => ?_⟩
    have s30 := sameUpd (o := .lst [.int 7]) (Same.refl H29) nl30
    have hl30 := @upd_same H29 l30 (.lst [.int 7])
    replace hl1 := s30 _ _ hl1
    replace hl3 := s30 _ _ hl3
    replace hl5 := s30 _ _ hl5
    replace hc26 := s30 _ _ hc26
    replace hl27 := s30 _ _ hl27
    replace ht28 := s30 _ _ ht28
    replace hl29 := s30 _ _ hl29
    replace f := f.trans s30
    replace hC := Paired.mapP hC fun _ _ q => q.same s30
    generalize upd H29 l30 (.lst [.int 7]) = H30 at *
    clear s30 nl30
    refine ⟨l29, l30, _, _, rfl, rfl, hl29, hl30, (by rw [cut_takeB, List.length_take, lNM]; show 7 + 1 ≤ sizeLine; decide), fun l31 nl31 => ?_⟩
    have zl31 := f.free nl31
    have s31 := sameUpd (o := .lst ((cutV NM none (some ((7 : Nat) : Int))) ++ [.int 7])) (Same.refl H30) nl31
    have hl31 := @upd_same H30 l31 (.lst ((cutV NM none (some ((7 : Nat) : Int))) ++ [.int 7]))
    replace hl1 := s31 _ _ hl1
    replace hl3 := s31 _ _ hl3
    replace hl5 := s31 _ _ hl5
    replace hc26 := s31 _ _ hc26
    replace hl27 := s31 _ _ hl27
    replace ht28 := s31 _ _ ht28
    replace hl29 := s31 _ _ hl29
    replace hl30 := s31 _ _ hl30
    replace f := f.trans s31
    replace hC := Paired.mapP hC fun _ _ q => q.same s31
    generalize upd H30 l31 (.lst ((cutV NM none (some ((7 : Nat) : Int))) ++ [.int 7])) = H31 at *
    clear s31 nl31
    clear hl30
    clear hl29
    refine ⟨(by show 2 ≤ sizeLine; decide), fun t32 nt32 => ?_⟩
    have s32 := sameUpd (o := .tup [.ref l31, .int 7]) (Same.refl H31) nt32
    have ht32 := @upd_same H31 t32 (.tup [.ref l31, .int 7])
    replace hl1 := s32 _ _ hl1
    replace hl3 := s32 _ _ hl3
    replace hl5 := s32 _ _ hl5
    replace hc26 := s32 _ _ hc26
    replace hl27 := s32 _ _ hl27
    replace ht28 := s32 _ _ ht28
    replace hl31 := s32 _ _ hl31
    replace f := f.trans s32
    replace hC := Paired.mapP hC fun _ _ q => q.same s32
    generalize upd H31 t32 (.tup [.ref l31, .int 7]) = H32 at *
    clear s32 nt32
    refine ⟨_, rfl, _, rfl, l1, _, rfl, SqL.of hl1, fun l33 nl33 => ?_⟩
    have s33 := sameUpd (o := .lst (cutV NM none (some ((10 : Nat) : Int)))) (Same.refl H32) nl33
    have hl33 := @upd_same H32 l33 (.lst (cutV NM none (some ((10 : Nat) : Int))))
    replace hl1 := s33 _ _ hl1
    replace hl3 := s33 _ _ hl3
    replace hl5 := s33 _ _ hl5
    replace hc26 := s33 _ _ hc26
    replace hl27 := s33 _ _ hl27
    replace ht28 := s33 _ _ ht28
    replace hl31 := s33 _ _ hl31
    replace ht32 := s33 _ _ ht32
    replace f := f.trans s33
    replace hC := Paired.mapP hC fun _ _ q => q.same s33
    generalize upd H32 l33 (.lst (cutV NM none (some ((10 : Nat) : Int)))) = H33 at *
    clear s33 nl33
    refine ⟨(by show 2 ≤ sizeLine; decide), fun l34 nl34 => ?_⟩
    have s34 := sameUpd (o := .lst [.int 1, .int 0]) (Same.refl H33) nl34
    have hl34 := @upd_same H33 l34 (.lst [.int 1, .int 0])
    replace hl1 := s34 _ _ hl1
    replace hl3 := s34 _ _ hl3
    replace hl5 := s34 _ _ hl5
    replace hc26 := s34 _ _ hc26
    replace hl27 := s34 _ _ hl27
    replace ht28 := s34 _ _ ht28
    replace hl31 := s34 _ _ hl31
    replace ht32 := s34 _ _ ht32
    replace hl33 := s34 _ _ hl33
    replace f := f.trans s34
    replace hC := Paired.mapP hC fun _ _ q => q.same s34
    generalize upd H33 l34 (.lst [.int 1, .int 0]) = H34 at *
    clear s34 nl34
    refine ⟨l33, l34, _, _, rfl, rfl, hl33, hl34, (by rw [cut_takeB, List.length_take, lNM]; show 10 + 2 ≤ sizeLine; decide), fun l35 nl35 => ?_⟩
    have zl35 := f.free nl35
    have s35 := sameUpd (o := .lst ((cutV NM none (some ((10 : Nat) : Int))) ++ [.int 1, .int 0])) (Same.refl H34) nl35
    have hl35 := @upd_same H34 l35 (.lst ((cutV NM none (some ((10 : Nat) : Int))) ++ [.int 1, .int 0]))
    replace hl1 := s35 _ _ hl1
    replace hl3 := s35 _ _ hl3
    replace hl5 := s35 _ _ hl5
    replace hc26 := s35 _ _ hc26
    replace hl27 := s35 _ _ hl27
    replace ht28 := s35 _ _ ht28
    replace hl31 := s35 _ _ hl31
    replace ht32 := s35 _ _ ht32
    replace hl33 := s35 _ _ hl33
    replace hl34 := s35 _ _ hl34
    replace f := f.trans s35
    replace hC := Paired.mapP hC fun _ _ q => q.same s35
    generalize upd H34 l35 (.lst ((cutV NM none (some ((10 : Nat) : Int))) ++ [.int 1, .int 0])) = H35 at *
    clear s35 nl35
    clear hl34
    clear hl33
    refine ⟨(by show 2 ≤ sizeLine; decide), fun t36 nt36 => ?_⟩
    have s36 := sameUpd (o := .tup [.ref l35, .int 10]) (Same.refl H35) nt36
    have ht36 := @upd_same H35 t36 (.tup [.ref l35, .int 10])
    replace hl1 := s36 _ _ hl1
    replace hl3 := s36 _ _ hl3
    replace hl5 := s36 _ _ hl5
    replace hc26 := s36 _ _ hc26
    replace hl27 := s36 _ _ hl27
    replace ht28 := s36 _ _ ht28
    replace hl31 := s36 _ _ hl31
    replace ht32 := s36 _ _ ht32
    replace hl35 := s36 _ _ hl35
    replace f := f.trans s36
    replace hC := Paired.mapP hC fun _ _ q => q.same s36
    generalize upd H35 t36 (.tup [.ref l35, .int 10]) = H36 at *
    clear s36 nt36
    refine ⟨(by show 3 ≤ sizeLine; decide), fun c37 nc37 => ?_⟩
    have s37 := sameUpd (o := .lst [.ref t28, .ref t32, .ref t36]) (Same.refl H36) nc37
    have hc37 := @upd_same H36 c37 (.lst [.ref t28, .ref t32, .ref t36])
    replace hl1 := s37 _ _ hl1
    replace hl3 := s37 _ _ hl3
    replace hl5 := s37 _ _ hl5
    replace hc26 := s37 _ _ hc26
    replace hl27 := s37 _ _ hl27
    replace ht28 := s37 _ _ ht28
    replace hl31 := s37 _ _ hl31
    replace ht32 := s37 _ _ ht32
    replace hl35 := s37 _ _ hl35
    replace ht36 := s37 _ _ ht36
    replace f := f.trans s37
    replace hC := Paired.mapP hC fun _ _ q => q.same s37
    generalize upd H36 c37 (.lst [.ref t28, .ref t32, .ref t36]) = H37 at *
    clear s37 nc37
    have hlc : cv9.length = 9 := hC.length
    refine ⟨c26, c37, _, _, rfl, rfl, hc26, hc37, (by rw [hlc]; show 9 + 3 ≤ sizeLine; decide), fun c38 nc38 => ?_⟩
    have s38 := sameUpd (o := .lst (cv9 ++ [.ref t28, .ref t32, .ref t36])) (Same.refl H37) nc38
    have hc38 := @upd_same H37 c38 (.lst (cv9 ++ [.ref t28, .ref t32, .ref t36]))
    replace hl1 := s38 _ _ hl1
    replace hl3 := s38 _ _ hl3
    replace hl5 := s38 _ _ hl5
    replace hc26 := s38 _ _ hc26
    replace hl27 := s38 _ _ hl27
    replace ht28 := s38 _ _ ht28
    replace hl31 := s38 _ _ hl31
    replace ht32 := s38 _ _ ht32
    replace hl35 := s38 _ _ hl35
    replace ht36 := s38 _ _ ht36
    replace hc37 := s38 _ _ hc37
    replace f := f.trans s38
    replace hC := Paired.mapP hC fun _ _ q => q.same s38
    generalize upd H37 c38 (.lst (cv9 ++ [.ref t28, .ref t32, .ref t36])) = H38 at *
    clear s38 nc38
    obtain ⟨cv12, hcw, hD⟩ : ∃ cw, cv9 ++ [V.ref t28, V.ref t32, V.ref t36] = cw ∧ Paired (CaseAt H H38) cw (badL.take 12) := ⟨_, rfl, Paired_app15 hC (.cons ⟨t28, l27, rfl, ht28, hl27, zl27⟩ (.cons ⟨t32, l31, rfl, ht32, hl31.trans (by rw [cut_takeB, eNM]; rfl), zl31⟩ (.cons ⟨t36, l35, rfl, ht36, hl35.trans (by rw [cut_takeB, eNM]; rfl), zl35⟩ (.nil))))⟩
    rw [hcw] at hc38
    clear hl27 hl31 hl35 ht28 ht32 ht36 zl27 zl31 zl35 hc37 hc26
    clear hcw hC hlc
    have hC := hD
    clear hD
    dsimp only [gName]
    refine at_slots [some (.ref d), some (.ref l1), some (.ref l3), some (.ref l5), some (.ref c38)] rfl ?_
    refine ⟨_, rfl, _, rfl, (by show 1 ≤ sizeLine; decide), fun l39 nl39 => ?_⟩
    have s39 := sameUpd (o := .lst [.int 0]) (Same.refl H38) nl39
    have hl39 := @upd_same H38 l39 (.lst [.int 0])
    replace hl1 := s39 _ _ hl1
    replace hl3 := s39 _ _ hl3
    replace hl5 := s39 _ _ hl5
    replace hc38 := s39 _ _ hc38
    replace f := f.trans s39
    replace hC := Paired.mapP hC fun _ _ q => q.same s39
    generalize upd H38 l39 (.lst [.int 0]) = H39 at *
    clear s39 nl39
    refine ⟨l1, l39, _, _, rfl, rfl, hl1, hl39, (by rw [lNM]; show 12 + 1 ≤ sizeLine; decide), fun l40 nl40 => ?_⟩
    have zl40 := f.free nl40
    have s40 := sameUpd (o := .lst (NM ++ [.int 0])) (Same.refl H39) nl40
    have hl40 := @upd_same H39 l40 (.lst (NM ++ [.int 0]))
    replace hl1 := s40 _ _ hl1
    replace hl3 := s40 _ _ hl3
    replace hl5 := s40 _ _ hl5
    replace hc38 := s40 _ _ hc38
    replace hl39 := s40 _ _ hl39
    replace f := f.trans s40
    replace hC := Paired.mapP hC fun _ _ q => q.same s40
    generalize upd H39 l40 (.lst (NM ++ [.int 0])) = H40 at *
    clear s40 nl40
    clear hl39
    refine ⟨(by show 2 ≤ sizeLine; decide), fun t41 nt41 => ?_⟩
    have s41 := sameUpd (o := .tup [.ref l40, .int 12]) (Same.refl H40) nt41
    have ht41 := @upd_same H40 t41 (.tup [.ref l40, .int 12])
    replace hl1 := s41 _ _ hl1
    replace hl3 := s41 _ _ hl3
    replace hl5 := s41 _ _ hl5
    replace hc38 := s41 _ _ hc38
    replace hl40 := s41 _ _ hl40
    replace f := f.trans s41
    replace hC := Paired.mapP hC fun _ _ q => q.same s41
    generalize upd H40 t41 (.tup [.ref l40, .int 12]) = H41 at *
    clear s41 nt41
    refine ⟨_, rfl, (by show 1 ≤ sizeLine; decide), fun l42 nl42 => ?_⟩
    have s42 := sameUpd (o := .lst [.int 4]) (Same.refl H41) nl42
    have hl42 := @upd_same H41 l42 (.lst [.int 4])
    replace hl1 := s42 _ _ hl1
    replace hl3 := s42 _ _ hl3
    replace hl5 := s42 _ _ hl5
    replace hc38 := s42 _ _ hc38
    replace hl40 := s42 _ _ hl40
    replace ht41 := s42 _ _ ht41
    replace f := f.trans s42
    replace hC := Paired.mapP hC fun _ _ q => q.same s42
    generalize upd H41 l42 (.lst [.int 4]) = H42 at *
    clear s42 nl42
    refine ⟨l1, l42, _, _, rfl, rfl, hl1, hl42, (by rw [lNM]; show 12 + 1 ≤ sizeLine; decide), fun l43 nl43 => ?_⟩
    have zl43 := f.free nl43
    have s43 := sameUpd (o := .lst (NM ++ [.int 4])) (Same.refl H42) nl43
    have hl43 := @upd_same H42 l43 (.lst (NM ++ [.int 4]))
    replace hl1 := s43 _ _ hl1
    replace hl3 := s43 _ _ hl3
    replace hl5 := s43 _ _ hl5
    replace hc38 := s43 _ _ hc38
    replace hl40 := s43 _ _ hl40
    replace ht41 := s43 _ _ ht41
    replace hl42 := s43 _ _ hl42
    replace f := f.trans s43
    replace hC := Paired.mapP hC fun _ _ q => q.same s43
    generalize upd H42 l43 (.lst (NM ++ [.int 4])) = H43 at *
    clear s43 nl43
    clear hl42
    refine ⟨(by show 2 ≤ sizeLine; decide), fun t44 nt44 => ?_⟩
    have s44 := sameUpd (o := .tup [.ref l43, .int 12]) (Same.refl H43) nt44
    have ht44 := @upd_same H43 t44 (.tup [.ref l43, .int 12])
    replace hl1 := s44 _ _ hl1
    replace hl3 := s44 _ _ hl3
    replace hl5 := s44 _ _ hl5
    replace hc38 := s44 _ _ hc38
    replace hl40 := s44 _ _ hl40
    replace ht41 := s44 _ _ ht41
    replace hl43 := s44 _ _ hl43
    replace f := f.trans s44
    replace hC := Paired.mapP hC fun _ _ q => q.same s44
    generalize upd H43 t44 (.tup [.ref l43, .int 12]) = H44 at *
    clear s44 nt44
    refine ⟨_, rfl, (by show 2 ≤ sizeLine; decide), fun l45 nl45 => ?_⟩
    have s45 := sameUpd (o := .lst [.int 1, .int 2]) (Same.refl H44) nl45
    have hl45 := @upd_same H44 l45 (.lst [.int 1, .int 2])
    replace hl1 := s45 _ _ hl1
    replace hl3 := s45 _ _ hl3
    replace hl5 := s45 _ _ hl5
    replace hc38 := s45 _ _ hc38
    replace hl40 := s45 _ _ hl40
    replace ht41 := s45 _ _ ht41
    replace hl43 := s45 _ _ hl43
    replace ht44 := s45 _ _ ht44
    replace f := f.trans s45
    replace hC := Paired.mapP hC fun _ _ q => q.same s45
    generalize upd H44 l45 (.lst [.int 1, .int 2]) = H45 at *
    clear s45 nl45
    refine ⟨l1, l45, _, _, rfl, rfl, hl1, hl45, (by rw [lNM]; show 12 + 2 ≤ sizeLine; decide), fun l46 nl46 => ?_⟩
    have zl46 := f.free nl46
    have s46 := sameUpd (o := .lst (NM ++ [.int 1, .int 2])) (Same.refl H45) nl46
    have hl46 := @upd_same H45 l46 (.lst (NM ++ [.int 1, .int 2]))
    replace hl1 := s46 _ _ hl1
    replace hl3 := s46 _ _ hl3
    replace hl5 := s46 _ _ hl5
    replace hc38 := s46 _ _ hc38
    replace hl40 := s46 _ _ hl40
    replace ht41 := s46 _ _ ht41
    replace hl43 := s46 _ _ hl43
    replace ht44 := s46 _ _ ht44
    replace hl45 := s46 _ _ hl45
    replace f := f.trans s46
    replace hC := Paired.mapP hC fun _ _ q => q.same s46
    generalize upd H45 l46 (.lst (NM ++ [.int 1, .int 2])) = H46 at *
    clear s46 nl46
    clear hl45
    refine ⟨(by show 2 ≤ sizeLine; decide), fun t47 nt47 => ?_⟩
    have s47 := sameUpd (o := .tup [.ref l46, .int 13]) (Same.refl H46) nt47
    have ht47 := @upd_same H46 t47 (.tup [.ref l46, .int 13])
    replace hl1 := s47 _ _ hl1
    replace hl3 := s47 _ _ hl3
    replace hl5 := s47 _ _ hl5
    replace hc38 := s47 _ _ hc38
    replace hl40 := s47 _ _ hl40
    replace ht41 := s47 _ _ ht41
    replace hl43 := s47 _ _ hl43
    replace ht44 := s47 _ _ ht44
    replace hl46 := s47 _ _ hl46
    replace f := f.trans s47
    replace hC := Paired.mapP hC fun _ _ q => q.same s47
    generalize upd H46 t47 (.tup [.ref l46, .int 13]) = H47 at *
    clear s47 nt47
    refine ⟨_, rfl, (by show 3 ≤ sizeLine; decide), fun l48 nl48 => ?_⟩
    have s48 := sameUpd (o := .lst [.int 1, .int 1, .int 2]) (Same.refl H47) nl48
    have hl48 := @upd_same H47 l48 (.lst [.int 1, .int 1, .int 2])
    replace hl1 := s48 _ _ hl1
    replace hl3 := s48 _ _ hl3
    replace hl5 := s48 _ _ hl5
    replace hc38 := s48 _ _ hc38
    replace hl40 := s48 _ _ hl40
    replace ht41 := s48 _ _ ht41
    replace hl43 := s48 _ _ hl43
    replace ht44 := s48 _ _ ht44
    replace hl46 := s48 _ _ hl46
    replace ht47 := s48 _ _ ht47
    replace f := f.trans s48
    replace hC := Paired.mapP hC fun _ _ q => q.same s48
    generalize upd H47 l48 (.lst [.int 1, .int 1, .int 2]) = H48 at *
    clear s48 nl48
    refine ⟨l1, l48, _, _, rfl, rfl, hl1, hl48, (by rw [lNM]; show 12 + 3 ≤ sizeLine; decide), fun l49 nl49 => ?_⟩
    have zl49 := f.free nl49
    have s49 := sameUpd (o := .lst (NM ++ [.int 1, .int 1, .int 2])) (Same.refl H48) nl49
    have hl49 := @upd_same H48 l49 (.lst (NM ++ [.int 1, .int 1, .int 2]))
    replace hl1 := s49 _ _ hl1
    replace hl3 := s49 _ _ hl3
    replace hl5 := s49 _ _ hl5
    replace hc38 := s49 _ _ hc38
    replace hl40 := s49 _ _ hl40
    replace ht41 := s49 _ _ ht41
    replace hl43 := s49 _ _ hl43
    replace ht44 := s49 _ _ ht44
    replace hl46 := s49 _ _ hl46
    replace ht47 := s49 _ _ ht47
    replace hl48 := s49 _ _ hl48
    replace f := f.trans s49
    replace hC := Paired.mapP hC fun _ _ q => q.same s49
    generalize upd H48 l49 (.lst (NM ++ [.int 1, .int 1, .int 2])) = H49 at *
    clear s49 nl49
    clear hl48
    refine ⟨(by show 2 ≤ sizeLine; decide), fun t50 nt50 => ?_⟩
    have s50 := sameUpd (o := .tup [.ref l49, .int 14]) (Same.refl H49) nt50
    have ht50 := @upd_same H49 t50 (.tup [.ref l49, .int 14])
    replace hl1 := s50 _ _ hl1
    replace hl3 := s50 _ _ hl3
    replace hl5 := s50 _ _ hl5
    replace hc38 := s50 _ _ hc38
    replace hl40 := s50 _ _ hl40
    replace ht41 := s50 _ _ ht41
    replace hl43 := s50 _ _ hl43
    replace ht44 := s50 _ _ ht44
    replace hl46 := s50 _ _ hl46
    replace ht47 := s50 _ _ ht47
    replace hl49 := s50 _ _ hl49
    replace f := f.trans s50
    replace hC := Paired.mapP hC fun _ _ q => q.same s50
    generalize upd H49 t50 (.tup [.ref l49, .int 14]) = H50 at *
    clear s50 nt50
    refine ⟨(by show 4 ≤ sizeLine; decide), fun c51 nc51 => ?_⟩
    have s51 := sameUpd (o := .lst [.ref t41, .ref t44, .ref t47, .ref t50]) (Same.refl H50) nc51
    have hc51 := @upd_same H50 c51 (.lst [.ref t41, .ref t44, .ref t47, .ref t50])
    replace hl1 := s51 _ _ hl1
    replace hl3 := s51 _ _ hl3
    replace hl5 := s51 _ _ hl5
    replace hc38 := s51 _ _ hc38
    replace hl40 := s51 _ _ hl40
    replace ht41 := s51 _ _ ht41
    replace hl43 := s51 _ _ hl43
    replace ht44 := s51 _ _ ht44
    replace hl46 := s51 _ _ hl46
    replace ht47 := s51 _ _ ht47
    replace hl49 := s51 _ _ hl49
    replace ht50 := s51 _ _ ht50
    replace f := f.trans s51
    replace hC := Paired.mapP hC fun _ _ q => q.same s51
    generalize upd H50 c51 (.lst [.ref t41, .ref t44, .ref t47, .ref t50]) = H51 at *
    clear s51 nc51
    have hlc : cv12.length = 12 := hC.length
    refine ⟨c38, c51, _, _, rfl, rfl, hc38, hc51, (by rw [hlc]; show 12 + 4 ≤ sizeLine; decide), fun c52 nc52 => ?_⟩
    have s52 := sameUpd (o := .lst (cv12 ++ [.ref t41, .ref t44, .ref t47, .ref t50])) (Same.refl H51) nc52
    have hc52 := @upd_same H51 c52 (.lst (cv12 ++ [.ref t41, .ref t44, .ref t47, .ref t50]))
    replace hl1 := s52 _ _ hl1
    replace hl3 := s52 _ _ hl3
    replace hl5 := s52 _ _ hl5
    replace hc38 := s52 _ _ hc38
    replace hl40 := s52 _ _ hl40
    replace ht41 := s52 _ _ ht41
    replace hl43 := s52 _ _ hl43
    replace ht44 := s52 _ _ ht44
    replace hl46 := s52 _ _ hl46
    replace ht47 := s52 _ _ ht47
    replace hl49 := s52 _ _ hl49
    replace ht50 := s52 _ _ ht50
    replace hc51 := s52 _ _ hc51
    replace f := f.trans s52
    replace hC := Paired.mapP hC fun _ _ q => q.same s52
    generalize upd H51 c52 (.lst (cv12 ++ [.ref t41, .ref t44, .ref t47, .ref t50])) = H52 at *
    clear s52 nc52
    obtain ⟨cv16, hcw, hD⟩ : ∃ cw, cv12 ++ [V.ref t41, V.ref t44, V.ref t47, V.ref t50] = cw ∧ Paired (CaseAt H H52) cw (badL.take 16) := ⟨_, rfl, Paired_app15 hC (.cons ⟨t41, l40, rfl, ht41, hl40.trans (by rw [eNM]; rfl), zl40⟩ (.cons ⟨t44, l43, rfl, ht44, hl43.trans (by rw [eNM]; rfl), zl43⟩ (.cons ⟨t47, l46, rfl, ht47, hl46.trans (by rw [eNM]; rfl), zl46⟩ (.cons ⟨t50, l49, rfl, ht50, hl49.trans (by rw [eNM]; rfl), zl49⟩ (.nil)))))⟩
    rw [hcw] at hc52
    clear hl40 hl43 hl46 hl49 ht41 ht44 ht47 ht50 zl40 zl43 zl46 zl49 hc51 hc38
    clear hcw hC hlc
    have hC := hD
    clear hD
    dsimp only [gName]
    refine at_slots [some (.ref d), some (.ref l1), some (.ref l3), some (.ref l5), some (.ref c52)] rfl ?_
    refine ⟨_, rfl, _, rfl, (by show 1 ≤ sizeLine; decide), fun l53 nl53 => ?_⟩
    have s53 := sameUpd (o := .lst [.int 2]) (Same.refl H52) nl53
    have hl53 := @upd_same H52 l53 (.lst [.int 2])
    replace hl1 := s53 _ _ hl1
    replace hl3 := s53 _ _ hl3
    replace hl5 := s53 _ _ hl5
    replace hc52 := s53 _ _ hc52
    replace f := f.trans s53
    replace hC := Paired.mapP hC fun _ _ q => q.same s53
    generalize upd H52 l53 (.lst [.int 2]) = H53 at *
    clear s53 nl53
    refine ⟨l3, l53, _, _, rfl, rfl, hl3, hl53, (by rw [lRB]; show 15 + 1 ≤ sizeLine; decide), fun l54 nl54 => ?_⟩
    have zl54 := f.free nl54
    have s54 := sameUpd (o := .lst (RB ++ [.int 2])) (Same.refl H53) nl54
    have hl54 := @upd_same H53 l54 (.lst (RB ++ [.int 2]))
    replace hl1 := s54 _ _ hl1
    replace hl3 := s54 _ _ hl3
    replace hl5 := s54 _ _ hl5
    replace hc52 := s54 _ _ hc52
    replace hl53 := s54 _ _ hl53
    replace f := f.trans s54
    replace hC := Paired.mapP hC fun _ _ q => q.same s54
    generalize upd H53 l54 (.lst (RB ++ [.int 2])) = H54 at *
    clear s54 nl54
    clear hl53
    refine ⟨(by show 2 ≤ sizeLine; decide), fun t55 nt55 => ?_⟩
    have s55 := sameUpd (o := .tup [.ref l54, .int 15]) (Same.refl H54) nt55
    have ht55 := @upd_same H54 t55 (.tup [.ref l54, .int 15])
    replace hl1 := s55 _ _ hl1
    replace hl3 := s55 _ _ hl3
    replace hl5 := s55 _ _ hl5
    replace hc52 := s55 _ _ hc52
    replace hl54 := s55 _ _ hl54
    replace f := f.trans s55
    replace hC := Paired.mapP hC fun _ _ q => q.same s55
    generalize upd H54 t55 (.tup [.ref l54, .int 15]) = H55 at *
    clear s55 nt55
    refine ⟨_, rfl, (by show 2 ≤ sizeLine; decide), fun l56 nl56 => ?_⟩
    have s56 := sameUpd (o := .lst [.int 1, .int 2]) (Same.refl H55) nl56
    have hl56 := @upd_same H55 l56 (.lst [.int 1, .int 2])
    replace hl1 := s56 _ _ hl1
    replace hl3 := s56 _ _ hl3
    replace hl5 := s56 _ _ hl5
    replace hc52 := s56 _ _ hc52
    replace hl54 := s56 _ _ hl54
    replace ht55 := s56 _ _ ht55
    replace f := f.trans s56
    replace hC := Paired.mapP hC fun _ _ q => q.same s56
    generalize upd H55 l56 (.lst [.int 1, .int 2]) = H56 at *
    clear s56 nl56
    refine ⟨l3, l56, _, _, rfl, rfl, hl3, hl56, (by rw [lRB]; show 15 + 2 ≤ sizeLine; decide), fun l57 nl57 => ?_⟩
    have zl57 := f.free nl57
    have s57 := sameUpd (o := .lst (RB ++ [.int 1, .int 2])) (Same.refl H56) nl57
    have hl57 := @upd_same H56 l57 (.lst (RB ++ [.int 1, .int 2]))
    replace hl1 := s57 _ _ hl1
    replace hl3 := s57 _ _ hl3
    replace hl5 := s57 _ _ hl5
    replace hc52 := s57 _ _ hc52
    replace hl54 := s57 _ _ hl54
    replace ht55 := s57 _ _ ht55
    replace hl56 := s57 _ _ hl56
    replace f := f.trans s57
    replace hC := Paired.mapP hC fun _ _ q => q.same s57
    generalize upd H56 l57 (.lst (RB ++ [.int 1, .int 2])) = H57 at *
    clear s57 nl57
    clear hl56
    refine ⟨(by show 2 ≤ sizeLine; decide), fun t58 nt58 => ?_⟩
    have s58 := sameUpd (o := .tup [.ref l57, .int 16]) (Same.refl H57) nt58
    have ht58 := @upd_same H57 t58 (.tup [.ref l57, .int 16])
    replace hl1 := s58 _ _ hl1
    replace hl3 := s58 _ _ hl3
    replace hl5 := s58 _ _ hl5
    replace hc52 := s58 _ _ hc52
    replace hl54 := s58 _ _ hl54
    replace ht55 := s58 _ _ ht55
    replace hl57 := s58 _ _ hl57
    replace f := f.trans s58
    replace hC := Paired.mapP hC fun _ _ q => q.same s58
    generalize upd H57 t58 (.tup [.ref l57, .int 16]) = H58 at *
    clear s58 nt58
    refine ⟨_, rfl, (by show 1 ≤ sizeLine; decide), fun l59 nl59 => ?_⟩
    have s59 := sameUpd (o := .lst [.int 5]) (Same.refl H58) nl59
    have hl59 := @upd_same H58 l59 (.lst [.int 5])
    replace hl1 := s59 _ _ hl1
    replace hl3 := s59 _ _ hl3
    replace hl5 := s59 _ _ hl5
    replace hc52 := s59 _ _ hc52
    replace hl54 := s59 _ _ hl54
    replace ht55 := s59 _ _ ht55
    replace hl57 := s59 _ _ hl57
    replace ht58 := s59 _ _ ht58
    replace f := f.trans s59
    replace hC := Paired.mapP hC fun _ _ q => q.same s59
    generalize upd H58 l59 (.lst [.int 5]) = H59 at *
    clear s59 nl59
    refine ⟨l5, l59, _, _, rfl, rfl, hl5, hl59, (by rw [lRU]; show 17 + 1 ≤ sizeLine; decide), fun l60 nl60 => ?_⟩
    have zl60 := f.free nl60
    have s60 := sameUpd (o := .lst (RU ++ [.int 5])) (Same.refl H59) nl60
    have hl60 := @upd_same H59 l60 (.lst (RU ++ [.int 5]))
    replace hl1 := s60 _ _ hl1
    replace hl3 := s60 _ _ hl3
    replace hl5 := s60 _ _ hl5
    replace hc52 := s60 _ _ hc52
    replace hl54 := s60 _ _ hl54
    replace ht55 := s60 _ _ ht55
    replace hl57 := s60 _ _ hl57
    replace ht58 := s60 _ _ ht58
    replace hl59 := s60 _ _ hl59
    replace f := f.trans s60
    replace hC := Paired.mapP hC fun _ _ q => q.same s60
    generalize upd H59 l60 (.lst (RU ++ [.int 5])) = H60 at *
    clear s60 nl60
    clear hl59
    refine ⟨(by show 2 ≤ sizeLine; decide), fun t61 nt61 => ?_⟩
    have s61 := sameUpd (o := .tup [.ref l60, .int 17]) (Same.refl H60) nt61
    have ht61 := @upd_same H60 t61 (.tup [.ref l60, .int 17])
    replace hl1 := s61 _ _ hl1
    replace hl3 := s61 _ _ hl3
    replace hl5 := s61 _ _ hl5
    replace hc52 := s61 _ _ hc52
    replace hl54 := s61 _ _ hl54
    replace ht55 := s61 _ _ ht55
    replace hl57 := s61 _ _ hl57
    replace ht58 := s61 _ _ ht58
    replace hl60 := s61 _ _ hl60
    replace f := f.trans s61
    replace hC := Paired.mapP hC fun _ _ q => q.same s61
    generalize upd H60 t61 (.tup [.ref l60, .int 17]) = H61 at *
    clear s61 nt61
    refine ⟨_, rfl, (by show 2 ≤ sizeLine; decide), fun l62 nl62 => ?_⟩
    have s62 := sameUpd (o := .lst [.int 1, .int 2]) (Same.refl H61) nl62
    have hl62 := @upd_same H61 l62 (.lst [.int 1, .int 2])
    replace hl1 := s62 _ _ hl1
    replace hl3 := s62 _ _ hl3
    replace hl5 := s62 _ _ hl5
    replace hc52 := s62 _ _ hc52
    replace hl54 := s62 _ _ hl54
    replace ht55 := s62 _ _ ht55
    replace hl57 := s62 _ _ hl57
    replace ht58 := s62 _ _ ht58
    replace hl60 := s62 _ _ hl60
    replace ht61 := s62 _ _ ht61
    replace f := f.trans s62
    replace hC := Paired.mapP hC fun _ _ q => q.same s62
    generalize upd H61 l62 (.lst [.int 1, .int 2]) = H62 at *
    clear s62 nl62
    refine ⟨l5, l62, _, _, rfl, rfl, hl5, hl62, (by rw [lRU]; show 17 + 2 ≤ sizeLine; decide), fun l63 nl63 => ?_⟩
    have zl63 := f.free nl63
    have s63 := sameUpd (o := .lst (RU ++ [.int 1, .int 2])) (Same.refl H62) nl63
    have hl63 := @upd_same H62 l63 (.lst (RU ++ [.int 1, .int 2]))
    replace hl1 := s63 _ _ hl1
    replace hl3 := s63 _ _ hl3
    replace hl5 := s63 _ _ hl5
    replace hc52 := s63 _ _ hc52
    replace hl54 := s63 _ _ hl54
    replace ht55 := s63 _ _ ht55
    replace hl57 := s63 _ _ hl57
    replace ht58 := s63 _ _ ht58
    replace hl60 := s63 _ _ hl60
    replace ht61 := s63 _ _ ht61
    replace hl62 := s63 _ _ hl62
    replace f := f.trans s63
    replace hC := Paired.mapP hC fun _ _ q => q.same s63
    generalize upd H62 l63 (.lst (RU ++ [.int 1, .int 2])) = H63 at *
    clear s63 nl63
    clear hl62
    refine ⟨(by show 2 ≤ sizeLine; decide), fun t64 nt64 => ?_⟩
    have s64 := sameUpd (o := .tup [.ref l63, .int 18]) (Same.refl H63) nt64
    have ht64 := @upd_same H63 t64 (.tup [.ref l63, .int 18])
    replace hl1 := s64 _ _ hl1
    replace hl3 := s64 _ _ hl3
    replace hl5 := s64 _ _ hl5
    replace hc52 := s64 _ _ hc52
    replace hl54 := s64 _ _ hl54
    replace ht55 := s64 _ _ ht55
    replace hl57 := s64 _ _ hl57
    replace ht58 := s64 _ _ ht58
    replace hl60 := s64 _ _ hl60
    replace ht61 := s64 _ _ ht61
    replace hl63 := s64 _ _ hl63
    replace f := f.trans s64
    replace hC := Paired.mapP hC fun _ _ q => q.same s64
    generalize upd H63 t64 (.tup [.ref l63, .int 18]) = H64 at *
    clear s64 nt64
    refine ⟨(by show 4 ≤ sizeLine; decide), fun c65 nc65 => ?_⟩
    have s65 := sameUpd (o := .lst [.ref t55, .ref t58, .ref t61, .ref t64]) (Same.refl H64) nc65
    have hc65 := @upd_same H64 c65 (.lst [.ref t55, .ref t58, .ref t61, .ref t64])
    replace hl1 := s65 _ _ hl1
    replace hl3 := s65 _ _ hl3
    replace hl5 := s65 _ _ hl5
    replace hc52 := s65 _ _ hc52
    replace hl54 := s65 _ _ hl54
    replace ht55 := s65 _ _ ht55
    replace hl57 := s65 _ _ hl57
    replace ht58 := s65 _ _ ht58
    replace hl60 := s65 _ _ hl60
    replace ht61 := s65 _ _ ht61
    replace hl63 := s65 _ _ hl63
    replace ht64 := s65 _ _ ht64
    replace f := f.trans s65
    replace hC := Paired.mapP hC fun _ _ q => q.same s65
    generalize upd H64 c65 (.lst [.ref t55, .ref t58, .ref t61, .ref t64]) = H65 at *
    clear s65 nc65
    have hlc : cv16.length = 16 := hC.length
    refine ⟨c52, c65, _, _, rfl, rfl, hc52, hc65, (by rw [hlc]; show 16 + 4 ≤ sizeLine; decide), fun c66 nc66 => ?_⟩
    have s66 := sameUpd (o := .lst (cv16 ++ [.ref t55, .ref t58, .ref t61, .ref t64])) (Same.refl H65) nc66
    have hc66 := @upd_same H65 c66 (.lst (cv16 ++ [.ref t55, .ref t58, .ref t61, .ref t64]))
    replace hl1 := s66 _ _ hl1
    replace hl3 := s66 _ _ hl3
    replace hl5 := s66 _ _ hl5
    replace hc52 := s66 _ _ hc52
    replace hl54 := s66 _ _ hl54
    replace ht55 := s66 _ _ ht55
    replace hl57 := s66 _ _ hl57
    replace ht58 := s66 _ _ ht58
    replace hl60 := s66 _ _ hl60
    replace ht61 := s66 _ _ ht61
    replace hl63 := s66 _ _ hl63
    replace ht64 := s66 _ _ ht64
    replace hc65 := s66 _ _ hc65
    replace f := f.trans s66
    replace hC := Paired.mapP hC fun _ _ q => q.same s66
    generalize upd H65 c66 (.lst (cv16 ++ [.ref t55, .ref t58, .ref t61, .ref t64])) = H66 at *
    clear s66 nc66
    obtain ⟨cv20, hcw, hD⟩ : ∃ cw, cv16 ++ [V.ref t55, V.ref t58, V.ref t61, V.ref t64] = cw ∧ Paired (CaseAt H H66) cw (badL.take 20) := ⟨_, rfl, Paired_app15 hC (.cons ⟨t55, l54, rfl, ht55, hl54.trans (by rw [eRB]; rfl), zl54⟩ (.cons ⟨t58, l57, rfl, ht58, hl57.trans (by rw [eRB]; rfl), zl57⟩ (.cons ⟨t61, l60, rfl, ht61, hl60.trans (by rw [eRU]; rfl), zl60⟩ (.cons ⟨t64, l63, rfl, ht64, hl63.trans (by rw [eRU]; rfl), zl63⟩ (.nil)))))⟩
    rw [hcw] at hc66
    clear hl54 hl57 hl60 hl63 ht55 ht58 ht61 ht64 zl54 zl57 zl60 zl63 hc65 hc52
    clear hcw hC hlc
    have hC := hD
    clear hD
    dsimp only [gName]
    refine at_slots [some (.ref d), some (.ref l1), some (.ref l3), some (.ref l5), some (.ref c66)] rfl ?_
    refine ⟨_, rfl, _, rfl, (by show 3 ≤ sizeLine; decide), fun l67 nl67 => ?_⟩
    have s67 := sameUpd (o := .lst [.int 1, .int 0, .int 2]) (Same.refl H66) nl67
    have hl67 := @upd_same H66 l67 (.lst [.int 1, .int 0, .int 2])
    replace hl1 := s67 _ _ hl1
    replace hl3 := s67 _ _ hl3
    replace hl5 := s67 _ _ hl5
    replace hc66 := s67 _ _ hc66
    replace f := f.trans s67
    replace hC := Paired.mapP hC fun _ _ q => q.same s67
    generalize upd H66 l67 (.lst [.int 1, .int 0, .int 2]) = H67 at *
    clear s67 nl67
    refine ⟨l5, l67, _, _, rfl, rfl, hl5, hl67, (by rw [lRU]; show 17 + 3 ≤ sizeLine; decide), fun l68 nl68 => ?_⟩
    have zl68 := f.free nl68
    have s68 := sameUpd (o := .lst (RU ++ [.int 1, .int 0, .int 2])) (Same.refl H67) nl68
    have hl68 := @upd_same H67 l68 (.lst (RU ++ [.int 1, .int 0, .int 2]))
    replace hl1 := s68 _ _ hl1
    replace hl3 := s68 _ _ hl3
    replace hl5 := s68 _ _ hl5
    replace hc66 := s68 _ _ hc66
    replace hl67 := s68 _ _ hl67
    replace f := f.trans s68
    replace hC := Paired.mapP hC fun _ _ q => q.same s68
    generalize upd H67 l68 (.lst (RU ++ [.int 1, .int 0, .int 2])) = H68 at *
    clear s68 nl68
    clear hl67
    refine ⟨(by show 2 ≤ sizeLine; decide), fun t69 nt69 => ?_⟩
    have s69 := sameUpd (o := .tup [.ref l68, .int 19]) (Same.refl H68) nt69
    have ht69 := @upd_same H68 t69 (.tup [.ref l68, .int 19])
    replace hl1 := s69 _ _ hl1
    replace hl3 := s69 _ _ hl3
    replace hl5 := s69 _ _ hl5
    replace hc66 := s69 _ _ hc66
    replace hl68 := s69 _ _ hl68
    replace f := f.trans s69
    replace hC := Paired.mapP hC fun _ _ q => q.same s69
    generalize upd H68 t69 (.tup [.ref l68, .int 19]) = H69 at *
    clear s69 nt69
    refine ⟨_, rfl, (by show 4 ≤ sizeLine; decide), fun l70 nl70 => ?_⟩
    have s70 := sameUpd (o := .lst [.int 1, .int 0, .int 0, .int 2]) (Same.refl H69) nl70
    have hl70 := @upd_same H69 l70 (.lst [.int 1, .int 0, .int 0, .int 2])
    replace hl1 := s70 _ _ hl1
    replace hl3 := s70 _ _ hl3
    replace hl5 := s70 _ _ hl5
    replace hc66 := s70 _ _ hc66
    replace hl68 := s70 _ _ hl68
    replace ht69 := s70 _ _ ht69
    replace f := f.trans s70
    replace hC := Paired.mapP hC fun _ _ q => q.same s70
    generalize upd H69 l70 (.lst [.int 1, .int 0, .int 0, .int 2]) = H70 at *
    clear s70 nl70
    refine ⟨l5, l70, _, _, rfl, rfl, hl5, hl70, (by rw [lRU]; show 17 + 4 ≤ sizeLine; decide), fun l71 nl71 => ?_⟩
    have zl71 := f.free nl71
    have s71 := sameUpd (o := .lst (RU ++ [.int 1, .int 0, .int 0, .int 2])) (Same.refl H70) nl71
    have hl71 := @upd_same H70 l71 (.lst (RU ++ [.int 1, .int 0, .int 0, .int 2]))
    replace hl1 := s71 _ _ hl1
    replace hl3 := s71 _ _ hl3
    replace hl5 := s71 _ _ hl5
    replace hc66 := s71 _ _ hc66
    replace hl68 := s71 _ _ hl68
    replace ht69 := s71 _ _ ht69
    replace hl70 := s71 _ _ hl70
    replace f := f.trans s71
    replace hC := Paired.mapP hC fun _ _ q => q.same s71
    generalize upd H70 l71 (.lst (RU ++ [.int 1, .int 0, .int 0, .int 2])) = H71 at *
    clear s71 nl71
    clear hl70
    refine ⟨(by show 2 ≤ sizeLine; decide), fun t72 nt72 => ?_⟩
    have s72 := sameUpd (o := .tup [.ref l71, .int 20]) (Same.refl H71) nt72
    have ht72 := @upd_same H71 t72 (.tup [.ref l71, .int 20])
    replace hl1 := s72 _ _ hl1
    replace hl3 := s72 _ _ hl3
    replace hl5 := s72 _ _ hl5
    replace hc66 := s72 _ _ hc66
    replace hl68 := s72 _ _ hl68
    replace ht69 := s72 _ _ ht69
    replace hl71 := s72 _ _ hl71
    replace f := f.trans s72
    replace hC := Paired.mapP hC fun _ _ q => q.same s72
    generalize upd H71 t72 (.tup [.ref l71, .int 20]) = H72 at *
    clear s72 nt72
    refine ⟨_, rfl, (by show 5 ≤ sizeLine; decide), fun l73 nl73 => ?_⟩
    have s73 := sameUpd (o := .lst [.int 1, .int 0, .int 0, .int 0, .int 3]) (Same.refl H72) nl73
    have hl73 := @upd_same H72 l73 (.lst [.int 1, .int 0, .int 0, .int 0, .int 3])
    replace hl1 := s73 _ _ hl1
    replace hl3 := s73 _ _ hl3
    replace hl5 := s73 _ _ hl5
    replace hc66 := s73 _ _ hc66
    replace hl68 := s73 _ _ hl68
    replace ht69 := s73 _ _ ht69
    replace hl71 := s73 _ _ hl71
    replace ht72 := s73 _ _ ht72
    replace f := f.trans s73
    replace hC := Paired.mapP hC fun _ _ q => q.same s73
    generalize upd H72 l73 (.lst [.int 1, .int 0, .int 0, .int 0, .int 3]) = H73 at *
    clear s73 nl73
    refine ⟨l5, l73, _, _, rfl, rfl, hl5, hl73, (by rw [lRU]; show 17 + 5 ≤ sizeLine; decide), fun l74 nl74 => ?_⟩
    have zl74 := f.free nl74
    have s74 := sameUpd (o := .lst (RU ++ [.int 1, .int 0, .int 0, .int 0, .int 3])) (Same.refl H73) nl74
    have hl74 := @upd_same H73 l74 (.lst (RU ++ [.int 1, .int 0, .int 0, .int 0, .int 3]))
    replace hl1 := s74 _ _ hl1
    replace hl3 := s74 _ _ hl3
    replace hl5 := s74 _ _ hl5
    replace hc66 := s74 _ _ hc66
    replace hl68 := s74 _ _ hl68
    replace ht69 := s74 _ _ ht69
    replace hl71 := s74 _ _ hl71
    replace ht72 := s74 _ _ ht72
    replace hl73 := s74 _ _ hl73
    replace f := f.trans s74
    replace hC := Paired.mapP hC fun _ _ q => q.same s74
    generalize upd H73 l74 (.lst (RU ++ [.int 1, .int 0, .int 0, .int 0, .int 3])) = H74 at *
    clear s74 nl74
    clear hl73
    refine ⟨(by show 2 ≤ sizeLine; decide), fun t75 nt75 => ?_⟩
    have s75 := sameUpd (o := .tup [.ref l74, .int 21]) (Same.refl H74) nt75
    have ht75 := @upd_same H74 t75 (.tup [.ref l74, .int 21])
    replace hl1 := s75 _ _ hl1
    replace hl3 := s75 _ _ hl3
    replace hl5 := s75 _ _ hl5
    replace hc66 := s75 _ _ hc66
    replace hl68 := s75 _ _ hl68
    replace ht69 := s75 _ _ ht69
    replace hl71 := s75 _ _ hl71
    replace ht72 := s75 _ _ ht72
    replace hl74 := s75 _ _ hl74
    replace f := f.trans s75
    replace hC := Paired.mapP hC fun _ _ q => q.same s75
    generalize upd H74 t75 (.tup [.ref l74, .int 21]) = H75 at *
    clear s75 nt75
    refine ⟨(by show 3 ≤ sizeLine; decide), fun c76 nc76 => ?_⟩
    have s76 := sameUpd (o := .lst [.ref t69, .ref t72, .ref t75]) (Same.refl H75) nc76
    have hc76 := @upd_same H75 c76 (.lst [.ref t69, .ref t72, .ref t75])
    replace hl1 := s76 _ _ hl1
    replace hl3 := s76 _ _ hl3
    replace hl5 := s76 _ _ hl5
    replace hc66 := s76 _ _ hc66
    replace hl68 := s76 _ _ hl68
    replace ht69 := s76 _ _ ht69
    replace hl71 := s76 _ _ hl71
    replace ht72 := s76 _ _ ht72
    replace hl74 := s76 _ _ hl74
    replace ht75 := s76 _ _ ht75
    replace f := f.trans s76
    replace hC := Paired.mapP hC fun _ _ q => q.same s76
    generalize upd H75 c76 (.lst [.ref t69, .ref t72, .ref t75]) = H76 at *
    clear s76 nc76
    have hlc : cv20.length = 20 := hC.length
    refine ⟨c66, c76, _, _, rfl, rfl, hc66, hc76, (by rw [hlc]; show 20 + 3 ≤ sizeLine; decide), fun c77 nc77 => ?_⟩
    have s77 := sameUpd (o := .lst (cv20 ++ [.ref t69, .ref t72, .ref t75])) (Same.refl H76) nc77
    have hc77 := @upd_same H76 c77 (.lst (cv20 ++ [.ref t69, .ref t72, .ref t75]))
    replace hl1 := s77 _ _ hl1
    replace hl3 := s77 _ _ hl3
    replace hl5 := s77 _ _ hl5
    replace hc66 := s77 _ _ hc66
    replace hl68 := s77 _ _ hl68
    replace ht69 := s77 _ _ ht69
    replace hl71 := s77 _ _ hl71
    replace ht72 := s77 _ _ ht72
    replace hl74 := s77 _ _ hl74
    replace ht75 := s77 _ _ ht75
    replace hc76 := s77 _ _ hc76
    replace f := f.trans s77
    replace hC := Paired.mapP hC fun _ _ q => q.same s77
    generalize upd H76 c77 (.lst (cv20 ++ [.ref t69, .ref t72, .ref t75])) = H77 at *
    clear s77 nc77
    obtain ⟨cv23, hcw, hD⟩ : ∃ cw, cv20 ++ [V.ref t69, V.ref t72, V.ref t75] = cw ∧ Paired (CaseAt H H77) cw (badL.take 23) := ⟨_, rfl, Paired_app15 hC (.cons ⟨t69, l68, rfl, ht69, hl68.trans (by rw [eRU]; rfl), zl68⟩ (.cons ⟨t72, l71, rfl, ht72, hl71.trans (by rw [eRU]; rfl), zl71⟩ (.cons ⟨t75, l74, rfl, ht75, hl74.trans (by rw [eRU]; rfl), zl74⟩ (.nil))))⟩
    rw [hcw] at hc77
    clear hl68 hl71 hl74 ht69 ht72 ht75 zl68 zl71 zl74 hc76 hc66
    clear hcw hC hlc
    have hC := hD
    clear hD
    dsimp only [gName]
    refine at_slots [some (.ref d), some (.ref l1), some (.ref l3), some (.ref l5), some (.ref c77)] rfl ?_
    refine ⟨_, rfl, _, rfl, (by show 6 ≤ sizeLine; decide), fun l78 nl78 => ?_⟩
    have s78 := sameUpd (o := .lst [.int 1, .int 0, .int 0, .int 0, .int 0, .int 2]) (Same.refl H77) nl78
    have hl78 := @upd_same H77 l78 (.lst [.int 1, .int 0, .int 0, .int 0, .int 0, .int 2])
    replace hl1 := s78 _ _ hl1
    replace hl3 := s78 _ _ hl3
    replace hl5 := s78 _ _ hl5
    replace hc77 := s78 _ _ hc77
    replace f := f.trans s78
    replace hC := Paired.mapP hC fun _ _ q => q.same s78
    generalize upd H77 l78 (.lst [.int 1, .int 0, .int 0, .int 0, .int 0, .int 2]) = H78 at *
    clear s78 nl78
    refine ⟨l5, l78, _, _, rfl, rfl, hl5, hl78, (by rw [lRU]; show 17 + 6 ≤ sizeLine; decide), fun l79 nl79 => ?_⟩
    have zl79 := f.free nl79
    have s79 := sameUpd (o := .lst (RU ++ [.int 1, .int 0, .int 0, .int 0, .int 0, .int 2])) (Same.refl H78) nl79
    have hl79 := @upd_same H78 l79 (.lst (RU ++ [.int 1, .int 0, .int 0, .int 0, .int 0, .int 2]))
    replace hl1 := s79 _ _ hl1
    replace hl3 := s79 _ _ hl3
    replace hl5 := s79 _ _ hl5
    replace hc77 := s79 _ _ hc77
    replace hl78 := s79 _ _ hl78
    replace f := f.trans s79
    replace hC := Paired.mapP hC fun _ _ q => q.same s79
    generalize upd H78 l79 (.lst (RU ++ [.int 1, .int 0, .int 0, .int 0, .int 0, .int 2])) = H79 at *
    clear s79 nl79
    clear hl78
    refine ⟨(by show 2 ≤ sizeLine; decide), fun t80 nt80 => ?_⟩
    have s80 := sameUpd (o := .tup [.ref l79, .int 22]) (Same.refl H79) nt80
    have ht80 := @upd_same H79 t80 (.tup [.ref l79, .int 22])
    replace hl1 := s80 _ _ hl1
    replace hl3 := s80 _ _ hl3
    replace hl5 := s80 _ _ hl5
    replace hc77 := s80 _ _ hc77
    replace hl79 := s80 _ _ hl79
    replace f := f.trans s80
    replace hC := Paired.mapP hC fun _ _ q => q.same s80
    generalize upd H79 t80 (.tup [.ref l79, .int 22]) = H80 at *
    clear s80 nt80
    refine ⟨_, rfl, (by show 7 ≤ sizeLine; decide), fun l81 nl81 => ?_⟩
    have s81 := sameUpd (o := .lst [.int 2, .int 0, .int 1, .int 0, .int 0, .int 0, .int 0]) (Same.refl H80) nl81
    have hl81 := @upd_same H80 l81 (.lst [.int 2, .int 0, .int 1, .int 0, .int 0, .int 0, .int 0])
    replace hl1 := s81 _ _ hl1
    replace hl3 := s81 _ _ hl3
    replace hl5 := s81 _ _ hl5
    replace hc77 := s81 _ _ hc77
    replace hl79 := s81 _ _ hl79
    replace ht80 := s81 _ _ ht80
    replace f := f.trans s81
    replace hC := Paired.mapP hC fun _ _ q => q.same s81
    generalize upd H80 l81 (.lst [.int 2, .int 0, .int 1, .int 0, .int 0, .int 0, .int 0]) = H81 at *
    clear s81 nl81
    refine ⟨l5, l81, _, _, rfl, rfl, hl5, hl81, (by rw [lRU]; show 17 + 7 ≤ sizeLine; decide), fun l82 nl82 => ?_⟩
    have zl82 := f.free nl82
    have s82 := sameUpd (o := .lst (RU ++ [.int 2, .int 0, .int 1, .int 0, .int 0, .int 0, .int 0])) (Same.refl H81) nl82
    have hl82 := @upd_same H81 l82 (.lst (RU ++ [.int 2, .int 0, .int 1, .int 0, .int 0, .int 0, .int 0]))
    replace hl1 := s82 _ _ hl1
    replace hl3 := s82 _ _ hl3
    replace hl5 := s82 _ _ hl5
    replace hc77 := s82 _ _ hc77
    replace hl79 := s82 _ _ hl79
    replace ht80 := s82 _ _ ht80
    replace hl81 := s82 _ _ hl81
    replace f := f.trans s82
    replace hC := Paired.mapP hC fun _ _ q => q.same s82
    generalize upd H81 l82 (.lst (RU ++ [.int 2, .int 0, .int 1, .int 0, .int 0, .int 0, .int 0])) = H82 at *
    clear s82 nl82
    clear hl81
    refine ⟨(by show 2 ≤ sizeLine; decide), fun t83 nt83 => ?_⟩
    have s83 := sameUpd (o := .tup [.ref l82, .int 23]) (Same.refl H82) nt83
    have ht83 := @upd_same H82 t83 (.tup [.ref l82, .int 23])
    replace hl1 := s83 _ _ hl1
    replace hl3 := s83 _ _ hl3
    replace hl5 := s83 _ _ hl5
    replace hc77 := s83 _ _ hc77
    replace hl79 := s83 _ _ hl79
    replace ht80 := s83 _ _ ht80
    replace hl82 := s83 _ _ hl82
    replace f := f.trans s83
    replace hC := Paired.mapP hC fun _ _ q => q.same s83
    generalize upd H82 t83 (.tup [.ref l82, .int 23]) = H83 at *
    clear s83 nt83
    refine ⟨(by show 2 ≤ sizeLine; decide), fun c84 nc84 => ?_⟩
    have s84 := sameUpd (o := .lst [.ref t80, .ref t83]) (Same.refl H83) nc84
    have hc84 := @upd_same H83 c84 (.lst [.ref t80, .ref t83])
    replace hl1 := s84 _ _ hl1
    replace hl3 := s84 _ _ hl3
    replace hl5 := s84 _ _ hl5
    replace hc77 := s84 _ _ hc77
    replace hl79 := s84 _ _ hl79
    replace ht80 := s84 _ _ ht80
    replace hl82 := s84 _ _ hl82
    replace ht83 := s84 _ _ ht83
    replace f := f.trans s84
    replace hC := Paired.mapP hC fun _ _ q => q.same s84
    generalize upd H83 c84 (.lst [.ref t80, .ref t83]) = H84 at *
    clear s84 nc84
    have hlc : cv23.length = 23 := hC.length
    refine ⟨c77, c84, _, _, rfl, rfl, hc77, hc84, (by rw [hlc]; show 23 + 2 ≤ sizeLine; decide), fun c85 nc85 => ?_⟩
    have s85 := sameUpd (o := .lst (cv23 ++ [.ref t80, .ref t83])) (Same.refl H84) nc85
    have hc85 := @upd_same H84 c85 (.lst (cv23 ++ [.ref t80, .ref t83]))
    replace hl1 := s85 _ _ hl1
    replace hl3 := s85 _ _ hl3
    replace hl5 := s85 _ _ hl5
    replace hc77 := s85 _ _ hc77
    replace hl79 := s85 _ _ hl79
    replace ht80 := s85 _ _ ht80
    replace hl82 := s85 _ _ hl82
    replace ht83 := s85 _ _ ht83
    replace hc84 := s85 _ _ hc84
    replace f := f.trans s85
    replace hC := Paired.mapP hC fun _ _ q => q.same s85
    generalize upd H84 c85 (.lst (cv23 ++ [.ref t80, .ref t83])) = H85 at *
    clear s85 nc85
    obtain ⟨cv25, hcw, hD⟩ : ∃ cw, cv23 ++ [V.ref t80, V.ref t83] = cw ∧ Paired (CaseAt H H85) cw (badL.take 25) := ⟨_, rfl, Paired_app15 hC (.cons ⟨t80, l79, rfl, ht80, hl79.trans (by rw [eRU]; rfl), zl79⟩ (.cons ⟨t83, l82, rfl, ht83, hl82.trans (by rw [eRU]; rfl), zl82⟩ (.nil)))⟩
    rw [hcw] at hc85
    clear hl79 hl82 ht80 ht83 zl79 zl82 hc84 hc77
    clear hcw hC hlc
    have hC := hD
    clear hD
    dsimp only [gName]
    refine at_slots [some (.ref d), some (.ref l1), some (.ref l3), some (.ref l5), some (.ref c85)] rfl ?_
    refine ⟨_, rfl, _, rfl, (by show 7 ≤ sizeLine; decide), fun l86 nl86 => ?_⟩
    have s86 := sameUpd (o := .lst [.int 2, .int 1, .int 0, .int 0, .int 0, .int 0, .int 0]) (Same.refl H85) nl86
    have hl86 := @upd_same H85 l86 (.lst [.int 2, .int 1, .int 0, .int 0, .int 0, .int 0, .int 0])
    replace hl1 := s86 _ _ hl1
    replace hl3 := s86 _ _ hl3
    replace hl5 := s86 _ _ hl5
    replace hc85 := s86 _ _ hc85
    replace f := f.trans s86
    replace hC := Paired.mapP hC fun _ _ q => q.same s86
    generalize upd H85 l86 (.lst [.int 2, .int 1, .int 0, .int 0, .int 0, .int 0, .int 0]) = H86 at *
    clear s86 nl86
    refine ⟨l5, l86, _, _, rfl, rfl, hl5, hl86, (by rw [lRU]; show 17 + 7 ≤ sizeLine; decide), fun l87 nl87 => ?_⟩
    have zl87 := f.free nl87
    have s87 := sameUpd (o := .lst (RU ++ [.int 2, .int 1, .int 0, .int 0, .int 0, .int 0, .int 0])) (Same.refl H86) nl87
    have hl87 := @upd_same H86 l87 (.lst (RU ++ [.int 2, .int 1, .int 0, .int 0, .int 0, .int 0, .int 0]))
    replace hl1 := s87 _ _ hl1
    replace hl3 := s87 _ _ hl3
    replace hl5 := s87 _ _ hl5
    replace hc85 := s87 _ _ hc85
    replace hl86 := s87 _ _ hl86
    replace f := f.trans s87
    replace hC := Paired.mapP hC fun _ _ q => q.same s87
    generalize upd H86 l87 (.lst (RU ++ [.int 2, .int 1, .int 0, .int 0, .int 0, .int 0, .int 0])) = H87 at *
    clear s87 nl87
    clear hl86
    refine ⟨(by show 2 ≤ sizeLine; decide), fun t88 nt88 => ?_⟩
    have s88 := sameUpd (o := .tup [.ref l87, .int 23]) (Same.refl H87) nt88
    have ht88 := @upd_same H87 t88 (.tup [.ref l87, .int 23])
    replace hl1 := s88 _ _ hl1
    replace hl3 := s88 _ _ hl3
    replace hl5 := s88 _ _ hl5
    replace hc85 := s88 _ _ hc85
    replace hl87 := s88 _ _ hl87
    replace f := f.trans s88
    replace hC := Paired.mapP hC fun _ _ q => q.same s88
    generalize upd H87 t88 (.tup [.ref l87, .int 23]) = H88 at *
    clear s88 nt88
    refine ⟨_, rfl, (by show 8 ≤ sizeLine; decide), fun l89 nl89 => ?_⟩
    have s89 := sameUpd (o := .lst [.int 2, .int 1, .int 0, .int 0, .int 0, .int 0, .int 1, .int 0]) (Same.refl H88) nl89
    have hl89 := @upd_same H88 l89 (.lst [.int 2, .int 1, .int 0, .int 0, .int 0, .int 0, .int 1, .int 0])
    replace hl1 := s89 _ _ hl1
    replace hl3 := s89 _ _ hl3
    replace hl5 := s89 _ _ hl5
    replace hc85 := s89 _ _ hc85
    replace hl87 := s89 _ _ hl87
    replace ht88 := s89 _ _ ht88
    replace f := f.trans s89
    replace hC := Paired.mapP hC fun _ _ q => q.same s89
    generalize upd H88 l89 (.lst [.int 2, .int 1, .int 0, .int 0, .int 0, .int 0, .int 1, .int 0]) = H89 at *
    clear s89 nl89
    refine ⟨l5, l89, _, _, rfl, rfl, hl5, hl89, (by rw [lRU]; show 17 + 8 ≤ sizeLine; decide), fun l90 nl90 => ?_⟩
    have zl90 := f.free nl90
    have s90 := sameUpd (o := .lst (RU ++ [.int 2, .int 1, .int 0, .int 0, .int 0, .int 0, .int 1, .int 0])) (Same.refl H89) nl90
    have hl90 := @upd_same H89 l90 (.lst (RU ++ [.int 2, .int 1, .int 0, .int 0, .int 0, .int 0, .int 1, .int 0]))
    replace hl1 := s90 _ _ hl1
    replace hl3 := s90 _ _ hl3
    replace hl5 := s90 _ _ hl5
    replace hc85 := s90 _ _ hc85
    replace hl87 := s90 _ _ hl87
    replace ht88 := s90 _ _ ht88
    replace hl89 := s90 _ _ hl89
    replace f := f.trans s90
    replace hC := Paired.mapP hC fun _ _ q => q.same s90
    generalize upd H89 l90 (.lst (RU ++ [.int 2, .int 1, .int 0, .int 0, .int 0, .int 0, .int 1, .int 0])) = H90 at *
    clear s90 nl90
    clear hl89
    refine ⟨(by show 2 ≤ sizeLine; decide), fun t91 nt91 => ?_⟩
    have s91 := sameUpd (o := .tup [.ref l90, .int 24]) (Same.refl H90) nt91
    have ht91 := @upd_same H90 t91 (.tup [.ref l90, .int 24])
    replace hl1 := s91 _ _ hl1
    replace hl3 := s91 _ _ hl3
    replace hl5 := s91 _ _ hl5
    replace hc85 := s91 _ _ hc85
    replace hl87 := s91 _ _ hl87
    replace ht88 := s91 _ _ ht88
    replace hl90 := s91 _ _ hl90
    replace f := f.trans s91
    replace hC := Paired.mapP hC fun _ _ q => q.same s91
    generalize upd H90 t91 (.tup [.ref l90, .int 24]) = H91 at *
    clear s91 nt91
    refine ⟨(by show 2 ≤ sizeLine; decide), fun c92 nc92 => ?_⟩
    have s92 := sameUpd (o := .lst [.ref t88, .ref t91]) (Same.refl H91) nc92
    have hc92 := @upd_same H91 c92 (.lst [.ref t88, .ref t91])
    replace hl1 := s92 _ _ hl1
    replace hl3 := s92 _ _ hl3
    replace hl5 := s92 _ _ hl5
    replace hc85 := s92 _ _ hc85
    replace hl87 := s92 _ _ hl87
    replace ht88 := s92 _ _ ht88
    replace hl90 := s92 _ _ hl90
    replace ht91 := s92 _ _ ht91
    replace f := f.trans s92
    replace hC := Paired.mapP hC fun _ _ q => q.same s92
    generalize upd H91 c92 (.lst [.ref t88, .ref t91]) = H92 at *
    clear s92 nc92
    have hlc : cv25.length = 25 := hC.length
    refine ⟨c85, c92, _, _, rfl, rfl, hc85, hc92, (by rw [hlc]; show 25 + 2 ≤ sizeLine; decide), fun c93 nc93 => ?_⟩
    have zc93 := f.free nc93
    have s93 := sameUpd (o := .lst (cv25 ++ [.ref t88, .ref t91])) (Same.refl H92) nc93
    have hc93 := @upd_same H92 c93 (.lst (cv25 ++ [.ref t88, .ref t91]))
    replace hl1 := s93 _ _ hl1
    replace hl3 := s93 _ _ hl3
    replace hl5 := s93 _ _ hl5
    replace hc85 := s93 _ _ hc85
    replace hl87 := s93 _ _ hl87
    replace ht88 := s93 _ _ ht88
    replace hl90 := s93 _ _ hl90
    replace ht91 := s93 _ _ ht91
    replace hc92 := s93 _ _ hc92
    replace f := f.trans s93
    replace hC := Paired.mapP hC fun _ _ q => q.same s93
    generalize upd H92 c93 (.lst (cv25 ++ [.ref t88, .ref t91])) = H93 at *
    clear s93 nc93
    obtain ⟨cv27, hcw, hD⟩ : ∃ cw, cv25 ++ [V.ref t88, V.ref t91] = cw ∧ Paired (CaseAt H H93) cw (badL.take 27) := ⟨_, rfl, Paired_app15 hC (.cons ⟨t88, l87, rfl, ht88, hl87.trans (by rw [eRU]; rfl), zl87⟩ (.cons ⟨t91, l90, rfl, ht91, hl90.trans (by rw [eRU]; rfl), zl90⟩ (.nil)))⟩
    rw [hcw] at hc93
    clear hl87 hl90 ht88 ht91 zl87 zl90 hc92 hc85
    clear hcw hC hlc
    have hC := hD
    clear hD
    dsimp only [gName]
    refine at_slots [some (.ref d), some (.ref l1), some (.ref l3), some (.ref l5), some (.ref c93)] rfl ?_
    refine ⟨_, rfl, .inl ⟨rfl, _, SqL.of hc93⟩, _, rfl, (by show 7 ≤ sizeLine; decide), fun l94 nl94 => ?_⟩
    have s94 := sameUpd (o := .lst [.int 2, .int 1, .int 1, .int 0, .int 0, .int 0, .int 1]) (Same.refl H93) nl94
    have hl94 := @upd_same H93 l94 (.lst [.int 2, .int 1, .int 1, .int 0, .int 0, .int 0, .int 1])
    replace hl1 := s94 _ _ hl1
    replace hl3 := s94 _ _ hl3
    replace hl5 := s94 _ _ hl5
    replace hc93 := s94 _ _ hc93
    replace f := f.trans s94
    replace hC := Paired.mapP hC fun _ _ q => q.same s94
    generalize upd H93 l94 (.lst [.int 2, .int 1, .int 1, .int 0, .int 0, .int 0, .int 1]) = H94 at *
    clear s94 nl94
    refine ⟨l5, l94, _, _, rfl, rfl, hl5, hl94, (by rw [lRU]; show 17 + 7 ≤ sizeLine; decide), fun l95 nl95 => ?_⟩
    have zl95 := f.free nl95
    have s95 := sameUpd (o := .lst (RU ++ [.int 2, .int 1, .int 1, .int 0, .int 0, .int 0, .int 1])) (Same.refl H94) nl95
    have hl95 := @upd_same H94 l95 (.lst (RU ++ [.int 2, .int 1, .int 1, .int 0, .int 0, .int 0, .int 1]))
    replace hl1 := s95 _ _ hl1
    replace hl3 := s95 _ _ hl3
    replace hl5 := s95 _ _ hl5
    replace hc93 := s95 _ _ hc93
    replace hl94 := s95 _ _ hl94
    replace f := f.trans s95
    replace hC := Paired.mapP hC fun _ _ q => q.same s95
    generalize upd H94 l95 (.lst (RU ++ [.int 2, .int 1, .int 1, .int 0, .int 0, .int 0, .int 1])) = H95 at *
    clear s95 nl95
    clear hl94
    refine ⟨(by show 2 ≤ sizeLine; decide), fun t96 nt96 => ?_⟩
    have s96 := sameUpd (o := .tup [.ref l95, .int 23]) (Same.refl H95) nt96
    have ht96 := @upd_same H95 t96 (.tup [.ref l95, .int 23])
    replace hl1 := s96 _ _ hl1
    replace hl3 := s96 _ _ hl3
    replace hl5 := s96 _ _ hl5
    replace hc93 := s96 _ _ hc93
    replace hl95 := s96 _ _ hl95
    replace f := f.trans s96
    replace hC := Paired.mapP hC fun _ _ q => q.same s96
    generalize upd H95 t96 (.tup [.ref l95, .int 23]) = H96 at *
    clear s96 nt96
    have hlc : cv27.length = 27 := hC.length
    refine ⟨c93, _, _, rfl, rfl, hc93, (by rw [hlc, sizeLine_eq]; decide), ?_⟩
    have hlast : CaseAt H H96 (.ref t96) ([82, 2, 2, 1, 0, 1, 1, 2, 1, 0, 1, 2, 1, 1, 1, 1, 0, 2, 1, 1, 0, 0, 0, 1], 23) := ⟨t96, l95, rfl, ht96, hl95.trans (by rw [eRU]; rfl), zl95⟩
    obtain ⟨f2, hP, hln, hc⟩ := bb_fin hC hc93 zc93 f hlast
    generalize upd H96 c93 (.lst (cv27 ++ [.ref t96])) = HX at *
    generalize cv27 ++ [V.ref t96] = cF at *
    have hdX : DrawAt HX d := (Drawn.of hd f2).at_
    refine ⟨_, rfl, _, rfl, _, rfl, c93, _, rfl, .inl (SqL.of hc), d, 28, by rw [hln]; rfl, hdX, by decide, by decide, fun b s c bs hb hbs => ?_⟩
    have dr : Drawn d HX (upd HX d (drawL s c bs)) := (Drawn.refl hdX).draw hbs
    obtain ⟨v, hv⟩ : ∃ v, cF[b]? = some v := ⟨_, List.getElem?_eq_getElem (by omega)⟩
    obtain ⟨x, hx, t, l, rfl, e1, e2, e3⟩ := pairedL hP hv
    refine ⟨c93, _, b, _, rfl, rfl, SqL.of (dr.same _ _ (hd.ne zc93).symm hc), atI_nat hv, k t l x _ ((Drawn.of hd f2).draw hbs) (List.mem_of_getElem? hx) e3 (dr.same _ _ (hdX.not e1 (by simp)) e1) (dr.same _ _ (hd.ne e3).symm e2)⟩
end
end Sw

end

section
set_option maxRecDepth 100000
set_option maxHeartbeats 4000000
/-! the law's own: all calls raise the expected error, with what it tells -/
namespace Sw
open PySem PySem.Spec PyProof.Rows L2 SwA
/-- the error z with what it tells -/
def ErrK (K : PySem.W.Frag) (cls : Value) (d : Option Addr) (H : Hp) (z : Str) (x : PyData) : Prop := ∃ (D : Str) (j : Nat), cls = .ref (He.ga K D) ∧ EKind K D j ∧ wordN[j]? = some z ∧
  ((j < 8 ∧ d = none ∧ x = .int 0) ∨
   ((j = 10 ∨ j = 11) ∧ XfC K (He.ga K D) ∧ PySem.W.findIn K (.ref (He.ga K D)) "place" = some none ∧ ∃ (dd : Addr) (fs : List (Str × V)) (i : Int), d = some dd ∧ H dd = some (.xd fs) ∧ List.lookup ("place" : Str) fs = some (V.int i) ∧ x = .int i) ∨
   (j = 8 ∧ XfC K (He.ga K D) ∧ PySem.W.findIn K (.ref (He.ga K D)) "line" = some none ∧ PySem.W.findIn K (.ref (He.ga K D)) "column" = some none ∧ ∃ (dd : Addr) (fs : List (Str × V)) (l c : Int), d = some dd ∧ H dd = some (.xd fs) ∧ List.lookup ("line" : Str) fs = some (V.int l) ∧ List.lookup ("column" : Str) fs = some (V.int c) ∧ x = .tuple [.int l, .int c]))
theorem ErrK.told {K : PySem.W.Frag} {cls : Value} {d : Option Addr} {H : Hp} {z : Str} {x : PyData} {Q : VK} (h : ErrK K cls d H z x) (k : ∀ (t : Addr) (H' : Hp), Same H H' → Dp K H' (.ref t) (.tuple [.str z, x]) → Q (.ref t) H') : ErrX K cls d H Q := by
  obtain ⟨D, j, e1, ek, hz, hc⟩ := h
  refine ⟨D, j, z, e1, ek, hz, ?_⟩
  rcases hc with ⟨h1, h2, rfl⟩ | ⟨h1, h2, h3, dd, fs, i, h4, h5, h6, rfl⟩ | ⟨h1, h2, h3, h4, dd, fs, l, c, h5, h6, h7, h8, rfl⟩
  · exact .inl ⟨h1, h2, fun t H' s q => k t H' s (.tup (SqT.of q) (.cons (.str _) (.cons (.int _) .nil)))⟩
  · exact .inr (.inl ⟨h1, h2, h3, dd, fs, i, h4, h5, h6, fun t H' s q => k t H' s (.tup (SqT.of q) (.cons (.str _) (.cons (.int _) .nil)))⟩)
  · exact .inr (.inr ⟨h1, h2, h3, h4, dd, fs, l, c, h5, h6, h7, h8, fun t t2 H' s q2 q => k t H' s (.tup (SqT.of q) (.cons (.str _) (.cons (.tup (SqT.of q2) (.cons (.int _) (.cons (.int _) .nil))) .nil)))⟩)
end Sw

end

section
set_option maxRecDepth 100000
set_option maxHeartbeats 4000000
/-! lambdas that are told -/
namespace Sw
open PySem PySem.Spec PyProof.Rows L2 SwA LamX NdefX
theorem mm0 {α : Type} {x : α} {l : List α} : x ∈ x :: l := List.mem_cons_self
theorem mm1 {α : Type} {x a : α} {l : List α} : x ∈ a :: x :: l := List.mem_cons_of_mem _ mm0
theorem mm2 {α : Type} {x a b : α} {l : List α} : x ∈ a :: b :: x :: l := List.mem_cons_of_mem _ mm1
theorem mm3 {α : Type} {x a b c : α} {l : List α} : x ∈ a :: b :: c :: x :: l := List.mem_cons_of_mem _ mm2
theorem mm4 {α : Type} {x a b c d : α} {l : List α} : x ∈ a :: b :: c :: d :: x :: l := List.mem_cons_of_mem _ mm3
theorem mm5 {α : Type} {x a b c d e : α} {l : List α} : x ∈ a :: b :: c :: d :: e :: x :: l := List.mem_cons_of_mem _ mm4
theorem mm6 {α : Type} {x a b c d e f : α} {l : List α} : x ∈ a :: b :: c :: d :: e :: f :: x :: l := List.mem_cons_of_mem _ mm5
theorem mm7 {α : Type} {x a b c d e f g : α} {l : List α} : x ∈ a :: b :: c :: d :: e :: f :: g :: x :: l := List.mem_cons_of_mem _ mm6
theorem mm8 {α : Type} {x a b c d e f g h : α} {l : List α} : x ∈ a :: b :: c :: d :: e :: f :: g :: h :: x :: l := List.mem_cons_of_mem _ mm7
theorem up1 {α : Type} {x a : α} {l : List α} (h : x ∈ l) : x ∈ a :: l := List.mem_cons_of_mem _ h
theorem up5 {α : Type} {x a b c d e : α} {l : List α} (h : x ∈ l) : x ∈ a :: b :: c :: d :: e :: l := up1 (up1 (up1 (up1 (up1 h))))
def lamFreeB (sc outer : Scope) : Bool := sc.names.all fun y => !decide (y.2 = .free) || (decide (outer.names.lookup y.1 = some .cell) || decide (outer.names.lookup y.1 = some .free))
theorem lamFree {sc outer : Scope} (h : lamFreeB sc outer = true) : ∀ y ∈ sc.names, y.2 = .free → outer.names.lookup y.1 = some .cell ∨ outer.names.lookup y.1 = some .free := fun y hy e => by
  have := List.all_eq_true.mp h y hy
  rw [decide_eq_true e, Bool.not_true, Bool.false_or, Bool.or_eq_true, decide_eq_true_eq, decide_eq_true_eq] at this
  exact this
section
variable {CX : CXT} {P : Program} {w : World} {K : PySem.W.Frag} {mg : Str → Option Value} {base : Heap} {N ps fr : List Str} {F : NF} {f t0 : Addr} {e : Expr} {k : Nat} {sp : Sp} {ws : List (Option V)} {H0 : Hp}
theorem vok0 (hf : H0 f = some (LamV f F e .none)) (S : NScope N [] fr F.scope) (C : CellsAt F.cl fr ws base fun _ => none) (hbind : ∀ (doc pm ctv : Value), bindArgs (PySem.W.kdv_fn F.name F.qual F.params (.expr e) F.scope F.cl .none doc pm (.ref F.c) ctv) ⟨[], []⟩ = pure [])
    (hbody : ∀ (A : Around) (outer : List Env) (s : Shared) (H : Hp) (Q : VK) (E : XK), Room k (A.deeper (envF F f s.heap.objs.size)) → sp [] H Q E → ∃ t, PE (ncx CX P w K mg base N F f A outer s H E) e t ∧ t (startF N [] ws) H Q) :
    VOk P w K mg base CX (k + 1) f (gLamV0 f F e) (fun vs H Q E => vs = [] ∧ sp [] H Q E) := vok_V0 S hbind C hbody
theorem vok1 {x : Str} (hf : H0 f = some (LamV f F e (.ref t0))) (S : NScope N [x] fr F.scope) (C : CellsAt F.cl fr ws base fun _ => none) (hbind : ∀ (doc pm ctv : Value), ∃ kk : Option (Array Value) → Sem (List (Str × Value)), bindArgs (PySem.W.kdv_fn F.name F.qual F.params (.expr e) F.scope F.cl (.ref t0) doc pm (.ref F.c) ctv) ⟨[], []⟩ = seqItems? (.ref t0) >>= kk ∧ ∀ u : Value, kk (some #[u]) = pure [(x, u)])
    (hbody : ∀ (A : Around) (outer : List Env) (s : Shared) (H : Hp) (Q : VK) (E : XK), Room k (A.deeper (envF F f s.heap.objs.size)) → sp [] H Q E → ∃ t, PE (ncx CX P w K mg base N F f A outer s H E) e t ∧ t (startF N [.int 0] ws) H Q) :
    VOk P w K mg base CX (k + 1) f (gLamV1 f t0 F e) (fun vs H Q E => vs = [] ∧ sp [] H Q E) := vok_V1 S hbind C hbody
end
theorem codeO_l {c : Addr} {q : Str} (zs : List V) : CodeO c q ≠ .lst zs := fun z => by unfold CodeO at z; cases z
theorem codeO_i {c : Addr} {q : Str} (C dx : Addr) (fs : List (Str × V)) : CodeO c q ≠ .ins C dx fs := fun z => by unfold CodeO at z; cases z
theorem codeO_t {c : Addr} {q : Str} (ps : Array Value) : CodeO c q ≠ .tbl ps := fun z => by unfold CodeO at z; cases z
end Sw

end

section
set_option maxRecDepth 100000
set_option maxHeartbeats 4000000
/-! heaps without the tables of code objects -/
namespace Sw
open PySem PySem.Spec PyProof.Rows L2 SwA
def NT (H : Hp) (b : Addr) : Prop := ∀ ps, H b ≠ some (.tbl ps)
theorem nt {H : Hp} {b : Addr} {o : HO} (e : H b = some o) (n : ∀ ps, o ≠ .tbl ps := by intro ps z; cases z) : NT H b := fun ps z => by
  rw [e] at z
  exact n ps (Option.some.inj z)
/-- the heap without tables -/
def noT (H : Hp) : Hp := fun b => match H b with
  | some (.tbl _) => none
  | o => o
theorem noT_some {H : Hp} {b : Addr} {o : HO} (e : noT H b = some o) : H b = some o ∧ ∀ ps, o ≠ .tbl ps := by
  unfold noT at e
  split at e
  · cases e
  · rename_i n
    refine ⟨e, fun ps z => ?_⟩
    subst z
    exact n _ e
theorem noT_of {H : Hp} {b : Addr} {o : HO} (e : H b = some o) (n : ∀ ps, o ≠ .tbl ps := by intro ps z; cases z) : noT H b = some o := by
  unfold noT
  rw [e]
  cases o with
  | tbl ps => exact absurd rfl (n ps)
  | _ => rfl
theorem noT_sub (H : Hp) : Same (noT H) H := fun b o e => (noT_some e).1
theorem ext_same {H H' : Hp} (e : LamX.ExtN H H') : Same (noT H) H' := fun b o z => e b o (noT_some z).1 (noT_some z).2
theorem ext_noT {H H' : Hp} (e : LamX.ExtN H H') : Same (noT H) (noT H') := fun b o z => noT_of (e b o (noT_some z).1 (noT_some z).2) (noT_some z).2
theorem ext_of {H H' : Hp} (s : Same H H') : LamX.ExtN H H' := fun b o e _ => s b o e
theorem TupN.trT {H : Hp} {a : Addr} {xs : List V} (h : TupN H a xs) : TupN (noT H) a xs := h.mono fun _ z => noT_of z
end Sw

end

section
set_option maxRecDepth 100000
set_option maxHeartbeats 4000000
set_option pp.deepTerms false
set_option pp.deepTerms.threshold 12
/-! k15: the law -/
namespace Sw
open PySem PySem.Spec PyProof.Rows L2 SwA LamX
structure L15T (K : PySem.W.Frag) (mg : Str → Option Value) : Prop where
  li : LinT K mg
  x : RdxT K mg
  bb : BbT K mg
  e : EofT K mg
  eo : EKind K "InvalidCode" 10
  xo : XfC K (He.ga K "InvalidCode")
theorem PlanV.same {H H' : Hp} {a : Addr} {pl : Plan} (s : Same H H') (h : PlanV H a pl) : PlanV H' a pl := by
  obtain ⟨sa, ma, fa, ra, rd, ras, e1, e2, e3, e4, e5, e6, kvs, e7, e8⟩ := h
  exact ⟨sa, ma, fa, ra, rd, ras, s _ _ e1, e2.mono fun _ z => s _ _ z, e3.mono fun _ z => s _ _ z, s _ _ e4, s _ _ e5, Paired.mapP e6 fun _ _ q => s _ _ q, kvs, s _ _ e7, Paired.mapP e8 fun _ _ q => q.mono fun _ _ z => s _ _ z⟩
theorem codeB_len15 {pl : Plan} (wf : WfP pl) (so : SortedR pl.rules) : (codeB pl).length ≤ 1001 := by
  have lN1 := namesB_len wf.sN (by have := wf.s4; omega)
  have lN2 := namesB_len wf.mN wf.m6
  have lR := flat_small (f := robB) (l := pl.robots) (b := 2) fun x hx => Nat.le_refl _
  have lU := flat_small (f := ruleB) (l := pl.rules) (b := 5) fun x hx => Nat.le_refl _
  have hru := rules_few wf so
  have h16 := wf.n16
  have hr3 := wf.r3
  unfold codeB bodyB
  simp only [List.length_append, List.length_cons, List.length_nil]
  omega
theorem tabs_kp15 {H H' : Hp} {T : List (Addr × Str)} (t : Tabs T H) (e : ∀ b o, H b = some o → (∀ xs, o ≠ .lst xs) → H' b = some o) : Tabs T H' := fun p hp => by
  obtain ⟨ps, h1, h2, h3⟩ := t p hp
  refine ⟨ps, e _ _ h1 (by simp), h2, fun pos cv hc => ?_⟩
  obtain ⟨c, e1, e2⟩ := h3 pos cv hc
  exact ⟨c, e1, e _ _ e2 (fun xs z => by unfold CodeO at z; cases z)⟩
/-- what stands: the source of numbers, the code of a plan -/
structure S15 (H : Hp) (d cl : Addr) (cd : List Nat) (T : List (Addr × Str)) : Prop where
  dw : DrawAt H d
  co : H cl = some (.lst (iVs cd))
  ne : cl ≠ d
  tb : Tabs T H
section
variable {H H' : Hp} {d cl : Addr} {cd : List Nat} {T : List (Addr × Str)}
theorem S15.same (S : S15 H d cl cd T) (s : Same H H') : S15 H' d cl cd T := ⟨(Drawn.of S.dw s).at_, s _ _ S.co, S.ne, Tabs.ext S.tb s⟩
theorem S15.ext (S : S15 H d cl cd T) (x : ExtN H H') (t : Tabs T H') : S15 H' d cl cd T := ⟨let ⟨a, b, c, l, q⟩ := S.dw; ⟨a, b, c, l, x _ _ q (by intro ps z; cases z)⟩, x _ _ S.co (fun _ z => by cases z), S.ne, t⟩
theorem S15.drawn (S : S15 H d cl cd T) (dr : Drawn d H H') : S15 H' d cl cd T := ⟨dr.at_, dr.same _ _ S.ne S.co, S.ne, tabs_kp15 S.tb fun b o q n => dr.same _ _ (S.dw.not q n) q⟩
end
theorem kn_nats {K : PySem.W.Frag} {H : Hp} {l : List Nat} (h : l.length ≤ 10000) : KnL K H (iVs l) := ⟨by rw [List.length_map]; exact h, fun v hv => by
  obtain ⟨n, _, rfl⟩ := List.mem_map.mp hv
  exact ⟨_, .int _⟩⟩
theorem bad_end (L : List V) : Bad L L.length := fun lo hi _ _ => rdB_end
theorem bad_cut {cd : List Nat} {m n : Nat} (hd : decM (iVs cd) = .ok ((), m)) (hm : m = cd.length) (hn : n < cd.length) : decM (iVs (cd.take n)) = .error n := by
  refine dec_bad (L := iVs cd) (fun i hi => ?_) hd (by omega) ?_
  · rw [List.getElem?_map, List.getElem?_map, List.getElem?_take_of_lt hi]
  · have := bad_end (iVs (cd.take n))
    rw [List.length_map, List.length_take, Nat.min_eq_left (by omega)] at this
    exact this
theorem S15.put {H : Hp} {d cl D : Addr} {cd : List Nat} {T : List (Addr × Str)} {ys zs : List V} (S : S15 H d cl cd T) (hD : H D = some (.lst ys)) (n1 : D ≠ d) (n2 : D ≠ cl) : S15 (upd H D (.lst zs)) d cl cd T :=
  ⟨let ⟨a, b, c, l, q⟩ := S.dw; ⟨a, b, c, l, (upd_ne n1.symm).trans q⟩, (upd_ne n2.symm).trans S.co, S.ne, tabs_kp15 S.tb fun b o q n => (upd_ne fun z => n _ (by rw [z, hD] at q; exact (Option.some.inj q).symm)).trans q⟩
theorem S15.nw {H : Hp} {d cl x : Addr} {cd : List Nat} {T : List (Addr × Str)} (S : S15 H d cl cd T) (n : H x = none) : x ≠ d ∧ x ≠ cl := ⟨(S.dw.ne n).symm, fun z => by rw [z, S.co] at n; cases n⟩
/-- a value that is no byte -/
def OddV (K : PySem.W.Frag) (H : Hp) (v : V) : Prop := (∃ n, ArN K H v n) ∧ ∀ lo hi : Int, 0 ≤ lo → hi ≤ 255 → isIntIn v lo hi = false
theorem bad_at {L : List V} {n : Nat} {v : V} (h : L[n]? = some v) (hv : ∀ lo hi : Int, 0 ≤ lo → hi ≤ 255 → isIntIn v lo hi = false) : Bad L n := fun lo hi h0 h1 => (rdB_val (hi := hi) h h0).2 (hv lo hi h0 h1)
theorem ch_at {cd : List Nat} {n : Nat} {v : V} (h : n < cd.length) : (iVs (cd.take n) ++ [v] ++ iVs (cd.drop (n + 1)))[n]? = some v ∧ ∀ i < n, (iVs (cd.take n) ++ [v] ++ iVs (cd.drop (n + 1)))[i]? = (iVs cd)[i]? := by
  have hl : (iVs (cd.take n)).length = n := by rw [List.length_map, List.length_take]; omega
  refine ⟨?_, fun i hi => ?_⟩
  · rw [List.getElem?_append_left (by rw [List.length_append, hl]; simp), List.getElem?_append_right (by omega), hl, Nat.sub_self]
    rfl
  · rw [List.getElem?_append_left (by rw [List.length_append, hl]; simp; omega), List.getElem?_append_left (by omega), List.getElem?_map, List.getElem?_map, List.getElem?_take_of_lt hi]
theorem more_at {cd xs : List Nat} : ∀ i < cd.length, (iVs cd ++ iVs xs)[i]? = (iVs cd)[i]? := fun i hi => List.getElem?_append_left (by rw [List.length_map]; exact hi)
theorem kn_app {K : PySem.W.Frag} {H : Hp} {a b : List V} (h1 : ∀ v ∈ a, ∃ n, ArN K H v n) (h2 : ∀ v ∈ b, ∃ n, ArN K H v n) (hl : (a ++ b).length ≤ 10000) : KnL K H (a ++ b) := ⟨hl, fun v hv => (List.mem_append.mp hv).elim (h1 v) (h2 v)⟩
theorem ar_nats {K : PySem.W.Frag} {H : Hp} {l : List Nat} : ∀ v ∈ iVs l, ∃ n, ArN K H v n := fun v hv => by
  obtain ⟨n, _, rfl⟩ := List.mem_map.mp hv
  exact ⟨_, .int _⟩
theorem cut_last15 {xs : List V} {x : V} : cutV (xs ++ [x]) none (some (-1)) = xs := by
  show ((xs ++ [x]).drop 0).take (HT.sIx (xs ++ [x]).length (xs ++ [x]).length (some (-1)) - 0) = xs
  have e : HT.sIx (xs ++ [x]).length (xs ++ [x]).length (some (-1)) = xs.length := by
    show (if (-1 : Int) < 0 then (-1 + ((xs ++ [x]).length : Int)).toNat else min (-1 : Int).toNat (xs ++ [x]).length) = _
    rw [if_pos (by decide), List.length_append, List.length_singleton]
    omega
  rw [e, List.drop_zero, Nat.sub_zero, List.take_left']
  rfl
theorem at_last15 {xs : List V} {x : V} : atI (xs ++ [x]) (-1) = some x := by
  unfold atI ixN
  rw [if_neg (by decide), if_pos (by rw [List.length_append, List.length_singleton]; omega)]
  have e : ((-1 : Int) + ((xs ++ [x]).length : Nat)).toNat = xs.length := by
    rw [List.length_append, List.length_singleton]
    omega
  rw [e]
  show (xs ++ [x])[xs.length]? = _
  rw [List.getElem?_append_right (Nat.le_refl _), Nat.sub_self]
  rfl
theorem bad_all {x : List Nat × Nat} (hx : x ∈ badL) : ∀ ys : List V, decM (iVs x.1 ++ ys) = .error x.2 := by
  simp only [badL, List.mem_cons, List.not_mem_nil, or_false] at hx
  rcases hx with rfl | rfl | rfl | rfl | rfl | rfl | rfl | rfl | rfl | rfl | rfl | rfl | rfl | rfl | rfl | rfl | rfl | rfl | rfl | rfl | rfl | rfl | rfl | rfl | rfl | rfl | rfl | rfl <;> (intro ys; rfl)
theorem bad_len {x : List Nat × Nat} (hx : x ∈ badL) : x.1.length ≤ 100 := by
  have h : ∀ x ∈ badL, x.1.length ≤ 100 := by decide +kernel
  exact h x hx
def plG : Plan := ⟨[[97], [98]], [[97], [99]], [1, 0], [(1, true)], [((0, 1), ⟨1, wOn, 1⟩), ((1, 0), ⟨0, wStay, 0⟩)]⟩
def goodG : List Nat := [82, 2, 2, 1, 0, 1, 1, 2, 1, 0, 1, 2, 1, 1, 1, 1, 0, 2, 0, 1, 1, 0, 1, 1, 0, 0, 2, 0]
theorem codeG : codeB plG = goodG ++ [goodG.sum % 256] := by decide +kernel
theorem nameG {w : Cs} (h : w = [97] ∨ w = [98] ∨ w = [99]) : NameOk w := by
  rcases h with rfl | rfl | rfl <;> exact ⟨⟨by decide, by decide, by decide⟩, by decide⟩
theorem wfG : WfP plG where
  sN := ⟨by decide, fun w hw => by
    have hw : w ∈ [[97], [98]] := hw
    simp only [List.mem_cons, List.not_mem_nil, or_false] at hw
    exact nameG (hw.elim .inl fun z => .inr (.inl z))⟩
  mN := ⟨by decide, fun w hw => by
    have hw : w ∈ [[97], [99]] := hw
    simp only [List.mem_cons, List.not_mem_nil, or_false] at hw
    exact nameG (hw.elim .inl fun z => .inr (.inr z))⟩
  s1 := by decide
  s4 := by decide
  m1 := by decide
  m6 := by decide
  n1 := by decide
  n16 := by decide
  fl := by decide
  r1 := by decide
  r3 := by decide
  rt := by decide
  rn := by decide
  ru := fun kv hk => by
    have hk : kv ∈ [((0, 1), ⟨1, wOn, 1⟩), ((1, 0), (⟨0, wStay, 0⟩ : Rule))] := hk
    simp only [List.mem_cons, List.not_mem_nil, or_false] at hk
    rcases hk with rfl | rfl
    · exact ⟨by decide, by decide, by decide, by decide, by decide⟩
    · exact ⟨by decide, by decide, by decide, by decide, by decide⟩
theorem soG : SortedR plG.rules := by
  unfold SortedR
  decide
theorem sh_code (n : Nat) : ShD 2 (.tuple [.str "code", .int (n : Nat)]) := shd_tuple fun d hd => by
  simp only [List.mem_cons, List.not_mem_nil, or_false] at hd
  rcases hd with rfl | rfl
  · exact shd_str (by decide +kernel)
  · exact shd_int _
section
variable {P : Program} {w : World} {K : PySem.W.Frag} {mg : Str → Option Value} {base : Heap}
abbrev laN : List Str := ["_law_script", "_law_d", "_law_code", "_law_at", "_law_extra", "_law_k", "_law_odd", "_law_changed", "_law_wrong", "_law_none", "_law_bad", "_law_place", "_law_good", "_law_text_here"]
theorem sc_law : FnScope laN ["_law_script"] (defScope s_law) := ⟨rfl, rfl, rfl, by decide +kernel, rfl, by decide +kernel, by decide +kernel⟩
def spLaw (K : PySem.W.Frag) (PT : Addr) : Sp := fun vs H Q _ => ∃ (a : Addr) (ns : List Int), vs = [.ref a] ∧ H PT = some (.tbl #[]) ∧ SqL K H a (ns.map V.int) ∧ ns.length ≤ 63 ∧ ∀ H', Q (.bl true) H'
theorem ok_law (T : L15T K mg) {oc : Value} {od : Option Addr} {dV kV doc pm : Value} {an : Option Addr} {cA PT : Addr} {ct : Value} {osl : Array (Option Value)} (lk : K.lookup (He.fAd K ("law", none)) = some ⟨oc, od, .func (PySem.W.fnOf "law" "law" (defArgs s_law) (defBody s_law) (defScope s_law) dV kV doc pm an (.ref cA) ct), osl⟩) (hcd : PySem.W.codeIn K (.ref cA) "law" = true) (TB : LamX.TabB base mg cA PT) :
    FnOk P w K mg base CX0 16 (He.fAd K ("law", none)) (PySem.W.fnOf "law" "law" (defArgs s_law) (defBody s_law) (defScope s_law) dV kV doc pm an (.ref cA) ct) ["_law_script"] (spLaw K PT) := by
  obtain ⟨fdR, GR, bR, kR⟩ := ok_random (P := P) (w := w) (base := base) T.li.p.s.l
  obtain ⟨fdB, GB, bB, kB⟩ := ok_below (P := P) (w := w) (base := base) T.li.p.s.l
  obtain ⟨fdP, GP, bP, kP⟩ := ok_lplan (P := P) (w := w) (base := base) T.li.p
  obtain ⟨fdT, GT, bT, kT⟩ := ok_text (P := P) (w := w) (base := base) T.li
  obtain ⟨fdN, GN, bN, kN⟩ := ok_encode (P := P) (w := w) (base := base) T.x.r.e
  obtain ⟨fdD, GD, bD, kD⟩ := ok_decode (P := P) (w := w) (base := base) T.x.r
  obtain ⟨fdBB, GBB, bBB, kBB⟩ := ok_bb (P := P) (w := w) (base := base) T.bb
  obtain ⟨fdEO, _, _, kEO⟩ := ok_eofX (P := P) (w := w) (base := base) T.e 13
  have EOF : ∀ base2 : Heap, ∃ fd, FnOk P w K mg base2 CX0 14 (He.fAd K ("_law_error_of", none)) fd ["_law_call"] (spEofX P w K mg 13 base2) ∧ L2.Binds K fd ["_law_call"] [] := fun b2 => let ⟨fd, G, bi, _⟩ := ok_eofX (P := P) (w := w) (base := b2) T.e 13; ⟨fd, G, bi⟩
  refine fn_of lk hcd sc_law (fun vs H Q E h => ?_) (fun A outer s H vs Q E hr h => ?_)
  · obtain ⟨a, ns, rfl, _⟩ := h
    rfl
  · obtain ⟨a, ns, rfl, hPT, ha, hn, k⟩ := h
    have hr1 : Room 1 _ := hr.mono (by decide)
    have hr2 : Room 2 _ := hr.mono (by decide)
    have hr3 : Room 3 _ := hr.mono (by decide)
    have hr4 : Room 4 _ := hr.mono (by decide)
    have hr9 : Room 9 _ := hr.mono (by decide)
    have hr14 : Room 14 _ := hr.mono (by decide)
    obtain ⟨QT, hQT⟩ : ∃ QT : Str, QT = (cxOf CX0 P w K mg base laN "law" (defScope s_law) (He.fAd K ("law", none)) (.ref cA) A outer s H E).env.qual ++ "<lambda>" := ⟨_, rfl⟩
    refine ⟨_, PSs.nox (pss_cons (ps_set (i := 1) sc_law.nd rfl (.inr rfl) (pe_call GR hr1 rfl T.li.p.s.l.random.g kR bR .nil pass0 (pa_cons (pv 0) (pa_cons pe_int pa_nil))))
      (pss_cons (ps_set (i := 2) sc_law.nd rfl (.inr rfl) (pe_call GN hr9 rfl T.x.r.e.encode.g kN bN .nil pass0 (pa_cons (pe_call GT hr2 rfl T.li.text.g kT bT .nil pass0 (pa_cons (pe_call GP hr3 rfl T.li.p.plan.g kP bP .nil pass0 (pa_cons (pv 1) (pa_cons pe_int pa_nil))) pa_nil)) pa_nil)))
      (pss_cons (ps_set (i := 3) sc_law.nd rfl (.inr rfl) (pe_call GB hr1 rfl T.li.p.s.l.below.g kB bB .nil pass0 (pa_cons (pv 1) (pa_cons (pe_callB call_len_seq (by rfl) T.li.p.s.l.len boot_len (pa_cons (pv 2) pa_nil)) pa_nil))))
      (pss_cons (ps_if (pt_cmpR (op_neD hr.units) (pe_callL (fun _ => rfl) EOF hr14 rfl T.e.d.g kEO pass0 (pa_cons (pe_lamV0 (T := [(PT, QT)]) TB rfl (by rw [hQT]; exact List.mem_singleton.mpr rfl) (fun q hq _ => by rw [List.mem_singleton.mp hq]; exact hQT) rfl (lamFree (by rfl))) pa_nil)) (pe_tup (pa_cons pe_str (pa_cons (pv 3) pa_nil))) (nomark _))
        (pss_one (ps_ret pe_bl)) pss_nil)
      (pss_cons (ps_set (i := 4) sc_law.nd rfl (.inr rfl) (pe_op op_cat (pv 2) (pe_lc (own := [("_law_k", 5)]) (g := (gName 5)) (tt := tYes) (te := tCall spBelow [] E0 (tCons (tVar 1) (tCons (tC (.int 256)) tNil))) rfl sc_law.nd (pi_range1 (by rfl) T.li.p.s.l.range (pa_cons (pe_op op_add pe_int (pe_call GB hr1 rfl T.li.p.s.l.below.g kB bB .nil pass0 (pa_cons (pv 1) (pa_cons pe_int pa_nil)))) pa_nil)) (blkOk_by (own := [("_law_k", 5)]) (N := laN) (sc := defScope s_law) (by decide +kernel)) (fun _ _ _ _ _ => (pg_name (i := 5) sc_law.nd rfl (.inl rfl))) (fun _ _ _ _ _ => pts_nil) (fun _ _ _ _ _ => (pe_call GB hr1 rfl T.li.p.s.l.below.g kB bB .nil pass0 (pa_cons (pv 1) (pa_cons pe_int pa_nil)))))))
      (pss_cons (ps_if (pt_cmpR (op_neD hr.units) (pe_callL (fun _ => rfl) EOF hr14 rfl T.e.d.g kEO pass0 (pa_cons (pe_lamV0 (T := [(PT, QT)]) TB rfl (by rw [hQT]; exact List.mem_singleton.mpr rfl) (fun q hq _ => by rw [List.mem_singleton.mp hq]; exact hQT) rfl (lamFree (by rfl))) pa_nil)) (pe_tup (pa_cons pe_str (pa_cons (pe_callB call_len_seq (by rfl) T.li.p.s.l.len boot_len (pa_cons (pv 2) pa_nil)) pa_nil))) (nomark _))
        (pss_one (ps_ret pe_bl)) pss_nil)
      (pss_cons (ps_set (i := 6) sc_law.nd rfl (.inl rfl) (pe_ix ix_list (pe_lst (pa_cons pe_non (pa_cons pe_bl (pa_cons pe_str (pa_cons pe_int (pa_cons (pe_op op_sub pe_int pe_int) (pa_cons (pe_tup (pa_cons pe_int pa_nil)) pa_nil))))))) (pe_call GB hr1 rfl T.li.p.s.l.below.g kB bB .nil pass0 (pa_cons (pv 1) (pa_cons pe_int pa_nil))) (fun _ _ => rfl)))
      (pss_cons (ps_set (i := 7) sc_law.nd rfl (.inr rfl) (pe_op op_cat (pe_op op_cat (pe_slice sl_list (pv 2) po_none (po_some (pv 3))) (pe_lst (pa_cons (pv 6) pa_nil))) (pe_slice sl_list (pv 2) (po_some (pe_op op_add (pv 3) pe_int)) po_none)))
      (pss_cons (ps_if (pt_cmpR (op_neD hr.units) (pe_callL (fun _ => rfl) EOF hr14 rfl T.e.d.g kEO pass0 (pa_cons (pe_lamV0 (T := [(PT, QT)]) TB rfl (by rw [hQT]; exact List.mem_singleton.mpr rfl) (fun q hq _ => by rw [List.mem_singleton.mp hq]; exact hQT) rfl (lamFree (by rfl))) pa_nil)) (pe_tup (pa_cons pe_str (pa_cons (pv 3) pa_nil))) (nomark _))
        (pss_one (ps_ret pe_bl)) pss_nil)
      (pss_cons (ps_set (i := 8) sc_law.nd rfl (.inr rfl) (pe_op op_cat (pe_slice sl_list (pv 2) po_none (po_some (pe_un un_neg pe_int))) (pe_lst (pa_cons (pe_op op_mod (pe_op op_add (pe_op op_add (pe_ix ix_list (pv 2) (pe_un un_neg pe_int) (fun _ _ => rfl)) pe_int) (pe_call GB hr1 rfl T.li.p.s.l.below.g kB bB .nil pass0 (pa_cons (pv 1) (pa_cons pe_int pa_nil)))) pe_int) pa_nil))))
      (pss_cons (ps_if (pt_cmpR (op_neD hr.units) (pe_callL (fun _ => rfl) EOF hr14 rfl T.e.d.g kEO pass0 (pa_cons (pe_lamV0 (T := [(PT, QT)]) TB rfl (by rw [hQT]; exact List.mem_singleton.mpr rfl) (fun q hq _ => by rw [List.mem_singleton.mp hq]; exact hQT) rfl (lamFree (by rfl))) pa_nil)) (pe_tup (pa_cons pe_str (pa_cons (pe_op op_sub (pe_callB call_len_seq (by rfl) T.li.p.s.l.len boot_len (pa_cons (pv 2) pa_nil)) pe_int) pa_nil))) (nomark _))
        (pss_one (ps_ret pe_bl)) pss_nil)
      (pss_cons (ps_set (i := 9) sc_law.nd rfl (.inr rfl) (pe_ix ix_list (pe_lst (pa_cons pe_non (pa_cons pe_int (pa_cons (pe_tup (pa_cons pe_int (pa_cons pe_int pa_nil))) (pa_cons pe_str (pa_cons pe_bl pa_nil)))))) (pe_call GB hr1 rfl T.li.p.s.l.below.g kB bB .nil pass0 (pa_cons (pv 1) (pa_cons pe_int pa_nil))) (fun _ _ => rfl)))
      (pss_cons (ps_if (pt_cmpR (op_neD hr.units) (pe_callL (fun _ => rfl) EOF hr14 rfl T.e.d.g kEO pass0 (pa_cons (pe_lamV0 (T := [(PT, QT)]) TB rfl (by rw [hQT]; exact List.mem_singleton.mpr rfl) (fun q hq _ => by rw [List.mem_singleton.mp hq]; exact hQT) rfl (lamFree (by rfl))) pa_nil)) (pe_tup (pa_cons pe_str (pa_cons pe_int pa_nil))) (nomark _))
        (pss_one (ps_ret pe_bl)) pss_nil)
      (pss_cons (ps_asg (pe_call GBB hr2 rfl T.bb.bb.g kBB bBB .nil pass0 (pa_cons (pv 1) pa_nil))
        (pg_tup rfl (pgs_cons (pg_name (i := 10) sc_law.nd rfl (.inr rfl)) (pgs_cons (pg_name (i := 11) sc_law.nd rfl (.inl rfl)) pgs_nil))))
      (pss_cons (ps_if (pt_cmpR (op_neD hr.units) (pe_callL (fun _ => rfl) EOF hr14 rfl T.e.d.g kEO pass0 (pa_cons (pe_lamV0 (T := [(PT, QT)]) TB rfl (by rw [hQT]; exact List.mem_singleton.mpr rfl) (fun q hq _ => by rw [List.mem_singleton.mp hq]; exact hQT) rfl (lamFree (by rfl))) pa_nil)) (pe_tup (pa_cons pe_str (pa_cons (pv 11) pa_nil))) (nomark _))
        (pss_one (ps_ret pe_bl)) pss_nil)
      (pss_cons (ps_set (i := 12) sc_law.nd rfl (.inl rfl) (pe_lst (pa_cons pe_int (pa_cons pe_int (pa_cons pe_int (pa_cons pe_int (pa_cons pe_int (pa_cons pe_int (pa_cons pe_int (pa_cons pe_int (pa_cons pe_int (pa_cons pe_int (pa_cons pe_int (pa_cons pe_int (pa_cons pe_int (pa_cons pe_int (pa_cons pe_int (pa_cons pe_int (pa_cons pe_int (pa_cons pe_int (pa_cons pe_int (pa_cons pe_int (pa_cons pe_int (pa_cons pe_int (pa_cons pe_int (pa_cons pe_int (pa_cons pe_int (pa_cons pe_int (pa_cons pe_int (pa_cons pe_int pa_nil))))))))))))))))))))))))))))))
      (pss_cons (ps_set (i := 13) sc_law.nd rfl (.inl rfl) pe_str)
      (pss_one (ps_ret (pe_cmpR op_eq (pe_call GD hr4 rfl T.x.r.decode.g kD bD .nil pass0 (pa_cons (pe_op op_cat (pv 12) (pe_lst (pa_cons (pe_op op_mod (pe_callB (cr_sum rfl) (by rfl) T.x.r.e.sum (by decide +kernel) (pa_cons (pv 12) pa_nil)) pe_int) pa_nil))) pa_nil)) (pe_op op_add_str (pv 13) pe_str) (nomark _))))))))))))))))))))), ?_⟩
    refine ⟨_, rfl, a, _, ns, rfl, ha, hn, fun d H1 nd s1 hd => ?_⟩
    have tb1 : Tabs [(PT, QT)] H1 := fun q hq => by rw [List.mem_singleton.mp hq]; exact LamX.TabS.nil (s1 _ _ hPT)
    refine ⟨_, rfl, d, 4, rfl, hd, by decide, by decide, fun pa H2 pl dr wf _ _ so npa hP => ?_⟩
    have tb2 : Tabs [(PT, QT)] H2 := tabs_kp15 tb1 fun b o q n => dr.same _ _ (hd.not q n) q
    refine ⟨pa, pl, rfl, hP, wf, so, fun H3 s3 => ?_⟩
    refine ⟨pl, rfl, wf, so, fun cl H4 ncl s4 hcl => ?_⟩
    have hlc := codeB_len15 wf so
    have hdv := dec_valid wf so
    have hc1 : 1 ≤ (codeB pl).length := by unfold codeB; simp
    have S4 : S15 H4 d cl (codeB pl) [(PT, QT)] := ⟨((Drawn.of (Drawn.of dr.at_ s3).at_ s4)).at_, hcl, ((Drawn.of dr.at_ s3).at_.ne ncl).symm, Tabs.ext (Tabs.ext tb2 s3) s4⟩
    obtain ⟨bd, ck, hbk, hck⟩ : ∃ bd ck, codeB pl = bd ++ [ck] ∧ ck < 256 := ⟨bodyB pl, (bodyB pl).sum % 256, rfl, by omega⟩
    generalize hcd' : codeB pl = cd at *
    have hbk' : iVs cd = iVs bd ++ [.int (ck : Nat)] := by rw [hbk]; show List.map _ (bd ++ [ck]) = _; rw [List.map_append]; rfl
    have hbl : cd.length = bd.length + 1 := by rw [hbk, List.length_append]; rfl
    clear hcl ncl s4 s3 hP npa tb2 tb1 dr hd nd s1 ha hPT
    dsimp only [gName]
    refine at_slots [some (.ref a), some (.ref d), some (.ref cl), none, none, none, none, none, none, none, none, none, none, none] rfl ?_
    refine ⟨_, rfl, _, rfl, cl, _, rfl, .inl (SqL.of S4.co), d, cd.length, by rw [List.length_map]; rfl, S4.dw, hc1, by omega, fun pt s0 c0 bs0 hat hbs => ?_⟩
    have S5 := S4.drawn ((Drawn.refl S4.dw).draw (s := s0) (c := c0) hbs)
    generalize upd H4 d (drawL s0 c0 bs0) = H5 at *
    clear S4 hbs
    dsimp only [gName]
    refine at_slots [some (.ref a), some (.ref d), some (.ref cl), some (.int (pt : Nat)), none, none, none, none, none, none, none, none, none, none] rfl ?_
    -- cut
    refine ⟨S5.tb, fun f1 k1 Hl xN tb1 nf1 hf1 hcp => ?_⟩
    have Sl := S5.ext xN tb1
    clear S5
    intro base2 Lc
    obtain ⟨fdF, GF, bF, kF⟩ := ok_decX (P := P) (w := w) (base := base2) T.x
    refine ⟨f1, _, _, rfl, vok0 (P := P) (w := w) (K := K) (mg := mg) (base := base2) (CX := L2.CX P w) (k := 12) (N := ["_law_code", "_law_at"]) (fr := ["_law_code", "_law_at"]) (ws := [some (.ref cl), some (.int (pt : Nat))]) (sp := fun _ H Q E => ∃ xs, H cl = some (.lst xs) ∧ ∀ (l : Addr) (H' : Hp), H l = none → Same H H' → H' l = some (.lst (cutV xs none (some (pt : Nat)))) → spDecX K [.ref l] H' Q E) hf1 (NdefX.nscope_by (by rfl)) (Lc.ce _ _ [2, 3] fun ok => NdefX.Caps.made ok (lamFree (by rfl)) (by decide +kernel) rfl) (fun _ _ _ => rfl) (fun A outer s H Q E hr h1 => ⟨_, pe_call GF (hr.mono (by decide)) rfl T.x.r.decode.g kF bF .nil (passes_call (takes_of rfl rfl rfl rfl) (fun _ _ _ _ h => h)) (pa_cons (pe_slice sl_list (pv 0) po_none (po_some (pv 1))) pa_nil), by
      obtain ⟨xs, hx, kk⟩ := h1
      exact ⟨_, rfl, _, rfl, _, rfl, cl, xs, rfl, SqL.of hx, fun l nl => kk l _ nl (sameUpd (Same.refl _) nl) upd_same⟩⟩), ⟨hf1, hcp⟩, ⟨rfl, ?_⟩⟩
    refine ⟨iVs cd, Sl.co, fun l H7 nl s7 hl => ⟨_, rfl, .inr ⟨l, _, pt, rfl, hl, ?_, ?_, fun dd H8 s8 e8 => ?_⟩⟩⟩
    · rw [cut_takeB, ← List.map_take]
      exact kn_nats (by rw [List.length_take]; omega)
    · rw [cut_takeB, ← List.map_take]
      exact bad_cut hdv rfl hat
    have S8 := (Sl.same s7).same s8
    clear Sl s7 s8 hl nl hf1 hcp tb1 xN Lc
    refine ⟨"InvalidCode", 10, "code", rfl, T.eo, rfl, .inr (.inl ⟨.inl rfl, T.xo, T.x.ico.op.n _ (by simp), dd, _, pt, rfl, e8, rfl, fun t H9 s9 ht => ?_⟩)⟩
    have S9 := S8.same s9
    clear S8 s9 e8 GF bF kF
    refine ⟨_, rfl, (by show 2 ≤ sizeLine; decide), fun ex nex => ?_⟩
    have s10 := sameUpd (o := .tup [.str "code", .int (pt : Nat)]) (Same.refl H9) nex
    have hex10 := @upd_same H9 ex (.tup [.str "code", .int (pt : Nat)])
    refine ⟨_, _, .tup (SqT.of (s10 _ _ ht)) (.cons (.str _) (.cons (.int _) .nil)), .tup (SqT.of hex10) (.cons (.str _) (.cons (.int _) .nil)), (sh_code (pt)).shaped (by decide), (sh_code (pt)).shaped (by decide), _, rfl, ?_⟩
    rw [(sh_code (pt)).eqv]
    refine iteF ?_
    have S := S9.same s10
    clear S9 s10 hex10 ht
    generalize upd H9 ex (.tup [.str "code", .int (pt : Nat)]) = H10 at *
    -- more
    show tSeq _ _ _ [some (.ref a), some (.ref d), some (.ref cl), some (.int (pt : Nat)), none, none, none, none, none, none, none, none, none, none] H10
    refine ⟨_, rfl, _, rfl, d, 3, rfl, S.dw, by decide, by decide, fun r0 s0 c0 bs0 hr0 hbs => ?_⟩
    have S1 := S.drawn ((Drawn.refl S.dw).draw (s := s0) (c := c0) hbs)
    generalize upd H10 d (drawL s0 c0 bs0) = H11 at *
    clear S hbs
    refine ⟨_, _, rfl, rfl, _, rfl, by omega, by omega, fun D nD => ?_⟩
    have nD' := S1.nw nD
    refine lc_range (lo := 0) (n := (1 + ((r0 : Nat) : Int)).toNat) (vs := [5]) (fun i Hy => S15 Hy d cl cd [(PT, QT)] ∧ ∃ xs : List Nat, xs.length = i ∧ Hy D = some (.lst (iVs xs))) ⟨S1.same (sameUpd (Same.refl _) nD), [], rfl, upd_same⟩ ?_ ?_
    · rintro i Hy hi ⟨S, xs, hxl, hx⟩
      have hi2 : i < 3 := by omega
      refine ⟨rfl, _, rfl, d, 256, rfl, S.dw, by decide, by decide, fun r s c bs hr hbs => ?_⟩
      have dr := (Drawn.refl S.dw).draw (s := s) (c := c) hbs
      have hx2 := dr.same _ _ nD'.1 hx
      refine ⟨_, hx2, by rw [List.length_map, hxl, sizeLine_eq]; omega, (S.drawn dr).put hx2 nD'.1 nD'.2, xs ++ [r], by rw [List.length_append, hxl]; rfl, ?_⟩
      rw [upd_same]
      show _ = some (HO.lst (List.map _ (xs ++ [r])))
      rw [List.map_append]
      rfl
    clear S1
    rintro H12 ⟨S, xs, hxl, hx⟩
    have hxl1 : 1 ≤ xs.length ∧ xs.length ≤ 3 := by omega
    refine ⟨cl, D, _, _, rfl, rfl, S.co, hx, by rw [List.length_map, List.length_map, sizeLine_eq]; omega, fun ex0 nex0 => ?_⟩
    have s0 := sameUpd (o := .lst (iVs cd ++ iVs xs)) (Same.refl H12) nex0
    have hex0 := @upd_same H12 ex0 (.lst (iVs cd ++ iVs xs))
    replace S := S.same s0
    generalize upd H12 ex0 (.lst (iVs cd ++ iVs xs)) = H13 at *
    clear s0 hx nex0 nD nD'
    dsimp only [gName]
    refine at_slots [some (.ref a), some (.ref d), some (.ref cl), some (.int (pt : Nat)), some (.ref ex0), none, none, none, none, none, none, none, none, none] rfl ?_
    refine ⟨S.tb, fun f1 k1 Hl xN tb1 nf1 hf1 hcp => ?_⟩
    have Sl := S.ext xN tb1
    have hexl := xN _ _ hex0 (fun _ z => by cases z)
    clear S
    intro base2 Lc
    obtain ⟨fdF, GF, bF, kF⟩ := ok_decX (P := P) (w := w) (base := base2) T.x
    refine ⟨f1, _, _, rfl, vok0 (P := P) (w := w) (K := K) (mg := mg) (base := base2) (CX := L2.CX P w) (k := 12) (N := ["_law_extra"]) (fr := ["_law_extra"]) (ws := [some (.ref ex0)]) (sp := fun _ H Q E => spDecX K [.ref ex0] H Q E) hf1 (NdefX.nscope_by (by rfl)) (Lc.ce _ _ [4] fun ok => NdefX.Caps.made ok (lamFree (by rfl)) (by decide +kernel) rfl) (fun _ _ _ => rfl) (fun A outer s H Q E hr h1 => ⟨_, pe_call GF (hr.mono (by decide)) rfl T.x.r.decode.g kF bF .nil (passes_call (takes_of rfl rfl rfl rfl) (fun _ _ _ _ h => h)) (pa_cons (pv 0) pa_nil), by
      exact ⟨_, rfl, h1⟩⟩), ⟨hf1, hcp⟩, ⟨rfl, ?_⟩⟩
    refine ⟨_, rfl, .inr ⟨ex0, _, cd.length, rfl, hexl, kn_app ar_nats ar_nats (by rw [List.length_append, List.length_map, List.length_map]; omega), dec_more more_at hdv (by rw [List.length_append, List.length_map, List.length_map]; omega), fun dd H8 s8 e8 => ?_⟩⟩
    have S8 := Sl.same s8
    clear Sl s8 hf1 hcp tb1 xN Lc hex0 hexl
    refine ⟨"InvalidCode", 10, "code", rfl, T.eo, rfl, .inr (.inl ⟨.inl rfl, T.xo, T.x.ico.op.n _ (by simp), dd, _, cd.length, rfl, e8, rfl, fun t H9 s9 ht => ?_⟩)⟩
    have S9 := S8.same s9
    clear S8 s9 e8 GF bF kF
    refine ⟨_, rfl, cl, _, rfl, .inl (SqL.of S9.co), (by show 2 ≤ sizeLine; decide), fun ex nex => ?_⟩
    rw [List.length_map]
    have s10 := sameUpd (o := .tup [.str "code", .int (cd.length : Nat)]) (Same.refl H9) nex
    have hex10 := @upd_same H9 ex (.tup [.str "code", .int (cd.length : Nat)])
    refine ⟨_, _, .tup (SqT.of (s10 _ _ ht)) (.cons (.str _) (.cons (.int _) .nil)), .tup (SqT.of hex10) (.cons (.str _) (.cons (.int _) .nil)), (sh_code (cd.length)).shaped (by decide), (sh_code (cd.length)).shaped (by decide), _, rfl, ?_⟩
    rw [(sh_code (cd.length)).eqv]
    refine iteF ?_
    have S := S9.same s10
    clear S9 s10 hex10 ht
    generalize upd H9 ex (.tup [.str "code", .int (cd.length : Nat)]) = H20 at *
    -- odd
    show tSeq _ _ _ [some (.ref a), some (.ref d), some (.ref cl), some (.int (pt : Nat)), some (.ref ex0), none, none, none, none, none, none, none, none, none] H20
    refine ⟨_, _, rfl, rfl, (by show 1 ≤ sizeLine; decide), fun tp ntp => ?_⟩
    have s1 := sameUpd (o := .tup [.int 1]) (Same.refl H20) ntp
    have htp := @upd_same H20 tp (.tup [.int 1])
    replace S := S.same s1
    generalize upd H20 tp (.tup [.int 1]) = H21 at *
    refine ⟨(by show 6 ≤ sizeLine; decide), fun ol nol => ?_⟩
    have nol' := S.nw nol
    have s2 := sameUpd (o := .lst [.non, .bl true, .str "a", .int 256, .int (0 - 1), .ref tp]) (Same.refl H21) nol
    have hol := @upd_same H21 ol (.lst [.non, .bl true, .str "a", .int 256, .int (0 - 1), .ref tp])
    replace S := S.same s2
    replace htp := s2 _ _ htp
    generalize upd H21 ol (.lst [.non, .bl true, .str "a", .int 256, .int (0 - 1), .ref tp]) = H22 at *
    refine ⟨_, rfl, d, 6, rfl, S.dw, by decide, by decide, fun b s0 c0 bs0 hb hbs => ?_⟩
    have dr := (Drawn.refl S.dw).draw (s := s0) (c := c0) hbs
    have htp2 := dr.same _ _ (S.dw.not htp (by simp)) htp
    have hol2 := dr.same _ _ nol'.1 hol
    replace S := S.drawn dr
    generalize upd H22 d (drawL s0 c0 bs0) = H23 at *
    clear dr htp hol hbs s1 s2 nol nol' ntp
    obtain ⟨v, hv, hodd⟩ : ∃ v, ([.non, .bl true, .str "a", .int 256, .int (0 - 1), .ref tp] : List V)[b]? = some v ∧ ∀ Hx : Hp, Hx tp = some (.tup [.int 1]) → OddV K Hx v := by
      match b, hb with
      | 0, _ => exact ⟨_, rfl, fun _ _ => ⟨⟨_, .non⟩, fun _ _ _ _ => rfl⟩⟩
      | 1, _ => exact ⟨_, rfl, fun _ _ => ⟨⟨_, .bl _⟩, fun _ _ _ _ => rfl⟩⟩
      | 2, _ => exact ⟨_, rfl, fun _ _ => ⟨⟨_, .str _⟩, fun _ _ _ _ => rfl⟩⟩
      | 3, _ => exact ⟨_, rfl, fun _ _ => ⟨⟨_, .int _⟩, fun lo hi h0 h1 => by
          show (decide (lo ≤ 256) && decide ((256 : Int) ≤ hi)) = false
          rw [decide_eq_false (show ¬ (256 : Int) ≤ hi by omega), Bool.and_false]⟩⟩
      | 4, _ => exact ⟨_, rfl, fun _ _ => ⟨⟨_, .int _⟩, fun lo hi h0 h1 => by
          show (decide (lo ≤ 0 - 1) && decide ((0 - 1 : Int) ≤ hi)) = false
          rw [decide_eq_false (show ¬ lo ≤ (0 - 1 : Int) by omega), Bool.false_and]⟩⟩
      | 5, _ => exact ⟨_, rfl, fun _ h => ⟨⟨_, .tup h⟩, fun _ _ _ _ => rfl⟩⟩
    refine ⟨ol, _, b, _, rfl, rfl, SqL.of hol2, atI_nat hv, ?_⟩
    clear hol2
    dsimp only [gName]
    refine at_slots [some (.ref a), some (.ref d), some (.ref cl), some (.int (pt : Nat)), some (.ref ex0), none, some v, none, none, none, none, none, none, none] rfl ?_
    refine ⟨_, rfl, _, rfl, _, rfl, cl, _, rfl, SqL.of S.co, fun q1 nq1 => ?_⟩
    rw [cut_takeB, ← List.map_take]
    have s1 := sameUpd (o := .lst (iVs (cd.take pt))) (Same.refl H23) nq1
    have hq1 := @upd_same H23 q1 (.lst (iVs (cd.take pt)))
    replace S := S.same s1
    replace htp2 := s1 _ _ htp2
    generalize upd H23 q1 (.lst (iVs (cd.take pt))) = H24 at *
    refine ⟨_, rfl, (by show 1 ≤ sizeLine; decide), fun q2 nq2 => ?_⟩
    have s2 := sameUpd (o := .lst [v]) (Same.refl H24) nq2
    have hq2 := @upd_same H24 q2 (.lst [v])
    replace S := S.same s2
    replace htp2 := s2 _ _ htp2
    replace hq1 := s2 _ _ hq1
    generalize upd H24 q2 (.lst [v]) = H25 at *
    refine ⟨q1, q2, _, _, rfl, rfl, hq1, hq2, by rw [List.length_map, List.length_take, sizeLine_eq]; simp; omega, fun q3 nq3 => ?_⟩
    have s3 := sameUpd (o := .lst (iVs (cd.take pt) ++ [v])) (Same.refl H25) nq3
    have hq3 := @upd_same H25 q3 (.lst (iVs (cd.take pt) ++ [v]))
    replace S := S.same s3
    replace htp2 := s3 _ _ htp2
    generalize upd H25 q3 (.lst (iVs (cd.take pt) ++ [v])) = H26 at *
    refine ⟨_, rfl, _, rfl, _, _, rfl, rfl, _, rfl, cl, _, rfl, SqL.of S.co, fun q4 nq4 => ?_⟩
    rw [show ((pt : Nat) : Int) + 1 = ((pt + 1 : Nat) : Int) by omega, cut_dropB, ← List.map_drop]
    have s4 := sameUpd (o := .lst (iVs (cd.drop (pt + 1)))) (Same.refl H26) nq4
    have hq4 := @upd_same H26 q4 (.lst (iVs (cd.drop (pt + 1))))
    replace S := S.same s4
    replace htp2 := s4 _ _ htp2
    replace hq3 := s4 _ _ hq3
    generalize upd H26 q4 (.lst (iVs (cd.drop (pt + 1)))) = H27 at *
    refine ⟨q3, q4, _, _, rfl, rfl, hq3, hq4, by rw [List.length_append, List.length_map, List.length_map, List.length_take, List.length_drop, sizeLine_eq]; simp; omega, fun ch nch => ?_⟩
    have s5 := sameUpd (o := .lst (iVs (cd.take pt) ++ [v] ++ iVs (cd.drop (pt + 1)))) (Same.refl H27) nch
    have hch := @upd_same H27 ch (.lst (iVs (cd.take pt) ++ [v] ++ iVs (cd.drop (pt + 1))))
    replace S := S.same s5
    replace htp2 := s5 _ _ htp2
    generalize upd H27 ch (.lst (iVs (cd.take pt) ++ [v] ++ iVs (cd.drop (pt + 1)))) = H28 at *
    clear s1 s2 s3 s4 s5 hq1 hq2 hq3 hq4 nq1 nq2 nq3 nq4 nch
    dsimp only [gName]
    refine at_slots [some (.ref a), some (.ref d), some (.ref cl), some (.int (pt : Nat)), some (.ref ex0), none, some v, some (.ref ch), none, none, none, none, none, none] rfl ?_
    refine ⟨S.tb, fun f1 k1 Hl xN tb1 nf1 hf1 hcp => ?_⟩
    have Sl := S.ext xN tb1
    have hchl := xN _ _ hch (fun _ z => by cases z)
    have htpl := xN _ _ htp2 (fun _ z => by cases z)
    clear S
    intro base2 Lc
    obtain ⟨fdF, GF, bF, kF⟩ := ok_decX (P := P) (w := w) (base := base2) T.x
    refine ⟨f1, _, _, rfl, vok0 (P := P) (w := w) (K := K) (mg := mg) (base := base2) (CX := L2.CX P w) (k := 12) (N := ["_law_changed"]) (fr := ["_law_changed"]) (ws := [some (.ref ch)]) (sp := fun _ H Q E => spDecX K [.ref ch] H Q E) hf1 (NdefX.nscope_by (by rfl)) (Lc.ce _ _ [7] fun ok => NdefX.Caps.made ok (lamFree (by rfl)) (by decide +kernel) rfl) (fun _ _ _ => rfl) (fun A outer s H Q E hr h1 => ⟨_, pe_call GF (hr.mono (by decide)) rfl T.x.r.decode.g kF bF .nil (passes_call (takes_of rfl rfl rfl rfl) (fun _ _ _ _ h => h)) (pa_cons (pv 0) pa_nil), by
      exact ⟨_, rfl, h1⟩⟩), ⟨hf1, hcp⟩, ⟨rfl, ?_⟩⟩
    refine ⟨_, rfl, .inr ⟨ch, _, pt, rfl, hchl, kn_app (fun x hx => ?_) ar_nats ?_, dec_bad (ch_at hat).2 hdv hat (bad_at (ch_at hat).1 (hodd _ htpl).2), fun dd H8 s8 e8 => ?_⟩⟩
    · rcases List.mem_append.mp hx with z | z
      · exact ar_nats x z
      · rw [List.mem_singleton.mp z]
        exact (hodd _ htpl).1
    · rw [List.length_append, List.length_append, List.length_map, List.length_map, List.length_take, List.length_drop]
      simp
      omega
    clear hch htp2 hchl htpl
    have S8 := Sl.same s8
    clear Sl s8 hf1 hcp tb1 xN Lc
    refine ⟨"InvalidCode", 10, "code", rfl, T.eo, rfl, .inr (.inl ⟨.inl rfl, T.xo, T.x.ico.op.n _ (by simp), dd, _, (pt : Nat), rfl, e8, rfl, fun t H9 s9 ht => ?_⟩)⟩
    have S9 := S8.same s9
    clear S8 e8 GF bF kF
    refine ⟨_, rfl, (by show 2 ≤ sizeLine; decide), fun ex nex => ?_⟩
    have s10 := sameUpd (o := .tup [.str "code", .int ((pt : Nat) : Int)]) (Same.refl H9) nex
    have hex10 := @upd_same H9 ex (.tup [.str "code", .int ((pt : Nat) : Int)])
    refine ⟨_, _, .tup (SqT.of (s10 _ _ ht)) (.cons (.str _) (.cons (.int _) .nil)), .tup (SqT.of hex10) (.cons (.str _) (.cons (.int _) .nil)), (sh_code (pt)).shaped (by decide), (sh_code (pt)).shaped (by decide), _, rfl, ?_⟩
    rw [(sh_code (pt)).eqv]
    refine iteF ?_
    have S := S9.same s10
    clear S9 s9 s10 hex10 ht
    generalize upd H9 ex (.tup [.str "code", .int ((pt : Nat) : Int)]) = H30 at *
    -- another sum
    show tSeq _ _ _ [some (.ref a), some (.ref d), some (.ref cl), some (.int (pt : Nat)), some (.ref ex0), none, some v, some (.ref ch), none, none, none, none, none, none] H30
    refine ⟨_, rfl, _, rfl, _, rfl, cl, _, rfl, SqL.of S.co, fun q1 nq1 => ?_⟩
    rw [hbk', cut_last15]
    have nq1' := S.nw nq1
    have s1 := sameUpd (o := .lst (iVs bd)) (Same.refl H30) nq1
    have hq1 := @upd_same H30 q1 (.lst (iVs bd))
    replace S := S.same s1
    generalize upd H30 q1 (.lst (iVs bd)) = H31 at *
    have hco := S.co
    rw [hbk'] at hco
    refine ⟨_, rfl, _, rfl, cl, _, -1, _, rfl, rfl, SqL.of hco, at_last15, _, _, rfl, rfl, _, rfl, d, 255, rfl, S.dw, by decide, by decide, fun r s0 c0 bs0 hr hbs => ?_⟩
    have dr := (Drawn.refl S.dw).draw (s := s0) (c := c0) hbs
    replace hq1 := dr.same _ _ nq1'.1 hq1
    replace S := S.drawn dr
    generalize upd H31 d (drawL s0 c0 bs0) = H32 at *
    clear dr hbs s1 nq1 nq1' hco
    refine ⟨_, _, rfl, rfl, _, _, rfl, rfl, (show (0 : Int) < 256 by decide), (by show 1 ≤ sizeLine; decide), fun q2 nq2 => ?_⟩
    obtain ⟨nw, hnw, hne⟩ : ∃ nw : Int, ((ck : Nat) : Int) + 1 + ((r : Nat) : Int) = nw ∧ ((ck : Nat) : Int) ≠ nw % 256 := ⟨_, rfl, by omega⟩
    rw [hnw]
    have s2 := sameUpd (o := .lst [.int (nw % 256)]) (Same.refl H32) nq2
    have hq2 := @upd_same H32 q2 (.lst [.int (nw % 256)])
    replace S := S.same s2
    replace hq1 := s2 _ _ hq1
    generalize upd H32 q2 (.lst [.int (nw % 256)]) = H33 at *
    refine ⟨q1, q2, _, _, rfl, rfl, hq1, hq2, by rw [List.length_map, sizeLine_eq]; simp; omega, fun wr nwr => ?_⟩
    have s3 := sameUpd (o := .lst (iVs bd ++ [.int (nw % 256)])) (Same.refl H33) nwr
    have hwr := @upd_same H33 wr (.lst (iVs bd ++ [.int (nw % 256)]))
    replace S := S.same s3
    generalize upd H33 wr (.lst (iVs bd ++ [.int (nw % 256)])) = H34 at *
    clear s2 s3 hq1 hq2 nq2 nwr
    dsimp only [gName]
    refine at_slots [some (.ref a), some (.ref d), some (.ref cl), some (.int (pt : Nat)), some (.ref ex0), none, some v, some (.ref ch), some (.ref wr), none, none, none, none, none] rfl ?_
    refine ⟨S.tb, fun f1 k1 Hl xN tb1 nf1 hf1 hcp => ?_⟩
    have Sl := S.ext xN tb1
    have hwrl := xN _ _ hwr (fun _ z => by cases z)
    clear S
    intro base2 Lc
    obtain ⟨fdF, GF, bF, kF⟩ := ok_decX (P := P) (w := w) (base := base2) T.x
    refine ⟨f1, _, _, rfl, vok0 (P := P) (w := w) (K := K) (mg := mg) (base := base2) (CX := L2.CX P w) (k := 12) (N := ["_law_wrong"]) (fr := ["_law_wrong"]) (ws := [some (.ref wr)]) (sp := fun _ H Q E => spDecX K [.ref wr] H Q E) hf1 (NdefX.nscope_by (by rfl)) (Lc.ce _ _ [8] fun ok => NdefX.Caps.made ok (lamFree (by rfl)) (by decide +kernel) rfl) (fun _ _ _ => rfl) (fun A outer s H Q E hr h1 => ⟨_, pe_call GF (hr.mono (by decide)) rfl T.x.r.decode.g kF bF .nil (passes_call (takes_of rfl rfl rfl rfl) (fun _ _ _ _ h => h)) (pa_cons (pv 0) pa_nil), by
      exact ⟨_, rfl, h1⟩⟩), ⟨hf1, hcp⟩, ⟨rfl, ?_⟩⟩
    have hwq : ∀ i < bd.length, (iVs bd ++ [.int (nw % 256)])[i]? = (iVs cd)[i]? := fun i hi => by
      rw [hbk', List.getElem?_append_left (by rw [List.length_map]; exact hi), List.getElem?_append_left (by rw [List.length_map]; exact hi)]
    have hl1 : (iVs cd)[bd.length]? = some (.int (ck : Nat)) := by
      rw [hbk', List.getElem?_append_right (by rw [List.length_map]; exact Nat.le_refl _), List.length_map, Nat.sub_self]
      rfl
    have hl2 : (iVs bd ++ [.int (nw % 256)])[bd.length]? = some (.int (nw % 256)) := by
      rw [List.getElem?_append_right (by rw [List.length_map]; exact Nat.le_refl _), List.length_map, Nat.sub_self]
      rfl
    have hdv2 := hdv
    rw [hbl] at hdv2
    refine ⟨_, rfl, .inr ⟨wr, _, bd.length, rfl, hwrl, kn_app ar_nats (fun x hx => ?_) ?_, dec_sum hwq hdv2 hl1 hl2 hne, fun dd H8 s8 e8 => ?_⟩⟩
    · rw [List.mem_singleton.mp hx]
      exact ⟨_, .int _⟩
    · rw [List.length_append, List.length_map]
      simp
      omega
    clear hwr hwrl hwq hl1 hl2 hdv2
    have S8 := Sl.same s8
    clear Sl s8 hf1 hcp tb1 xN Lc
    refine ⟨"InvalidCode", 10, "code", rfl, T.eo, rfl, .inr (.inl ⟨.inl rfl, T.xo, T.x.ico.op.n _ (by simp), dd, _, (bd.length : Nat), rfl, e8, rfl, fun t H9 s9 ht => ?_⟩)⟩
    have S9 := S8.same s9
    clear S8 e8 GF bF kF
    refine ⟨_, rfl, cl, _, rfl, .inl (SqL.of S9.co), _, _, rfl, rfl, (by show 2 ≤ sizeLine; decide), fun ex nex => ?_⟩
    dsimp only
    rw [show (((iVs cd).length : Nat) : Int) - 1 = ((bd.length : Nat) : Int) by rw [List.length_map, hbl]; omega]
    have s10 := sameUpd (o := .tup [.str "code", .int ((bd.length : Nat) : Int)]) (Same.refl H9) nex
    have hex10 := @upd_same H9 ex (.tup [.str "code", .int ((bd.length : Nat) : Int)])
    refine ⟨_, _, .tup (SqT.of (s10 _ _ ht)) (.cons (.str _) (.cons (.int _) .nil)), .tup (SqT.of hex10) (.cons (.str _) (.cons (.int _) .nil)), (sh_code (bd.length)).shaped (by decide), (sh_code (bd.length)).shaped (by decide), _, rfl, ?_⟩
    rw [(sh_code (bd.length)).eqv]
    refine iteF ?_
    have S := S9.same s10
    clear S9 s9 s10 hex10 ht
    generalize upd H9 ex (.tup [.str "code", .int ((bd.length : Nat) : Int)]) = H40 at *
    -- no list
    show tSeq _ _ _ [some (.ref a), some (.ref d), some (.ref cl), some (.int (pt : Nat)), some (.ref ex0), none, some v, some (.ref ch), some (.ref wr), none, none, none, none, none] H40
    refine ⟨(by show 2 ≤ sizeLine; decide), fun tp2 ntp2 => ?_⟩
    have s1 := sameUpd (o := .tup [.int 82, .int 1]) (Same.refl H40) ntp2
    have htp := @upd_same H40 tp2 (.tup [.int 82, .int 1])
    replace S := S.same s1
    generalize upd H40 tp2 (.tup [.int 82, .int 1]) = H41 at *
    refine ⟨(by show 5 ≤ sizeLine; decide), fun ol nol => ?_⟩
    have nol' := S.nw nol
    have s2 := sameUpd (o := .lst [.non, .int 5, .ref tp2, .str "a", .bl true]) (Same.refl H41) nol
    have hol := @upd_same H41 ol (.lst [.non, .int 5, .ref tp2, .str "a", .bl true])
    replace S := S.same s2
    replace htp := s2 _ _ htp
    generalize upd H41 ol (.lst [.non, .int 5, .ref tp2, .str "a", .bl true]) = H42 at *
    refine ⟨_, rfl, d, 5, rfl, S.dw, by decide, by decide, fun b s0 c0 bs0 hb hbs => ?_⟩
    have dr := (Drawn.refl S.dw).draw (s := s0) (c := c0) hbs
    have htp2 := dr.same _ _ (S.dw.not htp (by simp)) htp
    have hol2 := dr.same _ _ nol'.1 hol
    replace S := S.drawn dr
    generalize upd H42 d (drawL s0 c0 bs0) = H43 at *
    clear dr htp hol hbs s1 s2 nol nol' ntp2
    obtain ⟨u, hu, huk⟩ : ∃ u, ([.non, .int 5, .ref tp2, .str "a", .bl true] : List V)[b]? = some u ∧ ∀ Hx : Hp, Hx tp2 = some (.tup [.int 82, .int 1]) → ∃ n, ArN K Hx u n ∧ n ≠ "list" := by
      match b, hb with
      | 0, _ => exact ⟨_, rfl, fun _ _ => ⟨_, .non, by decide⟩⟩
      | 1, _ => exact ⟨_, rfl, fun _ _ => ⟨_, .int _, by decide⟩⟩
      | 2, _ => exact ⟨_, rfl, fun _ h => ⟨_, .tup h, by decide⟩⟩
      | 3, _ => exact ⟨_, rfl, fun _ _ => ⟨_, .str _, by decide⟩⟩
      | 4, _ => exact ⟨_, rfl, fun _ _ => ⟨_, .bl _, by decide⟩⟩
    refine ⟨ol, _, b, _, rfl, rfl, SqL.of hol2, atI_nat hu, ?_⟩
    clear hol2
    dsimp only [gName]
    refine at_slots [some (.ref a), some (.ref d), some (.ref cl), some (.int (pt : Nat)), some (.ref ex0), none, some v, some (.ref ch), some (.ref wr), some u, none, none, none, none] rfl ?_
    refine ⟨S.tb, fun f1 k1 Hl xN tb1 nf1 hf1 hcp => ?_⟩
    have Sl := S.ext xN tb1
    have htpl := xN _ _ htp2 (fun _ z => by cases z)
    clear S
    intro base2 Lc
    obtain ⟨fdF, GF, bF, kF⟩ := ok_decX (P := P) (w := w) (base := base2) T.x
    refine ⟨f1, _, _, rfl, vok0 (P := P) (w := w) (K := K) (mg := mg) (base := base2) (CX := L2.CX P w) (k := 12) (N := ["_law_none"]) (fr := ["_law_none"]) (ws := [some (u)]) (sp := fun _ H Q E => spDecX K [u] H Q E) hf1 (NdefX.nscope_by (by rfl)) (Lc.ce _ _ [9] fun ok => NdefX.Caps.made ok (lamFree (by rfl)) (by decide +kernel) rfl) (fun _ _ _ => rfl) (fun A outer s H Q E hr h1 => ⟨_, pe_call GF (hr.mono (by decide)) rfl T.x.r.decode.g kF bF .nil (passes_call (takes_of rfl rfl rfl rfl) (fun _ _ _ _ h => h)) (pa_cons (pv 0) pa_nil), by
      exact ⟨_, rfl, h1⟩⟩), ⟨hf1, hcp⟩, ⟨rfl, ?_⟩⟩
    obtain ⟨nu, hnu1, hnu2⟩ := huk _ htpl
    refine ⟨_, rfl, .inl ⟨nu, hnu1, hnu2, fun dd H8 s8 e8 => ?_⟩⟩
    clear htp2 htpl
    have S8 := Sl.same s8
    clear Sl s8 hf1 hcp tb1 xN Lc
    refine ⟨"InvalidCode", 10, "code", rfl, T.eo, rfl, .inr (.inl ⟨.inl rfl, T.xo, T.x.ico.op.n _ (by simp), dd, _, (0 : Nat), rfl, e8, rfl, fun t H9 s9 ht => ?_⟩)⟩
    have S9 := S8.same s9
    clear S8 e8 GF bF kF
    refine ⟨(by show 2 ≤ sizeLine; decide), fun ex nex => ?_⟩
    have s10 := sameUpd (o := .tup [.str "code", .int ((0 : Nat) : Int)]) (Same.refl H9) nex
    have hex10 := @upd_same H9 ex (.tup [.str "code", .int ((0 : Nat) : Int)])
    refine ⟨_, _, .tup (SqT.of (s10 _ _ ht)) (.cons (.str _) (.cons (.int _) .nil)), .tup (SqT.of hex10) (.cons (.str _) (.cons (.int _) .nil)), (sh_code (0)).shaped (by decide), (sh_code (0)).shaped (by decide), _, rfl, ?_⟩
    rw [(sh_code (0)).eqv]
    refine iteF ?_
    have S := S9.same s10
    clear S9 s9 s10 hex10 ht
    generalize upd H9 ex (.tup [.str "code", .int ((0 : Nat) : Int)]) = H50 at *
    -- bad bytes
    show tSeq _ _ _ [some (.ref a), some (.ref d), some (.ref cl), some (.int (pt : Nat)), some (.ref ex0), none, some v, some (.ref ch), some (.ref wr), some u, none, none, none, none] H50
    refine ⟨_, rfl, d, rfl, S.dw, fun bt bl x H51 drb hx nbl hbt hbl2 => ?_⟩
    have nbl' := S.nw nbl
    replace S := S.drawn drb
    clear drb nbl
    refine ⟨bt, _, rfl, SqT.of hbt, rfl, _, _, rfl, _, _, rfl, rfl, ?_⟩
    clear hbt
    dsimp only [gName]
    refine at_slots [some (.ref a), some (.ref d), some (.ref cl), some (.int (pt : Nat)), some (.ref ex0), none, some v, some (.ref ch), some (.ref wr), some u, some (.ref bl), some (.int (x.2 : Nat)), none, none] rfl ?_
    refine ⟨S.tb, fun f1 k1 Hl xN tb1 nf1 hf1 hcp => ?_⟩
    have Sl := S.ext xN tb1
    have hbll := xN _ _ hbl2 (fun _ z => by cases z)
    clear S hbl2
    intro base2 Lc
    obtain ⟨fdF, GF, bF, kF⟩ := ok_decX (P := P) (w := w) (base := base2) T.x
    obtain ⟨fdB2, GB2, bB2, kB2⟩ := ok_below (P := P) (w := w) (base := base2) T.li.p.s.l
    have nd3 : (["_law_bad", "_law_d", "_law_k"] : List Str).Nodup := by decide +kernel
    refine ⟨f1, _, _, rfl, vok0 (P := P) (w := w) (K := K) (mg := mg) (base := base2) (CX := L2.CX P w) (k := 12) (N := ["_law_bad", "_law_d", "_law_k"]) (fr := ["_law_bad", "_law_d"]) (ws := [some (.ref bl), some (.ref d)]) (sp := fun _ H Q E => ∃ bs : List V, DrawAt H d ∧ H bl = some (.lst bs) ∧ bl ≠ d ∧ bs.length ≤ 100 ∧ ∀ (l : Addr) (H' : Hp) (ys : List Nat), ys.length = 9 → Drawn d H H' → H' l = some (.lst (bs ++ iVs ys)) → spDecX K [.ref l] H' Q E) hf1 (NdefX.nscope_by (by rfl)) (Lc.ce _ _ [10, 1] fun ok => NdefX.Caps.made ok (lamFree (by rfl)) (by decide +kernel) rfl) (fun _ _ _ => rfl) (fun A outer s H Q E hr h1 => ⟨_, pe_call GF (hr.mono (by decide)) rfl T.x.r.decode.g kF bF .nil (passes_call (takes_of rfl rfl rfl rfl) (fun _ _ _ _ h => h)) (pa_cons (pe_op op_cat (pv 0) (pe_lc (own := [("_law_k", 2)]) (g := gName 2) (tt := tYes) (te := tCall spBelow [] E0 (tCons (tVar 1) (tCons (tC (.int 256)) tNil))) rfl nd3 (pi_range1 (by rfl) T.li.p.s.l.range (pa_cons pe_int pa_nil)) (blkOk_by (own := [("_law_k", 2)]) (N := ["_law_bad", "_law_d", "_law_k"]) (by rfl)) (fun _ _ _ _ _ => pg_name (i := 2) nd3 rfl (.inl rfl)) (fun _ _ _ _ _ => pts_nil) (fun _ _ _ _ _ => pe_call GB2 (hr.mono (by decide)) rfl T.li.p.s.l.below.g kB2 bB2 .nil pass0 (pa_cons (pv 1) (pa_cons pe_int pa_nil))))) pa_nil), by
      obtain ⟨bs, hdr, hb, nbd, hbl100, h9⟩ := h1
      refine ⟨_, rfl, _, rfl, by decide, by decide, fun D nD => ?_⟩
      have nDd : D ≠ d := (hdr.ne nD).symm
      have nDb : bl ≠ D := fun z => by rw [← z, hb] at nD; cases nD
      refine lc_range (lo := 0) (n := (9 : Int).toNat) (vs := [2]) (fun i Hy => Drawn d H Hy ∧ ∃ ys : List Nat, ys.length = i ∧ Hy D = some (.lst (iVs ys))) ⟨Drawn.of hdr (sameUpd (Same.refl _) nD), [], rfl, upd_same⟩ ?_ ?_
      · rintro i Hy hi ⟨dy, ys, hyl, hy⟩
        have hi2 : i < 9 := hi
        refine ⟨rfl, _, rfl, d, 256, rfl, dy.at_, by decide, by decide, fun r s c bs hr hbs => ?_⟩
        have dr := dy.draw (s := s) (c := c) hbs
        have hy2 : (upd Hy d (drawL s c bs)) D = some (.lst (iVs ys)) := (upd_ne nDd).trans hy
        refine ⟨_, hy2, by rw [List.length_map, hyl, sizeLine_eq]; omega, ⟨fun b o nb e => (upd_ne (fun z => by rw [z, nD] at e; cases e)).trans (dr.same b o nb e), let ⟨a, b, c, l, q⟩ := dr.at_; ⟨a, b, c, l, (upd_ne nDd.symm).trans q⟩⟩, ys ++ [r], by rw [List.length_append, hyl]; rfl, ?_⟩
        rw [upd_same]
        show _ = some (HO.lst (List.map _ (ys ++ [r])))
        rw [List.map_append]
        rfl
      · rintro Hy ⟨dy, ys, hyl, hy⟩
        have hyl : ys.length = 9 := hyl
        refine ⟨bl, D, _, _, rfl, rfl, dy.same _ _ nbd hb, hy, by rw [List.length_map, hyl, sizeLine_eq]; omega, fun l nl => ?_⟩
        exact h9 l _ ys hyl (dy.new nl) upd_same⟩), ⟨hf1, hcp⟩, ⟨rfl, ?_⟩⟩
    refine ⟨_, Sl.dw, hbll, nbl'.1, by rw [List.length_map]; exact bad_len hx, fun l H52 ys hyl drl hl => ⟨_, rfl, .inr ⟨l, _, x.2, rfl, hl, kn_app ar_nats ar_nats (by rw [List.length_append, List.length_map, List.length_map, hyl]; have := bad_len hx; omega), bad_all hx _, fun dd H8 s8 e8 => ?_⟩⟩⟩
    replace Sl := Sl.drawn drl
    clear drl hl hbll GB2 bB2 kB2
    have S8 := Sl.same s8
    clear Sl s8 hf1 hcp tb1 xN Lc
    refine ⟨"InvalidCode", 10, "code", rfl, T.eo, rfl, .inr (.inl ⟨.inl rfl, T.xo, T.x.ico.op.n _ (by simp), dd, _, (x.2 : Nat), rfl, e8, rfl, fun t H9 s9 ht => ?_⟩)⟩
    have S9 := S8.same s9
    clear S8 e8 GF bF kF
    refine ⟨_, rfl, (by show 2 ≤ sizeLine; decide), fun ex nex => ?_⟩
    have s10 := sameUpd (o := .tup [.str "code", .int ((x.2 : Nat) : Int)]) (Same.refl H9) nex
    have hex10 := @upd_same H9 ex (.tup [.str "code", .int ((x.2 : Nat) : Int)])
    refine ⟨_, _, .tup (SqT.of (s10 _ _ ht)) (.cons (.str _) (.cons (.int _) .nil)), .tup (SqT.of hex10) (.cons (.str _) (.cons (.int _) .nil)), (sh_code (x.2)).shaped (by decide), (sh_code (x.2)).shaped (by decide), _, rfl, ?_⟩
    rw [(sh_code (x.2)).eqv]
    refine iteF ?_
    have S := S9.same s10
    clear S9 s9 s10 hex10 ht
    generalize upd H9 ex (.tup [.str "code", .int ((x.2 : Nat) : Int)]) = H60 at *
    -- a good code
    show tSeq _ _ _ [some (.ref a), some (.ref d), some (.ref cl), some (.int (pt : Nat)), some (.ref ex0), none, some v, some (.ref ch), some (.ref wr), some u, some (.ref bl), some (.int (x.2 : Nat)), none, none] H60
    refine ⟨(by show 28 ≤ sizeLine; decide), fun gl ngl => ?_⟩
    have s1 := sameUpd (o := .lst [.int 82, .int 2, .int 2, .int 1, .int 0, .int 1, .int 1, .int 2, .int 1, .int 0, .int 1, .int 2, .int 1, .int 1, .int 1, .int 1, .int 0, .int 2, .int 0, .int 1, .int 1, .int 0, .int 1, .int 1, .int 0, .int 0, .int 2, .int 0]) (Same.refl H60) ngl
    have hgl := @upd_same H60 gl (.lst [.int 82, .int 2, .int 2, .int 1, .int 0, .int 1, .int 1, .int 2, .int 1, .int 0, .int 1, .int 2, .int 1, .int 1, .int 1, .int 1, .int 0, .int 2, .int 0, .int 1, .int 1, .int 0, .int 1, .int 1, .int 0, .int 0, .int 2, .int 0])
    generalize upd H60 gl (.lst [.int 82, .int 2, .int 2, .int 1, .int 0, .int 1, .int 1, .int 2, .int 1, .int 0, .int 1, .int 2, .int 1, .int 1, .int 1, .int 1, .int 0, .int 2, .int 0, .int 1, .int 1, .int 0, .int 1, .int 1, .int 0, .int 0, .int 2, .int 0]) = H61 at *
    have hgl : H61 gl = some (.lst (iVs goodG)) := hgl
    clear s1 ngl S
    dsimp only [gName]
    refine ⟨_, rfl, _, rfl, gl, goodG.map (fun n : Nat => (n : Int)), rfl, SqL.of (by rw [← iVs_int]; exact hgl), ?_⟩
    rw [isum]
    refine ⟨_, _, rfl, rfl, (show (0 : Int) < 256 by decide), (by show 1 ≤ sizeLine; decide), fun q nq => ?_⟩
    have s2 := sameUpd (o := .lst [.int ((((goodG.sum : Nat) : Int)) % 256)]) (Same.refl H61) nq
    have hq := @upd_same H61 q (.lst [.int ((((goodG.sum : Nat) : Int)) % 256)])
    replace hgl := s2 _ _ hgl
    generalize upd H61 q (.lst [.int ((((goodG.sum : Nat) : Int)) % 256)]) = H62 at *
    refine ⟨gl, q, _, _, rfl, rfl, hgl, hq, (by show 28 + 1 ≤ sizeLine; decide), fun gd ngd => ?_⟩
    have hgd := @upd_same H62 gd (.lst (iVs goodG ++ [.int ((((goodG.sum : Nat) : Int)) % 256)]))
    refine ⟨gd, plG, rfl, ?_, wfG, soG, fun H63 s63 => ?_⟩
    · rw [codeG]
      exact hgd
    refine ⟨_, rfl, _, _, rfl, rfl, ?_⟩
    refine ⟨by rw [sizeLine_eq]; decide +kernel, rfl, ?_⟩
    rw [decide_eq_true (show sV (textOf plG) = V.str (("corridor 2;\nsigns a b;\nmoods a c;\nrobot 1 right;\nput b 0;\nwhen a b leave b on c;\n" : Str) ++ "when c a leave a stay a;") from congrArg V.str (by decide +kernel))]
    exact k _
end
end Sw

end

section
set_option maxRecDepth 100000
set_option maxHeartbeats 0
/-! the head: facts by names -/
namespace Sw
open PySem PySem.Spec PyProof.Rows L2 SwA
theorem fclsB_ok {K : PySem.W.Frag} (h : fclsB K = true) : PySem.W.findCls K (.ref (He.ga K "SweepError")) (.type "type") "__init__" = some (.val (.builtin "ValueError.__init__")) := by
  unfold fclsB at h
  split at h
  · rename_i n e
    rw [e, beq_iff_eq.mp h]
  · cases h
theorem mvB_ok {K : PySem.W.Frag} (h : mvB K = true) : ∃ o, K.lookup (He.ga K "MOVES") = some o ∧ o.cls = .type "tuple" ∧ o.dict = none := by
  unfold mvB at h
  split at h
  · rename_i e
    exact ⟨_, e, rfl, rfl⟩
  · cases h
theorem kTup_ok {K : PySem.W.Frag} {x : Str} {ws : List Cs} (h : He.tupB K x (ws.map fun w => He.Dv.str (sx w)) = true) : ∀ H : Hp, SqT K H (He.ga K x) (ws.map fun w => V.str (sx w)) := fun H => by
  have := He.tupB_ok h H
  rw [List.map_map] at this
  exact this
theorem facts {K : PySem.W.Frag} {h : Heap} {mg : Str → Option Value} {w : World} (X : K.In h) (G : h.Ns mainGlobals mg) (c : SaysY w h K) : L15T K mg ∧ DeT K mg "law" s_law := by
  have q := c.more
  unfold exB at q
  obtain ⟨x0, q⟩ := He.ba q
  obtain ⟨x1, q⟩ := He.ba q
  obtain ⟨x2, q⟩ := He.ba q
  obtain ⟨x3, q⟩ := He.ba q
  obtain ⟨x4, q⟩ := He.ba q
  obtain ⟨x5, q⟩ := He.ba q
  obtain ⟨x6, q⟩ := He.ba q
  obtain ⟨x7, q⟩ := He.ba q
  obtain ⟨x8, q⟩ := He.ba q
  obtain ⟨x9, q⟩ := He.ba q
  obtain ⟨x10, q⟩ := He.ba q
  obtain ⟨x11, q⟩ := He.ba q
  obtain ⟨x12, q⟩ := He.ba q
  obtain ⟨x13, q⟩ := He.ba q
  obtain ⟨x14, q⟩ := He.ba q
  obtain ⟨x15, q⟩ := He.ba q
  have x16 := q
  have hLaw : LawT K mg := ⟨(He.free_ok X G (c.t.d.fact 0 rfl)), (He.free_ok X G (c.t.d.fact 1 rfl)), (He.free_ok X G (c.t.d.fact 2 rfl)), (He.free_ok X G (c.t.d.fact 3 rfl)), (He.free_ok X G (c.t.d.fact 4 rfl)), ⟨(c.t.d.def_ 35 rfl), (He.glo_ok X G (c.t.d.fact 5 rfl))⟩, ⟨(c.t.d.def_ 38 rfl), (He.glo_ok X G (c.t.d.fact 6 rfl))⟩⟩
  have hLin : LinT K mg := ⟨⟨⟨hLaw, ⟨(c.t.d.def_ 39 rfl), (He.glo_ok X G (c.t.d.fact 7 rfl))⟩⟩, ⟨(c.t.d.def_ 40 rfl), (He.glo_ok X G (c.t.d.fact 8 rfl))⟩⟩, (He.free_ok X G (c.t.d.fact 9 rfl)), (He.free_ok X G (c.t.d.fact 10 rfl)), ⟨(c.t.d.def_ 36 rfl), (He.glo_ok X G (c.t.d.fact 11 rfl))⟩, ⟨(c.t.d.def_ 37 rfl), (He.glo_ok X G (c.t.d.fact 12 rfl))⟩⟩
  have hErr : ErrT K mg := ⟨⟨(He.glo_ok X G (c.t.d.fact 13 rfl)), ⟨x0, He.eqO_ok x1⟩, fclsB_ok x2⟩, (excCB_ok X G x3), (c.t.d.def_ 0 rfl)⟩
  have hLex : LexT K mg := ⟨hErr, (He.free_ok X G (c.t.d.fact 0 rfl)), (He.free_ok X G (c.t.d.fact 14 rfl)), (mkCB_ok X G x4), (c.t.d.def_ 4 rfl), (c.t.d.def_ 5 rfl), (He.glo_ok X G (c.t.d.fact 15 rfl)), (c.t.d.def_ 6 rfl), (He.glo_ok X G (c.t.d.fact 16 rfl)), (c.t.d.def_ 7 rfl), (He.glo_ok X G (c.t.d.fact 17 rfl)), (He.str_ok X G (c.t.d.fact 18 rfl)), (He.str_ok X G (c.t.d.fact 19 rfl)), (He.str_ok X G (c.t.d.fact 20 rfl)), (He.str_ok X G (c.t.d.fact 21 rfl)), (He.str_ok X G (c.t.d.fact 22 rfl)), (He.str_ok X G (c.t.d.fact 23 rfl)), (He.str_ok X G (c.t.d.fact 24 rfl)), (He.str_ok X G (c.t.d.fact 25 rfl)), (He.str_ok X G (c.t.d.fact 26 rfl)), (He.int_ok X G (c.t.d.fact 27 rfl)), (He.int_ok X G (c.t.d.fact 28 rfl)), (He.glo_ok X G (c.t.d.fact 29 rfl)), (kTup_ok x5)⟩
  have hPar : ParT K mg := ⟨hLex, (mkCB_ok X G x6), (of_decide_eq_true x7), (He.free_ok X G (c.t.d.fact 30 rfl)), (He.free_ok X G (c.t.d.fact 3 rfl)), (He.free_ok X G (c.t.d.fact 4 rfl)), (c.t.d.def_ 11 rfl), ⟨(c.t.d.def_ 12 rfl), He.meth_ok (c.t.d.fact 31 rfl)⟩, ⟨(c.t.d.def_ 13 rfl), He.meth_ok (c.t.d.fact 32 rfl)⟩, ⟨(c.t.d.def_ 14 rfl), He.meth_ok (c.t.d.fact 33 rfl)⟩, ⟨(c.t.d.def_ 15 rfl), He.meth_ok (c.t.d.fact 34 rfl)⟩, ⟨(c.t.d.def_ 16 rfl), He.meth_ok (c.t.d.fact 35 rfl)⟩, ⟨(c.t.d.def_ 17 rfl), He.meth_ok (c.t.d.fact 36 rfl)⟩, ⟨(c.t.d.def_ 18 rfl), He.meth_ok (c.t.d.fact 37 rfl)⟩, ⟨(c.t.d.def_ 19 rfl), He.meth_ok (c.t.d.fact 38 rfl)⟩, ⟨(c.t.d.def_ 20 rfl), He.meth_ok (c.t.d.fact 39 rfl)⟩, ⟨(c.t.d.def_ 21 rfl), He.meth_ok (c.t.d.fact 40 rfl)⟩, ⟨(c.t.d.def_ 22 rfl), He.meth_ok (c.t.d.fact 41 rfl)⟩, ⟨(c.t.d.def_ 23 rfl), He.meth_ok (c.t.d.fact 42 rfl)⟩, ⟨(c.t.d.def_ 24 rfl), He.meth_ok (c.t.d.fact 43 rfl)⟩, (He.int_ok X G (c.t.d.fact 44 rfl)), (He.int_ok X G (c.t.d.fact 45 rfl)), (He.int_ok X G (c.t.d.fact 46 rfl)), (He.int_ok X G (c.t.d.fact 47 rfl)), (He.glo_ok X G (c.t.d.fact 48 rfl)), (kTup_ok x8), (He.glo_ok X G (c.t.d.fact 49 rfl)), (kTup_ok x9)⟩
  have hLoad : LoadT K mg := ⟨hPar, (mkCB_ok X G x10), (c.t.d.def_ 8 rfl), (c.t.d.def_ 25 rfl), (He.glo_ok X G (c.t.d.fact 50 rfl))⟩
  have hFmt : FmtT K mg := ⟨hLoad, (He.free_ok X G (c.t.d.fact 10 rfl)), ⟨(c.t.d.def_ 26 rfl), (He.glo_ok X G (c.t.d.fact 51 rfl))⟩⟩
  have hEnc : EncT K mg := ⟨hFmt, (He.free_ok X G (c.t.d.fact 30 rfl)), (He.free_ok X G (c.t.d.fact 52 rfl)), ⟨(c.t.d.def_ 28 rfl), (He.glo_ok X G (c.t.d.fact 53 rfl))⟩, ⟨(c.t.d.def_ 29 rfl), (He.glo_ok X G (c.t.d.fact 54 rfl))⟩, (He.int_ok X G (c.t.d.fact 55 rfl)), (He.int_ok X G (c.t.d.fact 56 rfl)), (mvB_ok x11)⟩
  have hInt : IntT K mg := ⟨(He.free_ok X G (c.t.d.fact 57 rfl)), (He.free_ok X G (c.t.d.fact 58 rfl)), (He.free_ok X G (c.t.d.fact 30 rfl)), ⟨(c.t.d.def_ 27 rfl), (He.glo_ok X G (c.t.d.fact 59 rfl))⟩⟩
  have hRd : RdT K mg := ⟨hEnc, hInt, (He.free_ok X G (c.t.d.fact 2 rfl)), (mkCB_ok X G x12), (c.t.d.def_ 30 rfl), ⟨(c.t.d.def_ 31 rfl), He.meth_ok (c.t.d.fact 60 rfl)⟩, ⟨(c.t.d.def_ 32 rfl), He.meth_ok (c.t.d.fact 61 rfl)⟩, ⟨(c.t.d.def_ 33 rfl), He.meth_ok (c.t.d.fact 62 rfl)⟩, ⟨(c.t.d.def_ 34 rfl), (He.glo_ok X G (c.t.d.fact 63 rfl))⟩⟩
  have hBase : BaseT K mg := ⟨(He.glo_ok X G (c.t.d.fact 13 rfl)), ⟨x0, He.eqO_ok x1⟩, fclsB_ok x2⟩
  have hIco : IcoT K mg := ⟨hBase, (excCB_ok X G x13), (c.t.d.def_ 2 rfl)⟩
  have hRdx : RdxT K mg := ⟨hRd, hIco⟩
  have hBb : BbT K mg := ⟨hLaw, ⟨(c.t.d.def_ 42 rfl), (He.glo_ok X G (c.t.d.fact 64 rfl))⟩⟩
  have hEof : EofT K mg := ⟨(He.free_ok X G (c.t.d.fact 57 rfl)), (He.free_ok X G (c.t.d.fact 65 rfl)), (He.glo_ok X G (c.t.d.fact 13 rfl)), (fun n hn => He.glo_ok X G (List.all_eq_true.mp x14 n hn)), ⟨(c.t.d.def_ 41 rfl), (He.glo_ok X G (c.t.d.fact 66 rfl))⟩⟩
  exact ⟨⟨hLin, hRdx, hBb, hEof, (ekB_ok x15), (L2.xfB_ok x16)⟩,
    ⟨(c.t.d.def_ 43 rfl), (He.glo_ok X G (c.t.d.fact 67 rfl))⟩⟩
theorem facts2 {w : World} {K : PySem.W.Frag} {h : Heap} {mg : Str → Option Value} {f : Addr} (X : K.In h) (G : h.Ns mainGlobals mg) (hfa : mg ("law" : Str) = some (.ref f)) (c : SaysY w h K) :
    LamX.LawAtS PySem.Challenge.rw_sweeprota_k15_invalid_bytes w K CX0 16 63 "_law_script" mg f h := by
  obtain ⟨T, L⟩ := facts X G c
  obtain ⟨fd, F⟩ := L.d
  have e := hfa.symm.trans L.g
  cases e
  have b := FunD.bindsA (ps := ["_law_script"]) F fun _ _ _ _ _ _ us hl => match us, hl with | [_], _ => rfl
  obtain ⟨oc, od, dV, kV, doc, pm, an, cdv, ct, osl, rfl, lk, hcd, _, _⟩ := F.ex
  obtain ⟨cA, rfl⟩ := He.codeIn_ref hcd
  have hc : He.codeOf K ("law", none) = cA := He.codeOf_eq lk rfl
  have hd := c.hd
  have out := c.out
  have emp := c.empty
  unfold He.cT at hd out emp
  rw [hc] at hd out emp
  refine ⟨_, [(cA, He.tabOf K cA)], spLaw K (He.tabOf K cA), fun q hq => ?_, fun q hq => ?_, fun q hq => ?_, fun s v => b s [v] rfl, fun H a ns hl _ hH hS => ⟨a, ns, rfl, hH _ (List.mem_singleton.mpr rfl), hS, hl, fun _ => rfl⟩, fun base _ _ hTB => ok_law T lk hcd (hTB _ (List.mem_singleton.mpr rfl))⟩
  · rw [List.mem_singleton.mp hq]
    exact emp
  · rw [List.mem_singleton.mp hq]
    exact out
  · rw [List.mem_singleton.mp hq]
    exact PySem.W.codeHd_of_K X hd
end Sw
open PySem PySem.W PySem.Calls PyProof.Rows
theorem PySem.Challenge.cw_sweeprota_k15_invalid_bytes_holds : PySem.Challenge.rw_sweeprota_k15_invalid_bytes.Holds := by
  w_on; o_law
  refine HandSHeadRun.head_any (r := OpenLaw.row PySem.Challenge.rw_sweeprota_k15_invalid_bytes) (q := view (OpenLaw.row PySem.Challenge.rw_sweeprota_k15_invalid_bytes).prog [62]) (H := Sw.hk) (ob := Sw.ob) (M := 60000) (loose := Sw.names) (d := HandSHeadRun.topDef (OpenLaw.row PySem.Challenge.rw_sweeprota_k15_invalid_bytes).prog 62) (kwd := []) Sw.ob_eq
    (by kernel_rfl) (fun s => by kernel_rfl) Sw.run (by kernel_rfl) (by kernel_rfl) (by kernel_rfl) (by rfl) (by first | assumption | decide +kernel) (by decide +kernel) ⟨rfl, rfl, rfl, rfl, rfl, by decide +kernel⟩ ?hw ?hc
  case hw => w_witness2
  case hc =>
    refine LamX.walk_ofTsE (l := PySem.Challenge.rw_sweeprota_k15_invalid_bytes) (n := 63) (k := 16) (x := "_law_script") (CX := fun _ => L2.CX0) rfl (by decide) (by kernel_rfl) ⟨rfl, by decide, by decide⟩ ?F (fun _ _ _ _ _ z => z)
    intro w mg fa h Y G hmg0
    obtain ⟨K, KX, c⟩ := Y
    have hmg : mg ("law" : PySem.Str) = some (.ref fa) := by
      have e : (HandSHeadRun.topDef (OpenLaw.row PySem.Challenge.rw_sweeprota_k15_invalid_bytes).prog 62).name = ("law" : PySem.Str) := by kernel_rfl
      rw [← e]
      exact hmg0
    exact ⟨K, KX, Sw.facts2 KX G hmg c⟩

end
