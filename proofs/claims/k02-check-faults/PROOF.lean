import PyProof.Rows.All
import Wide.All
import OpenK.AllK
import Wide.FinOn
import PySem.Challenge.RW_sweeprota_k02_check_faults
import HandS.Words
import PyProof.EqAt
import PyProof.EqKinds
import PyProof.TupleCall
import PyProof.RulesMatch
import PyProof.RulesMatchSeq
import HandS.ForMost
import HandS.ForExc
import HandS.ExcInit
import HandS.ExcField
import HandS.ExcIs
import HandS.IsInst
import HandS.More
import HandS.Steps
import HandS.Walk
import HandS.Zip
import HandS.Defaults
import HandS.ClsMeth
import HandS.Property
import HandS.TupMul
import HandS.TupAny
import HandS.FStr
import HandS.Conv
import HandS.Flow
import HandS.Lambda
import HandS.CallLocal
import HandS.Head0
import HandS.Head1
import HandS.Head2
import HandS.HeadEnd
import HandS.HeadHook1
import HandS.HeadHook2
import HandS.HeadHook3
import HandS.HeadHook4
import HandS.HeadWalk
import HandS.Text
import HandS.HeadNt
import Lean
import HandS.Dict
import KE.KDictKeyed
import KE.KeyNested
import HandS.Iter
import KE.KDictWalk
import KE.GoesMore
import HandS.SetFor
import PyProof.NeKinds
import HandS.CallRecv
import HandS.SortRule
import KE.KDictSum
import KE.SortData
import KE.DataMinMax
import HandS.List
import HandS.ReplaceList
import HandS.StrMore
import PyProof.StrLawsLast
import PyProof.StrLawsFirst
import PyProof.StrLawsTight
import PyProof.StrOps2
import KE.DataFind
import HandS.Nested
import KE.KDflt
import KE.KExcIs
import HandS.ReplaceLit
import HandS.ReplaceDef
set_option Elab.async false
set_option linter.all false
section
/-! the row's defs by place -/
namespace Sw
open PySem L2
def top (i : Nat) : Stmt := PySem.Challenge.pw_sweeprota_k02_check_faults.main.body.getD i (.Pass ⟨0, 0, 0, 0⟩)
abbrev s__wall : Stmt := top 0
abbrev s_SyntaxFault_init : Stmt := inClass (top 3) 0
abbrev s_CheckFault_init : Stmt := inClass (top 4) 0
abbrev s_InvalidCode_init : Stmt := inClass (top 11) 0
abbrev s_InvalidOperation_init : Stmt := inClass (top 14) 0
abbrev s_Token_init : Stmt := inClass (top 30) 0
abbrev s_run_end : Stmt := top 31
abbrev s_read_token : Stmt := top 32
abbrev s_tokenize : Stmt := top 33
abbrev s_Plan_init : Stmt := inClass (top 39) 0
abbrev s_Plan_with_floor : Stmt := inClass (top 39) 1
abbrev s_Plan_with_robots : Stmt := inClass (top 39) 2
abbrev s_Parser_init : Stmt := inClass (top 40) 0
abbrev s_Parser_peek : Stmt := inClass (top 40) 1
abbrev s_Parser_fail : Stmt := inClass (top 40) 2
abbrev s_Parser_found : Stmt := inClass (top 40) 3
abbrev s_Parser_take : Stmt := inClass (top 40) 4
abbrev s_Parser_take_word : Stmt := inClass (top 40) 5
abbrev s_Parser_take_keyword : Stmt := inClass (top 40) 6
abbrev s_Parser_parse_names : Stmt := inClass (top 40) 7
abbrev s_Parser_number_of : Stmt := inClass (top 40) 8
abbrev s_Parser_tile_of : Stmt := inClass (top 40) 9
abbrev s_Parser_parse_robot : Stmt := inClass (top 40) 10
abbrev s_Parser_parse_put : Stmt := inClass (top 40) 11
abbrev s_Parser_parse_rule : Stmt := inClass (top 40) 12
abbrev s_Parser_parse_plan : Stmt := inClass (top 40) 13
abbrev s_load : Stmt := top 41
abbrev s_format_parsed : Stmt := top 43
abbrev s_format_plan : Stmt := top 44
abbrev s_signs_of : Stmt := top 45
abbrev s__law_random : Stmt := top 47
abbrev s__law_below : Stmt := top 48
abbrev s__law_more : Stmt := top 49
abbrev s__law_faulty : Stmt := top 50
abbrev s__law_error_of : Stmt := top 51
abbrev s_law : Stmt := top 52
abbrev nMaxLetters : Str := "MAX_LETTERS"
abbrev nMaxLetC : Str := "MAX_LETTERS"
abbrev nWays : Str := "WAYS"
end Sw

end

section
set_option maxRecDepth 100000
set_option maxHeartbeats 4000000
namespace SwA
open PySem PySem.Spec PyProof.Rows L2

/-! ### D.__init__(self, ..) where D is an own class over ValueError that has no __init__ of its own -/
theorem pe_ownveinit {X : Cx} {e : Expr} {es : List Expr} {ta : TA} {p1 p2 pos : Pos} {x : Str} {D : Addr} {pl : Sem Bool} (hg : Gl X x) (hm : X.mg x = some (.ref D)) (r : ClX.CRead X.K D (.type "type"))
    (vV : PySem.W.findCls X.K (.ref D) (.type "type") "__init__" = some (.val (.builtin "ValueError.__init__"))) (ha : PA X (e :: es) ta)
    (hc : eval (.Call (.Attribute (.Name x p1) "__init__" p2) (e :: es) [] pos) X.env = (do
      let ov ← eval (.Name x p1) X.env
      standAt p2.atName
      let (f, first) ← holding [ov] (getMethod ov "__init__" pl)
      callWith pos f first (backTo pos (starEach (e :: es) X.env)) (backToKw pos (keywordEach [] X.env))) := by rfl)
    (he : starEach (e :: es) X.env = (false, eval e X.env) :: starEach es X.env := by rfl) (hpl : (backTo pos (starEach es X.env)).any (·.1) = false := by rfl)
    (hdb : (x == ("__debug__" : Str)) = false := by decide) :
    PE X (.Call (.Attribute (.Name x p1) "__init__" p2) (e :: es) [] pos) (tVeI X.K ta) := by
  refine ⟨fun pins s σ H Q I h => ?_⟩
  refine PySem.W.methodCall_KW (ld_glob I hg hm ?_ hdb) hc
  refine PySem.W.method_cls I.kIn r.ga (PySem.W.cls_value I.kIn r.rd vV (by decide +kernel) ?_)
  show wpAny _ _ (callWith pos (Value.builtin "ValueError.__init__") [] (backTo pos (starEach (e :: es) X.env)) []) _ _ _
  refine PyProof.Rows.callWith_method1 (thn (ha.run pos pins _ σ H _ (I.tok _) h) fun us s1 ⟨vs, H1, I1, r1, a, C, ws, ev, hl, T, ea, q⟩ => ?_) he hpl
  subst ev
  cases r1 with
  | @cons _ u0 _ ur ra rw' =>
    obtain rfl : u0 = Value.ref a := ra
    have hlen : ur.length ≤ sizeLine := by
      rw [← Paired.length rw', sizeLine_eq]
      omega
    exact oinit_ok T I1 ea hlen fun s' J => ⟨.non, H1, J, rfl, q⟩

/-! ### match upon a value: cases that are written texts, and the case of anything -/
/-- the cases cs asked of the value v: what is wanted -/
structure PMs (X : Cx) (cs : List MatchCase) (t : V → TS) : Prop where
  run : ∀ (pins : List (Addr × Obj)) (s : Shared) (σ : L2.St) (H : Hp) (D : Ends) (v : V) (u : Value) (first : Bool), Inv X pins σ H s → RelV v u → t v D σ H → wpAny (model X.prog X.w) X.A (matchCases cs X.env u first) (SP X pins D) X.xe s
theorem pms_nil {X : Cx} : PMs X [] (fun _ D σ H => D.nx σ H) := ⟨fun pins s σ H D v u first I r h => wpAny_matchCases_nil ⟨σ, H, I, h⟩⟩
theorem pms_any {X : Cx} {body : List Stmt} {rest : List MatchCase} {tb : TS} {pos : Pos} (hb : PSs X body tb) : PMs X (⟨.MatchAs none none pos, none, body⟩ :: rest) (fun _ => tb) :=
  ⟨fun pins s σ H D v u first I r h => wpAny_matchCases_cons (wpAny_matchPattern_Capture (wpAny_assignInOrder_none (hb.run pins s σ H D I h)))⟩
def tCaseS (z : Str) (tb : TS) (tr : V → TS) : V → TS := fun v D σ H => ∃ y, v = .str y ∧ ((y = z → tb D σ H) ∧ (y ≠ z → tr v D σ H))
theorem pms_str {X : Cx} {z : Str} {k : Nat} {body : List Stmt} {rest : List MatchCase} {tb : TS} {tr : V → TS} {p1 p2 : Pos} (hb : PSs X body tb) (hr : PMs X rest tr) :
    PMs X (⟨.MatchValue (.Constant (.str z) k p1) p2, none, body⟩ :: rest) (tCaseS z tb tr) := by
  refine ⟨fun pins s σ H D v u first I r h => ?_⟩
  obtain ⟨y, ev, h1, h2⟩ := h
  subst ev
  refine wpAny_matchCases_cons (wpAny_matchPattern_Value ?_)
  refine thn ((pe_str (X := X) (x := z) (j := k) (pos := p1)).run pins s σ H (fun x H' => x = .str z ∧ H' = H) I ⟨rfl, rfl⟩) fun zv s1 ⟨x, H1, I1, rz, ex, eh⟩ => ?_
  subst ex
  subst eh
  refine thn (op_eq pins s1 σ H1 (.str y) (.str z) u zv (fun x H' => x = .bl (decide (V.str y = V.str z)) ∧ H' = H1) I1 r rz ⟨rfl, rfl, rfl⟩) fun c s2 ⟨x, H2, I2, rc, ex, eh⟩ => ?_
  subst ex
  subst eh
  obtain rfl : c = Value.bool (decide (V.str y = V.str z)) := rc
  refine wpAny_truthy_bool ?_
  by_cases e : y = z
  · have d : decide (V.str y = V.str z) = true := decide_eq_true (by rw [e])
    rw [d]
    exact wpAny_assignInOrder_none (hb.run pins s2 σ H2 D I2 (h1 e))
  · have d : decide (V.str y = V.str z) = false := decide_eq_false (fun q => e (V.str.inj q))
    rw [d]
    exact hr.run pins s2 σ H2 D (.str y) u false I2 r (h2 e)
def tMatch (te : TE) (t : V → TS) : TS := fun D σ H => te σ H fun v H1 => t v D σ H1
theorem ps_match {X : Cx} {e : Expr} {te : TE} {cs : List MatchCase} {t : V → TS} {pos : Pos} (he : PE X e te) (hc : PMs X cs t) : PS X (.Match e cs pos) (tMatch te t) := by
  refine ⟨fun pins s σ H D I h => ?_⟩
  refine wpAny_Match (thn (he.run pins s σ H _ I h) fun u s1 ⟨v, H1, I1, r, q⟩ => ?_)
  exact hc.run pins s1 σ H1 D v u true I1 r q
/-! ### an own exception's class, as a Bool upon the written part -/
def oexB (K : PySem.W.Frag) (C : Addr) : Bool := (match K.lookup C with
  | some ⟨.type "type", _, .cls cd, sl⟩ => (match cd.mro, sl.toList with
    | .ref C' :: bm, [_, _, _, _, some (.builtin n), _] => C' == C && (n == "ValueError.__new__" && (!cd.hasDel && (cd.hasDict && PySem.HandSPX.refsVE bm)))
    | _, _ => false)
  | _ => false) && (He.eqO (PySem.W.findIn K (.ref C) "__setattr__") (some (some (.builtin "object.__setattr__"))) && (decide (PySem.W.subIn K (.ref C) (.type "BaseException") = some true) && (decide (PySem.W.typeIn K (.ref C) = some (.type "type")) && PySem.W.keepIn K (.ref C))))
theorem oexB_ok {K : PySem.W.Frag} {C : Addr} (h : oexB K C = true) : OexC K C := by
  obtain ⟨q, h2⟩ := He.ba h
  obtain ⟨h3, h4⟩ := He.ba h2
  obtain ⟨h5, h6⟩ := He.ba h4
  obtain ⟨h7, h8⟩ := He.ba h6
  refine ⟨?_, He.eqO_ok h3, of_decide_eq_true h5, of_decide_eq_true h7, h8⟩
  split at q
  · rename_i dd cd sl ho
    split at q
    · rename_i C' bm k0 k1 k2 k3 n k5 hm hs
      simp only [Bool.and_eq_true, beq_iff_eq, Bool.not_eq_true'] at q
      obtain ⟨rfl, rfl, hdel, hdi, ht⟩ := q
      obtain ⟨nm, bs, mro, ns, qn, hd, sn, sub, ab, col, del⟩ := cd
      dsimp only at hm hdel hdi
      subst hm hdel hdi
      have hsl : sl = #[k0, k1, k2, k3, some (.builtin "ValueError.__new__"), k5] := by
        obtain ⟨l⟩ := sl
        simp only at hs
        rw [hs]
      subst hsl
      exact ⟨nm, qn, ns, bs, bm, sn, sub, ab, col, dd, k0, k1, k2, k3, k5, ho, ht⟩
    · cases q
  · cases q

/-! ### a class whose __init__ stores its arguments, one a field -/
def spInit (C : Addr) (names : List Str) : Sp := fun vs H Q _ => ∃ (p dx : Addr) (args : List V), vs = .ref p :: args ∧ args.length = names.length ∧ H p = some (.ins C dx []) ∧
  ∀ H' : Hp, H' p = some (.ins C dx (names.zip args)) → (∀ b, b ≠ p → H' b = H b) → Q .non H'
/-- C(..) of such a class, behind its arguments: a new object, all that was tracked stands -/
theorem mk_at {C : Addr} {names : List Str} {E : XK} {H1 : Hp} {Q : VK} {vs : List V} (hl : vs.length = names.length)
    (q : ∀ (x : Addr) (H2 : Hp), H1 x = none → Same H1 H2 → (∃ dx, H2 x = some (.ins C dx (names.zip vs))) → Q (.ref x) H2) :
    ∀ x dx, H1 x = none → H1 dx = none → dx ≠ x → spInit C names (.ref x :: (vs ++ [])) (upd (upd H1 dx (.own x)) x (.ins C dx [])) (fun v H2 => v = .non ∧ Q (.ref x) H2) E := by
  intro x dx nx ndx ne
  refine ⟨x, dx, vs ++ [], rfl, by rw [List.append_nil]; exact hl, upd_same, fun H' e1 e2 => ⟨rfl, ?_⟩⟩
  rw [List.append_nil] at e1
  refine q x H' nx (fun b o e => ?_) ⟨dx, e1⟩
  rw [e2 b (ne_of_none e nx), upd_ne (ne_of_none e nx), upd_ne (ne_of_none e ndx)]
  exact e

/-- the same, for any wish -/
theorem init_at {C x dx : Addr} {names : List Str} {E : XK} {H1 : Hp} {R : VK} {vs : List V} (hl : vs.length = names.length) (nx : H1 x = none) (ndx : H1 dx = none)
    (q : ∀ H2 : Hp, Same H1 H2 → (∃ dx, H2 x = some (.ins C dx (names.zip vs))) → R .non H2) : spInit C names (.ref x :: (vs ++ [])) (upd (upd H1 dx (.own x)) x (.ins C dx [])) R E := by
  refine ⟨x, dx, vs ++ [], rfl, by rw [List.append_nil]; exact hl, upd_same, fun H' e1 e2 => ?_⟩
  rw [List.append_nil] at e1
  refine q H' (fun b o e => ?_) ⟨dx, e1⟩
  rw [e2 b (ne_of_none e nx), upd_ne (ne_of_none e nx), upd_ne (ne_of_none e ndx)]
  exact e

/-! ### an own exception's __init__ that stores its arguments, one a field -/
def spFault (C : Addr) (names : List Str) : Sp := fun vs H Q _ => ∃ (a : Addr) (args : List V), vs = .ref a :: args ∧ args.length = names.length ∧ H a = some (exo a C none) ∧
  ∀ (d : Addr) (H' : Hp), H d = none → d ≠ a → H' a = some (exo a C (some d)) → H' d = some (exd d (names.zip args).reverse) → (∀ b, b ≠ a → b ≠ d → H' b = H b) → Q .non H'
/-- raise C(..), behind its arguments -/
theorem fault_at {C : Addr} {names : List Str} {H1 : Hp} {Q : XK} {vs : List V} (hl : vs.length = names.length) (hz : vs.length ≤ 1000)
    (q : ∀ (d : Addr) (H2 : Hp), H1 d = none → Same H1 H2 → H2 d = some (.xd (names.zip vs).reverse) → Q (.ref C) (some d) H2) :
    vs.length ≤ 1000 ∧ ∀ a, H1 a = none → spFault C names (.ref a :: (vs ++ [])) (upd H1 a (exo a C none))
      (fun v H2 => v = .non ∧ ∃ (d : Addr) (fs : List (Str × V)), H2 a = some (exo a C (some d)) ∧ H2 d = some (exd d fs) ∧ H1 d = none ∧ Q (.ref C) (some d) (upd (del H2 a) d (.xd fs))) (fun _ _ _ => False) := by
  refine ⟨hz, fun a na => ⟨a, vs ++ [], rfl, by rw [List.append_nil]; exact hl, upd_same, fun d H' nd da e1 e2 e3 => ⟨rfl, d, _, e1, e2, ?_, ?_⟩⟩⟩
  · rw [upd_ne da] at nd
    exact nd
  · rw [upd_ne da] at nd
    rw [List.append_nil]
    refine q d _ nd (fun b o e => ?_) upd_same
    have ba : b ≠ a := ne_of_none e na
    have bd : b ≠ d := ne_of_none e nd
    rw [upd_ne bd, del_ne ba, e3 b ba bd, upd_ne ba]
    exact e
end SwA

end

section
set_option maxRecDepth 100000
set_option maxHeartbeats 4000000
/-! the mirror of the lexer and the parser: plain functions over lists of codes -/
namespace Sw
open PySem
/-- a text by its codes -/
abbrev Cs := List Nat
def sx (l : Cs) : Str := ⟨l.toArray⟩
theorem sx_inj {a b : Cs} (h : sx a = sx b) : a = b := by
  have e : (sx a).cps = (sx b).cps := by rw [h]
  have e2 : a.toArray = b.toArray := e
  simpa using congrArg Array.toList e2
def wCorridor : Cs := [99, 111, 114, 114, 105, 100, 111, 114]
def wSigns : Cs := [115, 105, 103, 110, 115]
def wMoods : Cs := [109, 111, 111, 100, 115]
def wRobot : Cs := [114, 111, 98, 111, 116]
def wPut : Cs := [112, 117, 116]
def wWhen : Cs := [119, 104, 101, 110]
def wLeave : Cs := [108, 101, 97, 118, 101]
def wLeft : Cs := [108, 101, 102, 116]
def wRight : Cs := [114, 105, 103, 104, 116]
def wOn : Cs := [111, 110]
def wBack : Cs := [98, 97, 99, 107]
def wStay : Cs := [115, 116, 97, 121]
def wSemi : Cs := [59]
def kws : List Cs := [wCorridor, wSigns, wMoods, wRobot, wPut, wWhen, wLeave, wLeft, wRight, wOn, wBack, wStay]
def ways : List Cs := [wLeft, wRight]
def moves : List Cs := [wOn, wBack, wStay]
inductive Kd where
  | name | number | keyword | sign | fin
  deriving DecidableEq
def Kd.str : Kd → Str
  | .name => "name"
  | .number => "number"
  | .keyword => "keyword"
  | .sign => "sign"
  | .fin => "end"
structure Tk where
  kind : Kd
  text : Cs
  line : Nat
  col : Nat
  deriving DecidableEq
def isL (c : Nat) : Bool := Nat.ble 97 c && Nat.ble c 122
def isD (c : Nat) : Bool := Nat.ble 48 c && Nat.ble c 57
def isS (c : Nat) : Bool := c == 32 || c == 10
/-- the token at the head of what is left of a row; none: a fault there -/
def readTok (line col : Nat) (rest : Cs) : Option Tk := match rest with
  | [] => none
  | c :: _ =>
    if c = 59 then some ⟨.sign, [59], line, col⟩
    else if isD c = true then
      (if 2 < (rest.takeWhile isD).length ∨ (1 < (rest.takeWhile isD).length ∧ c = 48) then none else some ⟨.number, rest.takeWhile isD, line, col⟩)
    else if rest.takeWhile isL ∈ kws then some ⟨.keyword, rest.takeWhile isL, line, col⟩
    else if 1 ≤ (rest.takeWhile isL).length ∧ (rest.takeWhile isL).length ≤ 8 then some ⟨.name, rest.takeWhile isL, line, col⟩
    else none
/-- a row from a column on: what is left of it, f at least its length -/
def lexRow (line : Nat) : Nat → Nat → Cs → Except (Nat × Nat) (List Tk)
  | _, _, [] => .ok []
  | 0, _, _ :: _ => .ok []
  | f + 1, col, c :: r =>
    if isS c = true then lexRow line f (col + 1) r
    else match readTok line col (c :: r) with
      | none => .error (line, col)
      | some t => match lexRow line f (col + t.text.length) ((c :: r).drop t.text.length) with
        | .error e => .error e
        | .ok ts => .ok (t :: ts)
def lexRows : Nat → List Cs → Except (Nat × Nat) (List Tk)
  | _, [] => .ok []
  | line, row :: rest => match lexRow line row.length 0 row with
    | .error e => .error e
    | .ok ts => match lexRows (line + 1) rest with
      | .error e => .error e
      | .ok us => .ok (ts ++ us)
def rowsOf (text : Cs) : List Cs := TL.spl [10] 0 [] text
def tokenize (text : Cs) : Except (Nat × Nat) (List Tk) := match lexRows 0 (rowsOf text) with
  | .error e => .error e
  | .ok ts => .ok (ts ++ [⟨.fin, [], (rowsOf text).length, 0⟩])
/-! ### the parser -/
structure Rule where
  left : Nat
  move : Cs
  later : Nat
  deriving DecidableEq
structure PSt where
  at_ : Nat
  faults : List (Nat × Nat × Cs)
  signs : List Cs
  moods : List Cs
  robots : List (Nat × Bool)
  rules : List ((Nat × Nat) × Rule)
  pairs : List (Cs × Cs)
  spots : List (Nat × Nat)
  deriving DecidableEq
def putA {κ α : Type} [DecidableEq κ] (l : List (κ × α)) (k : κ) (v : α) : List (κ × α) :=
  if (l.any fun kv => decide (kv.1 = k)) = true then l.map (fun kv => if kv.1 = k then (kv.1, v) else kv) else l ++ [(k, v)]
def getA {κ α : Type} [DecidableEq κ] (l : List (κ × α)) (k : κ) : Option α := (l.find? fun kv => decide (kv.1 = k)).map (·.2)
abbrev PR (α : Type) := Except (Nat × Nat) (α × PSt)
def endTk : Tk := ⟨.fin, [], 0, 0⟩
section
variable (T : List Tk)
def peek (st : PSt) : Tk := T.getD st.at_ endTk
def PSt.next (st : PSt) : PSt := { st with at_ := st.at_ + 1 }
def PSt.found (st : PSt) (reason : Cs) (t : Tk) : PSt := { st with faults := st.faults ++ [(t.line, t.col, reason)] }
def failAt (st : PSt) : Nat × Nat := ((peek T st).line, (peek T st).col)
def take (k : Kd) (st : PSt) : PR Tk := if (peek T st).kind = k then .ok (peek T st, st.next) else .error (failAt T st)
def takeWord (w : Cs) (st : PSt) : PR Tk := if (peek T st).text = w then .ok (peek T st, st.next) else .error (failAt T st)
def takeKw (ws : List Cs) (st : PSt) : PR Tk := if (peek T st).kind = .keyword ∧ (peek T st).text ∈ ws then .ok (peek T st, st.next) else .error (failAt T st)
/-- the names of a kind: false signs, true moods -/
def PSt.names (b : Bool) (st : PSt) : List Cs := if b then st.moods else st.signs
def PSt.push (b : Bool) (w : Cs) (st : PSt) : PSt := if b then { st with moods := st.moods ++ [w] } else { st with signs := st.signs ++ [w] }
def rDuplicate : Cs := [100, 117, 112, 108, 105, 99, 97, 116, 101]
def rUnknown : Cs := [117, 110, 107, 110, 111, 119, 110]
def rTile : Cs := [116, 105, 108, 101]
def rRobots : Cs := [114, 111, 98, 111, 116, 115]
def rAgain : Cs := [97, 103, 97, 105, 110]
def rTwice : Cs := [116, 119, 105, 99, 101]
def wordOf (b : Bool) : Cs := if b then wMoods else wSigns
def mostOf (b : Bool) : Nat := if b then 6 else 4
def addName (b : Bool) (st : PSt) (t : Tk) : PSt :=
  if t.text ∈ st.names b then st.found rDuplicate t
  else if (st.names b).length = mostOf b then st.found (wordOf b) t
  else st.push b t.text
/-- further names, f turns at most -/
def moreNames : Nat → PSt → List Tk → List Tk × PSt
  | 0, st, acc => (acc, st)
  | f + 1, st, acc => if (peek T st).kind = .name then moreNames f st.next (acc ++ [peek T st]) else (acc, st)
def parseNames (b : Bool) (st : PSt) : PR Unit := match takeWord T (wordOf b) st with
  | .error e => .error e
  | .ok (_, s1) => match take T .name s1 with
    | .error e => .error e
    | .ok (t, s2) => match takeWord T wSemi (moreNames T T.length s2 [t]).2 with
      | .error e => .error e
      | .ok (_, s3) => .ok ((), (moreNames T T.length s2 [t]).1.foldl (addName b) s3)
def numberOf (names : List Cs) (t : Tk) (st : PSt) : Nat × PSt := if t.text ∈ names then (names.idxOf t.text, st) else (0, st.found rUnknown t)
def numVal (w : Cs) : Nat := w.foldl (fun a c => a * 10 + (c - 48)) 0
def tileOf (tiles : Nat) (st : PSt) : PR Nat := match take T .number st with
  | .error e => .error e
  | .ok (t, s1) => .ok (numVal t.text, if tiles ≤ numVal t.text then s1.found rTile t else s1)
def parseRobot (tiles : Nat) (st : PSt) : PR Unit := match takeWord T wRobot st with
  | .error e => .error e
  | .ok (kw, s1) => match tileOf T tiles (if s1.robots.length = 3 then s1.found rRobots kw else s1) with
    | .error e => .error e
    | .ok (tile, s2) => match takeKw T ways s2 with
      | .error e => .error e
      | .ok (way, s3) => match takeWord T wSemi s3 with
        | .error e => .error e
        | .ok (_, s4) => .ok ((), { s4 with robots := s4.robots ++ [(tile, decide (way.text = wRight))] })
def parsePut (tiles : Nat) (st : PSt) : PR Unit := match takeWord T wPut st with
  | .error e => .error e
  | .ok (_, s1) => match take T .name s1 with
    | .error e => .error e
    | .ok (nm, s2) => match tileOf T tiles (numberOf s2.signs nm s2).2 with
      | .error e => .error e
      | .ok (tile, s3) => match takeWord T wSemi s3 with
        | .error e => .error e
        | .ok (_, s4) =>
          let s5 := if (s4.spots.any fun kv => decide (kv.1 = tile)) = true then s4.found rAgain (peek T (numberOf s2.signs nm s2).2) else s4
          .ok ((), { s5 with spots := putA s5.spots tile (numberOf s2.signs nm s2).1 })
def parseRule (st : PSt) : PR Unit := match takeWord T wWhen st with
  | .error e => .error e
  | .ok (kw, s1) => match take T .name s1 with
    | .error e => .error e
    | .ok (first, s2) => match take T .name (numberOf s2.moods first s2).2 with
      | .error e => .error e
      | .ok (second, s3) => match takeWord T wLeave (numberOf s3.signs second s3).2 with
        | .error e => .error e
        | .ok (_, s4) => match take T .name s4 with
          | .error e => .error e
          | .ok (lf, s5) => match takeKw T moves (numberOf s5.signs lf s5).2 with
            | .error e => .error e
            | .ok (mv, s6) => match take T .name s6 with
              | .error e => .error e
              | .ok (la, s7) => match takeWord T wSemi (numberOf s7.moods la s7).2 with
                | .error e => .error e
                | .ok (_, s8) =>
                  let s9 := if (first.text, second.text) ∈ s8.pairs then s8.found rTwice kw else s8
                  let s10 : PSt := { s9 with pairs := if (first.text, second.text) ∈ s9.pairs then s9.pairs else s9.pairs ++ [(first.text, second.text)] }
                  .ok ((), { s10 with rules := putA s10.rules ((numberOf s2.moods first s2).1, (numberOf s3.signs second s3).1) ⟨(numberOf s5.signs lf s5).1, mv.text, (numberOf s7.moods la s7).1⟩ })
def parseStmt (tiles : Nat) (st : PSt) : PR Unit :=
  if (peek T st).text = wRobot then parseRobot T tiles st
  else if (peek T st).text = wPut then parsePut T tiles st
  else if (peek T st).text = wWhen then parseRule T st
  else .error (failAt T st)
/-- the statements, f turns at most -/
def parseStmts (tiles : Nat) : Nat → PSt → PR Unit
  | 0, st => .ok ((), st)
  | f + 1, st => if (peek T st).kind = .fin then .ok ((), st) else match parseStmt T tiles st with
    | .error e => .error e
    | .ok (_, s1) => parseStmts tiles f s1
def st0 : PSt := ⟨0, [], [], [], [], [], [], []⟩
/-- the whole: tiles, the state at the end -/
def parsePlan : PR Nat := match takeWord T wCorridor st0 with
  | .error e => .error e
  | .ok (_, s1) => match take T .number s1 with
    | .error e => .error e
    | .ok (t, s2) => match takeWord T wSemi s2 with
      | .error e => .error e
      | .ok (_, s3) => match parseNames T false (if 1 ≤ numVal t.text ∧ numVal t.text ≤ 16 then s3 else s3.found wCorridor t) with
        | .error e => .error e
        | .ok (_, s4) => match parseNames T true s4 with
          | .error e => .error e
          | .ok (_, s5) => match parseRobot T (numVal t.text) s5 with
            | .error e => .error e
            | .ok (_, s6) => match parseStmts T (numVal t.text) T.length s6 with
              | .error e => .error e
              | .ok (_, s7) => .ok (numVal t.text, s7)
end
structure Plan where
  signs : List Cs
  moods : List Cs
  floor : List Nat
  robots : List (Nat × Bool)
  rules : List ((Nat × Nat) × Rule)
  deriving DecidableEq
def planOf (tiles : Nat) (st : PSt) : Plan := ⟨st.signs, st.moods, (List.range tiles).map fun i => (getA st.spots i).getD 0, st.robots, st.rules⟩
/-- what load does: a SyntaxFault at a place; else the tiles and the parser's last state -/
def loads (text : Cs) : Except (Nat × Nat) (Nat × PSt) := match tokenize text with
  | .error e => .error e
  | .ok T => parsePlan T
def txt (s : String) : Cs := s.toList.map Char.toNat
def k18 : Cs := txt "corridor 2; signs no; moods go; robot 0 right; when go no leave no on go;"
example : (match loads k18 with | .ok (n, st) => decide (planOf n st = ⟨[txt "no"], [txt "go"], [0, 0], [(0, true)], [((0, 0), ⟨0, wOn, 0⟩)]⟩) && st.faults.isEmpty | .error _ => false) = true := by decide +kernel
example : (match loads (txt "corridor") with | .ok _ => false | .error e => decide (e = (1, 0))) = true := by decide +kernel
end Sw

end

section
set_option maxRecDepth 100000
set_option maxHeartbeats 4000000
/-! what the head asks of the program's objects, ahead of the walks -/
namespace Sw
open PySem PySem.Spec PyProof.Rows L2 SwA
def excCB (K : PySem.W.Frag) (x : Str) (fields : List Str) : Bool :=
  (He.Fa.glo x).ok K && (oexB K (He.ga K x) && (He.eqO (PySem.W.findIn K (.ref (He.ga K x)) "__init__") (some (some (.ref (He.ma K (He.ga K x) "__init__")))) &&
    (decide (PySem.W.typeIn K (.ref (He.ma K (He.ga K x) "__init__")) = some (.type "function")) && fields.all fun f => He.eqO (PySem.W.findIn K (.ref (He.ga K x)) f) (some none))))
def mkCB (K : PySem.W.Frag) (x : Str) (fields : List Str) : Bool := (He.Fa.glo x).ok K && ((He.Fa.mkr x).ok K && ((He.Fa.cls x).ok K && fields.all fun f => (He.Fa.noat x f).ok K))
abbrev tokF : List Str := ["kind", "text", "line", "column"]
abbrev parN : List Str := ["tokens", "at", "faults", "signs", "moods", "robots", "rules", "pairs", "spots"]
abbrev planF : List Str := ["signs", "moods", "floor", "robots", "rules"]
def lenKV (e : DictEntry) : Option (Str × Int) := match e.key, e.val with
  | .str x _, .int i _ => some (x, i)
  | _, _ => none
def lensL : List (Option (Str × Int)) := [some ("step", 2), some ("put", 3), some ("turn", 2), some ("undo", 1), some ("redo", 1)]
def lenB (K : PySem.W.Frag) (a : Addr) : Bool := match K.lookup a with
  | some ⟨_, _, .dict es _, _⟩ => decide (es.toList.map lenKV = lensL)
  | _ => false
def clsN : List Str := ["InvalidTick", "InvalidNumber", "UnknownSign", "TooLong", "OtherCorridor", "Contradiction", "InvalidName", "UnknownName", "SyntaxFault", "CheckFault", "InvalidCode", "InvalidOperation"]
def xcB (K : PySem.W.Frag) (D : Addr) : Bool := He.eqO (PySem.W.findIn K (.ref D) "__getattribute__") (some (some (.builtin "BaseException.__getattribute__"))) && (He.eqO (PySem.W.findIn K (.ref D) "__getattr__") (some none) && (decide (PySem.W.subIn K (.ref D) (.type "BaseException") = some true) && (PySem.W.hasDictIn K D &&
  (He.eqO (PySem.W.findIn K (.ref D) "__class__") (some (some (.builtin "object.__class__"))) && (He.eqO (PySem.W.specialIn K (.builtin "object.__class__") "__get__") (some (some (.builtin "getset_descriptor.__get__"))) && (decide (PySem.W.takesIn K (.builtin "object.__class__") = some true) && decide (PySem.W.mroIn K D (.type "object") = some true)))))))
def ekB (K : PySem.W.Frag) (D : Str) (j : Nat) : Bool := xcB K (He.ga K D) && (decide (PySem.W.exmOne K (.ref (He.ga K D)) (.ref (He.ga K "SweepError")) = some true) && (decide (PySem.W.kitOne K (.ref (He.ga K D)) (.type "ValueError") = some true) && clsN.zipIdx.all fun q => decide (PySem.W.kitOne K (.ref (He.ga K D)) (.ref (He.ga K q.1)) = some (decide (q.2 = j)))))
end Sw

end

section
set_option maxRecDepth 100000
set_option maxHeartbeats 4000000
/-! what the head asks: instances of an own class, asked by isinstance -/
namespace Sw
open PySem PySem.Spec PyProof.Rows L2 SwA
def isiB (K : PySem.W.Frag) (C : Addr) : Bool := He.eqO (PySem.W.findIn K (.ref C) "__class__") (some (some (.builtin "object.__class__"))) && (He.eqO (PySem.W.specialIn K (.builtin "object.__class__") "__get__") (some (some (.builtin "getset_descriptor.__get__"))) &&
  (decide (PySem.W.takesIn K (.builtin "object.__class__") = some true) && (decide (PySem.W.mroIn K C (.type "object") = some true) && decide (PySem.W.kitOne K (.ref C) (.ref C) = some true))))
structure IsiC (K : PySem.W.Frag) (C : Addr) : Prop where
  ha : PySem.W.findIn K (.ref C) "__class__" = some (some (.builtin "object.__class__"))
  hn : PySem.W.specialIn K (.builtin "object.__class__") "__get__" = some (some (.builtin "getset_descriptor.__get__"))
  ht : PySem.W.takesIn K (.builtin "object.__class__") = some true
  hm : PySem.W.mroIn K C (.type "object") = some true
  kit : PySem.W.kitOne K (.ref C) (.ref C) = some true
theorem isiB_ok {K : PySem.W.Frag} {C : Addr} (h : isiB K C = true) : IsiC K C := by
  obtain ⟨h1, h⟩ := He.ba h
  obtain ⟨h2, h⟩ := He.ba h
  obtain ⟨h3, h⟩ := He.ba h
  obtain ⟨h4, h5⟩ := He.ba h
  exact ⟨He.eqO_ok h1, He.eqO_ok h2, of_decide_eq_true h3, of_decide_eq_true h4, of_decide_eq_true h5⟩
end Sw

end

section
set_option maxRecDepth 100000
set_option maxHeartbeats 0
/-! the head: the run and what is asked of it -/
namespace Sw
open PySem PySem.Spec PyProof.Rows L2 SwA
def dd0 : He.DefD := ⟨("SyntaxFault", some "__init__"), "__init__", "SyntaxFault.__init__", defArgs s_SyntaxFault_init, defBody s_SyntaxFault_init, defScope s_SyntaxFault_init, [], []⟩
def dd1 : He.DefD := ⟨("CheckFault", some "__init__"), "__init__", "CheckFault.__init__", defArgs s_CheckFault_init, defBody s_CheckFault_init, defScope s_CheckFault_init, [], []⟩
def dd2 : He.DefD := ⟨("InvalidCode", some "__init__"), "__init__", "InvalidCode.__init__", defArgs s_InvalidCode_init, defBody s_InvalidCode_init, defScope s_InvalidCode_init, [], []⟩
def dd3 : He.DefD := ⟨("InvalidOperation", some "__init__"), "__init__", "InvalidOperation.__init__", defArgs s_InvalidOperation_init, defBody s_InvalidOperation_init, defScope s_InvalidOperation_init, [], []⟩
def dd4 : He.DefD := ⟨("Token", some "__init__"), "__init__", "Token.__init__", defArgs s_Token_init, defBody s_Token_init, defScope s_Token_init, [], []⟩
def dd5 : He.DefD := ⟨("run_end", none), "run_end", "run_end", defArgs s_run_end, defBody s_run_end, defScope s_run_end, [], []⟩
def dd6 : He.DefD := ⟨("read_token", none), "read_token", "read_token", defArgs s_read_token, defBody s_read_token, defScope s_read_token, [], []⟩
def dd7 : He.DefD := ⟨("tokenize", none), "tokenize", "tokenize", defArgs s_tokenize, defBody s_tokenize, defScope s_tokenize, [], []⟩
def dd8 : He.DefD := ⟨("Plan", some "__init__"), "__init__", "Plan.__init__", defArgs s_Plan_init, defBody s_Plan_init, defScope s_Plan_init, [], []⟩
def dd9 : He.DefD := ⟨("Plan", some "with_floor"), "with_floor", "Plan.with_floor", defArgs s_Plan_with_floor, defBody s_Plan_with_floor, defScope s_Plan_with_floor, [], []⟩
def dd10 : He.DefD := ⟨("Plan", some "with_robots"), "with_robots", "Plan.with_robots", defArgs s_Plan_with_robots, defBody s_Plan_with_robots, defScope s_Plan_with_robots, [], []⟩
def dd11 : He.DefD := ⟨("Parser", some "__init__"), "__init__", "Parser.__init__", defArgs s_Parser_init, defBody s_Parser_init, defScope s_Parser_init, [], []⟩
def dd12 : He.DefD := ⟨("Parser", some "peek"), "peek", "Parser.peek", defArgs s_Parser_peek, defBody s_Parser_peek, defScope s_Parser_peek, [], []⟩
def dd13 : He.DefD := ⟨("Parser", some "fail"), "fail", "Parser.fail", defArgs s_Parser_fail, defBody s_Parser_fail, defScope s_Parser_fail, [], []⟩
def dd14 : He.DefD := ⟨("Parser", some "found"), "found", "Parser.found", defArgs s_Parser_found, defBody s_Parser_found, defScope s_Parser_found, [], []⟩
def dd15 : He.DefD := ⟨("Parser", some "take"), "take", "Parser.take", defArgs s_Parser_take, defBody s_Parser_take, defScope s_Parser_take, [], []⟩
def dd16 : He.DefD := ⟨("Parser", some "take_word"), "take_word", "Parser.take_word", defArgs s_Parser_take_word, defBody s_Parser_take_word, defScope s_Parser_take_word, [], []⟩
def dd17 : He.DefD := ⟨("Parser", some "take_keyword"), "take_keyword", "Parser.take_keyword", defArgs s_Parser_take_keyword, defBody s_Parser_take_keyword, defScope s_Parser_take_keyword, [], []⟩
def dd18 : He.DefD := ⟨("Parser", some "parse_names"), "parse_names", "Parser.parse_names", defArgs s_Parser_parse_names, defBody s_Parser_parse_names, defScope s_Parser_parse_names, [], []⟩
def dd19 : He.DefD := ⟨("Parser", some "number_of"), "number_of", "Parser.number_of", defArgs s_Parser_number_of, defBody s_Parser_number_of, defScope s_Parser_number_of, [], []⟩
def dd20 : He.DefD := ⟨("Parser", some "tile_of"), "tile_of", "Parser.tile_of", defArgs s_Parser_tile_of, defBody s_Parser_tile_of, defScope s_Parser_tile_of, [], []⟩
def dd21 : He.DefD := ⟨("Parser", some "parse_robot"), "parse_robot", "Parser.parse_robot", defArgs s_Parser_parse_robot, defBody s_Parser_parse_robot, defScope s_Parser_parse_robot, [], []⟩
def dd22 : He.DefD := ⟨("Parser", some "parse_put"), "parse_put", "Parser.parse_put", defArgs s_Parser_parse_put, defBody s_Parser_parse_put, defScope s_Parser_parse_put, [], []⟩
def dd23 : He.DefD := ⟨("Parser", some "parse_rule"), "parse_rule", "Parser.parse_rule", defArgs s_Parser_parse_rule, defBody s_Parser_parse_rule, defScope s_Parser_parse_rule, [], []⟩
def dd24 : He.DefD := ⟨("Parser", some "parse_plan"), "parse_plan", "Parser.parse_plan", defArgs s_Parser_parse_plan, defBody s_Parser_parse_plan, defScope s_Parser_parse_plan, [], []⟩
def dd25 : He.DefD := ⟨("load", none), "load", "load", defArgs s_load, defBody s_load, defScope s_load, [], []⟩
def dd26 : He.DefD := ⟨("format_parsed", none), "format_parsed", "format_parsed", defArgs s_format_parsed, defBody s_format_parsed, defScope s_format_parsed, [], []⟩
def dd27 : He.DefD := ⟨("format_plan", none), "format_plan", "format_plan", defArgs s_format_plan, defBody s_format_plan, defScope s_format_plan, [], []⟩
def dd28 : He.DefD := ⟨("signs_of", none), "signs_of", "signs_of", defArgs s_signs_of, defBody s_signs_of, defScope s_signs_of, [], []⟩
def dd29 : He.DefD := ⟨("_law_random", none), "_law_random", "_law_random", defArgs s__law_random, defBody s__law_random, defScope s__law_random, [], []⟩
def dd30 : He.DefD := ⟨("_law_below", none), "_law_below", "_law_below", defArgs s__law_below, defBody s__law_below, defScope s__law_below, [], []⟩
def dd31 : He.DefD := ⟨("_law_more", none), "_law_more", "_law_more", defArgs s__law_more, defBody s__law_more, defScope s__law_more, [], []⟩
def dd32 : He.DefD := ⟨("_law_faulty", none), "_law_faulty", "_law_faulty", defArgs s__law_faulty, defBody s__law_faulty, defScope s__law_faulty, [], []⟩
def dd33 : He.DefD := ⟨("_law_error_of", none), "_law_error_of", "_law_error_of", defArgs s__law_error_of, defBody s__law_error_of, defScope s__law_error_of, [], []⟩
def dd34 : He.DefD := ⟨("law", none), "law", "law", defArgs s_law, defBody s_law, defScope s_law, [], []⟩
def waL : List He5.DefA := []
def fn0 : List He.DefD := [dd0, dd1, dd2, dd3, dd4, dd5, dd6, dd7, dd8, dd9, dd10, dd11, dd12, dd13, dd14, dd15, dd16, dd17, dd18, dd19, dd20, dd21, dd22, dd23, dd24, dd25, dd26, dd27, dd28, dd29]
def fn1 : List He.DefD := [dd30, dd31, dd32, dd33, dd34]
def fnL : List He.DefD := fn0 ++ fn1
def fa0 : List He.Fa := [.free "len", .free "abs", .free "list", .free "tuple", .free "range", .glo "_law_random", .glo "_law_below", .free "str", .glo "_law_more", .glo "_law_faulty", .glo "SweepError", .free "enumerate", .glo "run_end", .glo "read_token", .glo "tokenize", .str "SIGNS" ";", .str "DIGITS" "0123456789", .str "LETTERS" "abcdefghijklmnopqrstuvwxyz", .str "SPACES" " \n", .str "SIGN" "sign", .str "NUMBER" "number", .str "KEYWORD" "keyword", .str "NAME" "name", .str "END" "end", .int "MAX_DIGITS" 2, .int "MAX_LETTERS" 8, .glo "KEYWORDS", .free "int", .meth "Parser" "peek", .meth "Parser" "fail"]
def fa1 : List He.Fa := [.meth "Parser" "found", .meth "Parser" "take", .meth "Parser" "take_word", .meth "Parser" "take_keyword", .meth "Parser" "parse_names", .meth "Parser" "number_of", .meth "Parser" "tile_of", .meth "Parser" "parse_robot", .meth "Parser" "parse_put", .meth "Parser" "parse_rule", .meth "Parser" "parse_plan", .int "MAX_TILES" 16, .int "MAX_SIGNS" 4, .int "MAX_MOODS" 6, .int "MAX_ROBOTS" 3, .glo "WAYS", .glo "MOVES", .glo "load", .free "min", .free "sorted", .glo "format_parsed", .glo "format_plan", .glo "signs_of", .free "isinstance", .free "ValueError", .glo "_law_error_of", .glo "law"]
def faL : List He.Fa := fa0 ++ fa1
def fclsB (K : PySem.W.Frag) : Bool := match PySem.W.findCls K (.ref (He.ga K "SweepError")) (.type "type") "__init__" with
  | some (.val (.builtin n)) => n == "ValueError.__init__"
  | _ => false
def mvB (K : PySem.W.Frag) : Bool := match K.lookup (He.ga K "MOVES") with
  | some ⟨.type "tuple", none, _, _⟩ => true
  | _ => false
def exB (K : PySem.W.Frag) : Bool := PySem.W.readsIn K (He.ga K "SweepError") (.type "type") && (He.eqO (PySem.W.specialIn K (.ref (He.ga K "SweepError")) "__getattribute__") (some (some (.builtin "type.__getattribute__"))) && (fclsB K && (excCB K "SyntaxFault" ["line", "column"] && (mkCB K "Token" tokF && (He.tupB K "KEYWORDS" (kws.map fun w => He.Dv.str (sx w)) && (mkCB K "Parser" parN && (decide (He.ga K "Parser" ≠ He.ga K "Token") && (He.tupB K "WAYS" (ways.map fun w => He.Dv.str (sx w)) && (He.tupB K "MOVES" (moves.map fun w => He.Dv.str (sx w)) && (mkCB K "Plan" planF && (excCB K "CheckFault" ["reason", "line", "column"] && ((clsN.all fun n => (He.Fa.glo n).ok K) && (ekB K "CheckFault" 9 && (L2.xfB K (He.ga K "CheckFault")))))))))))))))
abbrev R : PySem.W.OpenRow := PySem.W.OpenLaw.row PySem.Challenge.rw_sweeprota_k02_check_faults
def tsL : List He.Tab := []
def codeW (g : Addr → Option Obj) (a : Addr) : List Addr := match g a with
  | some ⟨_, _, .func fd, _⟩ => He.refV fd.code
  | _ => []
def asZ (g : Addr → Option Obj) (as : List Addr) : List Addr := as ++ (cStatics :: waL.flatMap fun d => codeW g (d.at_ (He.frG g as)))
def rfQ (o : Obj) : List Addr := (match o.dict with
  | some d => [d]
  | none => []) ++ match o.data with
  | .seq its _ => its.toList.flatMap He.refV
  | .dict es _ => es.toList.flatMap fun e => He.refV e.val
  | .func fd => He.refV fd.code ++ He.refV fd.defaults
  | .cls cd => [cd.ns]
  | .fields vs => vs.toList.flatMap He.refV
  | _ => []
def grQ (g : Addr → Option Obj) (as : List Addr) : List Addr := as.flatMap fun a => match g a with
  | some o => rfQ o
  | none => []
def asQ (g : Addr → Option Obj) : List Addr := mainGlobals :: (grQ g [mainGlobals] ++ (grQ g (grQ g [mainGlobals]) ++ (grQ g (grQ g (grQ g [mainGlobals])) ++ grQ g (grQ g (grQ g (grQ g [mainGlobals]))))))
def asY (g : Addr → Option Obj) : List Addr := asZ g (asQ g)
abbrev AlY : Type := He.AlT × He.AlD × Bool
def tfL : List He.Defn := [("law", none)]
def frY (g : Addr → Option Obj) : PySem.W.Frag := He.frT g (asY g)
def obsY (g : Addr → Option Obj) : AlY := (He.obsT faL fnL tsL (frY g), He5.obsA [] waL (frY g), exB (frY g) && He.tabsB g tfL (frY g))
/-- what is told; the law's table is empty and not in K -/
structure SaysY (w : World) (h : Heap) (K : PySem.W.Frag) : Prop where
  t : He.SaysT faL fnL tsL w K
  a : He5.SaysA [] waL K
  more : exB K = true
  hd : PySem.W.codeHdIn K (He.cT K ("law", none)).1 (He.cT K ("law", none)).2 = true
  out : K.lookup (He.cT K ("law", none)).2 = none
  empty : h.get? (He.cT K ("law", none)).2 = some { cls := .none, data := .fields #[] }
def valY (w : World) : AlY := (He.valT fnL tsL w, He5.valA waL, true)
theorem saysY_of {w : World} {h : Heap} (e : obsY h.get? = valY w) : SaysY w h (frY h.get?) := by
  have e1 : He.SaysT faL fnL tsL w (frY h.get?) := congrArg (fun z : AlY => z.1) e
  have e2 : He5.SaysA [] waL (frY h.get?) := congrArg (fun z : AlY => z.2.1) e
  have e3 : (exB (frY h.get?) && He.tabsB h.get? tfL (frY h.get?)) = true := congrArg (fun z : AlY => z.2.2) e
  obtain ⟨h1, h2⟩ := He.ba e3
  obtain ⟨h3, h4⟩ := He.ba (List.all_eq_true.mp h2 ("law", none) (List.mem_singleton.mpr rfl))
  obtain ⟨o, q, z⟩ : ∃ o, h.get? (He.cT (frY h.get?) ("law", none)).2 = some o ∧ He.emptyTab o = true := by
    cases q : h.get? (He.cT (frY h.get?) ("law", none)).2 with
    | none =>
      rw [q] at h4
      cases h4
    | some o =>
      rw [q] at h4
      exact ⟨o, rfl, h4⟩
  exact ⟨e1, e2, h1, h3, He.frT_none q z, by rw [q, He.emptyTab_eq z]⟩
def hk : PySem.W.Hook where
  α := AlY
  obs := fun s => obsY s.heap.get?
  val := valY
  says := fun w h => ∃ K : PySem.W.Frag, K.In h ∧ SaysY w h K
  of := fun _ _ e => ⟨_, He.frT_in, saysY_of e⟩
  keeps := fun _ _ _ ⟨K, hK, c⟩ k => ⟨K, PySem.W.Frag.In.keeps hK k, ⟨c.t, c.a, c.more, c.hd, c.out, k _ _ c.empty⟩⟩
def ob (s : PySem.W.SharedT) : AlY := obsY (HandSHeadRun.getT s)
theorem ob_eq (s : PySem.W.SharedT) : ob s = hk.obs s.abs := by
  have e : HandSHeadRun.getT s = s.abs.heap.get? := funext (HandSHeadRun.getT_eq s)
  unfold ob
  rw [e] <;> rfl
def nm0 : List PySem.Str := ["_wall", "SweepError", "SyntaxFault", "CheckFault", "InvalidTick", "InvalidNumber", "UnknownSign", "TooLong", "OtherCorridor", "Contradiction", "InvalidCode", "InvalidName", "UnknownName", "InvalidOperation", "WAYS", "MOVES", "KEYWORDS", "LETTERS", "DIGITS", "SPACES", "SIGNS", "MAX_LETTERS", "MAX_DIGITS", "NAME", "NUMBER", "KEYWORD", "SIGN", "END", "Token", "run_end"]
def nm1 : List PySem.Str := ["read_token", "tokenize", "MAX_TILES", "MAX_SIGNS", "MAX_MOODS", "MAX_ROBOTS", "Plan", "Parser", "load", "format_parsed", "format_plan", "signs_of", "_law_random", "_law_below", "_law_more", "_law_faulty", "_law_error_of"]
def names : List PySem.Str := nm0 ++ nm1
theorem run (w : World) : HandSHeadRun.RunEq R (PySem.W.view R.prog [52]) hk ob 60000 names w := by
  intro os
  kernel_rfl
end Sw

end

section
set_option maxRecDepth 100000
set_option maxHeartbeats 4000000
/-! dicts whose keys are tuples of tuples -/
namespace SwA
open PySem PySem.Spec PyProof.Rows L2
mutual
/-- the value v is the key k, by tracked tuples -/
inductive Nk (H : Hp) : NestedKey → V → Prop
  | bl (b : Bool) : Nk H (.num (if b = true then 1 else 0)) (.bl b)
  | int (i : Int) : Nk H (.num i) (.int i)
  | str (x : Str) : Nk H (.text x) (.str x)
  | tup {a : Addr} {vs : List V} {ks : List NestedKey} : H a = some (.tup vs) → NkAll H ks vs → Nk H (.tup ks) (.ref a)
inductive NkAll (H : Hp) : List NestedKey → List V → Prop
  | nil : NkAll H [] []
  | cons {k : NestedKey} {v : V} {ks : List NestedKey} {vs : List V} : Nk H k v → NkAll H ks vs → NkAll H (k :: ks) (v :: vs)
end
mutual
theorem Nk.keep {H H' : Hp} (s : ∀ a xs, H a = some (.tup xs) → H' a = some (.tup xs)) : ∀ {k : NestedKey} {v : V}, Nk H k v → Nk H' k v
  | _, _, .bl b => .bl b
  | _, _, .int i => .int i
  | _, _, .str x => .str x
  | _, _, .tup h t => .tup (s _ _ h) (NkAll.keep s t)
theorem NkAll.keep {H H' : Hp} (s : ∀ a xs, H a = some (.tup xs) → H' a = some (.tup xs)) : ∀ {ks : List NestedKey} {vs : List V}, NkAll H ks vs → NkAll H' ks vs
  | _, _, .nil => .nil
  | _, _, .cons h t => .cons (Nk.keep s h) (NkAll.keep s t)
end
section
variable {P : Program} {w : World} {H : Hp} {h : Heap}
mutual
theorem Nk.is (ok : HOk P w H h) : ∀ {k : NestedKey} {v : V} {u : Value}, Nk H k v → RelV v u → NestedIs h k u
  | _, _, u, .bl b, r => by
    obtain rfl : u = Value.bool b := r
    exact .bool rfl
  | _, _, u, .int i, r => by
    obtain ⟨t, rfl⟩ := (show ∃ t, u = Value.int i t from r)
    exact .int i t
  | _, _, u, .str x, r => by
    obtain ⟨t, rfl⟩ := (show ∃ t, u = Value.str x t from r)
    exact .text x t
  | _, _, u, .tup (a := a) (vs := vs) e t, r => by
    obtain rfl : u = Value.ref a := r
    obtain ⟨_, its, rl, o, h1, h2, n, h3⟩ := (show ObjOk P w H h a (.tup vs) from ok a _ e)
    exact .tup h1 h2 h3 (by simpa using NkAll.is ok t rl)
theorem NkAll.is (ok : HOk P w H h) : ∀ {ks : List NestedKey} {vs : List V} {us : List Value}, NkAll H ks vs → Vals vs us → NestedAll h ks us
  | _, _, _, .nil, r => by cases r; exact .nil
  | _, _, _, .cons hk t, r => by
    cases r with
    | cons r1 r2 => exact .cons (Nk.is ok hk r1) (NkAll.is ok t r2)
end
end
/-- a key's tuple -/
def KeyN (H : Hp) (k : NestedKey) (b : Addr) : Prop := Nk H k (.ref b) ∧ k.depth ≤ 8
theorem KeyN.keep {H H' : Hp} (s : ∀ a xs, H a = some (.tup xs) → H' a = some (.tup xs)) {k : NestedKey} {b : Addr} (h : KeyN H k b) : KeyN H' k b := ⟨h.1.keep s, h.2⟩
theorem KeyN.is {P : Program} {w : World} {H : Hp} {h : Heap} (ok : HOk P w H h) {k : NestedKey} {b : Addr} (x : KeyN H k b) : (nestedKind P w).is h k b := ⟨x.1.is ok rfl, x.2⟩
abbrev KvN := NestedKey × Addr × V
abbrev RelN : List KvN → List (NestedKey × Addr × Value) → Prop := Paired fun p q => p.1 = q.1 ∧ p.2.1 = q.2.1 ∧ RelV p.2.2 q.2.2
/-- the dict's own object -/
def DNo (P : Program) (w : World) (a : Addr) (kvs : List KvN) : HO := .ext fun h => kvs.length ≤ sizeLine ∧ (a == sysModules) = false ∧ ∃ xs, RelN kvs xs ∧
  ∃ o es ep, h.get? a = some o ∧ o.ExactDict ∧ o.data = .dict es ep ∧ es.toList = xs.map (entryOfKey (nestedKind P w)) ∧ (xs.map (·.1)).Nodup
theorem dno_ok {P : Program} {w : World} {H : Hp} {h : Heap} {a : Addr} {kvs : List KvN} (z : kvs.length ≤ sizeLine) (y : (a == sysModules) = false) {xs : List (NestedKey × Addr × Value)} (r : RelN kvs xs) {o : Obj} {es : Array DictEntry} {ep : Nat}
    (h1 : h.get? a = some o) (h2 : o.ExactDict) (h3 : o.data = .dict es ep) (h4 : es.toList = xs.map (entryOfKey (nestedKind P w))) (h5 : (xs.map (·.1)).Nodup) : ObjOk P w H h a (DNo P w a kvs) :=
  ⟨⟨z, y, xs, r, o, es, ep, h1, h2, h3, h4, h5⟩, ⟨o, h1⟩, fun g1 g2 ⟨z, y, xs, r, o, es, ep, h1, h2, h3, h4, h5⟩ k => ⟨z, y, xs, r, o, es, ep, k o h1, h2, h3, h4, h5⟩⟩
/-- a dict with nested keys -/
def DictN (P : Program) (w : World) (H : Hp) (a : Addr) (kvs : List KvN) : Prop := H a = some (DNo P w a kvs) ∧ ∀ x ∈ kvs, KeyN H x.1 x.2.1
theorem DictN.keep {P : Program} {w : World} {H H' : Hp} {a : Addr} {kvs : List KvN} (h : DictN P w H a kvs) (s : ∀ b xs, H b = some (.tup xs) → H' b = some (.tup xs)) (e : H' a = H a) : DictN P w H' a kvs := ⟨e.trans h.1, fun x hx => (h.2 x hx).keep s⟩
theorem DictN.same {P : Program} {w : World} {H H' : Hp} {a : Addr} {kvs : List KvN} (h : DictN P w H a kvs) (s : Same H H') : DictN P w H' a kvs := ⟨s _ _ h.1, fun x hx => (h.2 x hx).keep fun _ _ z => s _ _ z⟩
theorem paired_append {α β : Type} {F : α → β → Prop} : ∀ {a : List α} {b : List β} {c : List α} {d : List β}, Paired F a b → Paired F c d → Paired F (a ++ c) (b ++ d)
  | _, _, _, _, .nil, h => h
  | _, _, _, _, .cons x t, h => .cons x (paired_append t h)
def valN (kvs : List KvN) (k : NestedKey) : Option V := (kvs.find? fun x => decide (x.1 = k)).map (·.2.2)
theorem RelN.val {kvs : List KvN} {xs : List (NestedKey × Addr × Value)} (r : RelN kvs xs) (k : NestedKey) : RelO (valN kvs k) ((atKey xs k).map (·.2)) := by
  induction r with
  | nil => exact True.intro
  | @cons p q ps qs h t ih =>
    by_cases e : p.1 = k
    · have e2 : q.1 = k := by rw [← h.1]; exact e
      have a1 : valN (p :: ps) k = some p.2.2 := by simp [valN, e]
      have a2 : (atKey (q :: qs) k).map (·.2) = some q.2.2 := by simp [atKey, e2]
      rw [a1, a2]
      exact h.2.2
    · have e2 : ¬ q.1 = k := by rw [← h.1]; exact e
      have a1 : valN (p :: ps) k = valN ps k := by simp [valN, e]
      have a2 : atKey (q :: qs) k = atKey qs k := by simp [atKey, e2]
      rw [a1, a2]
      exact ih
theorem RelN.keys {P : Program} {w : World} {H : Hp} {h : Heap} (ok : HOk P w H h) {kvs : List KvN} {xs : List (NestedKey × Addr × Value)} (r : RelN kvs xs) : (∀ x ∈ kvs, KeyN H x.1 x.2.1) → ∀ x ∈ xs, (nestedKind P w).is h x.1 x.2.1 := by
  induction r with
  | nil => intro _ x hx; exact nomatch hx
  | @cons p q ps qs hq t ih =>
    intro hk x hx
    rcases List.mem_cons.mp hx with e | hx
    · subst e
      have := (hk p List.mem_cons_self).is ok
      rw [hq.1, hq.2.1] at this
      exact this
    · exact ih (fun y hy => hk y (List.mem_cons_of_mem _ hy)) x hx
theorem DictN.rd {P : Program} {w : World} {H : Hp} {h : Heap} {a : Addr} {kvs : List KvN} (ok : HOk P w H h) (d : DictN P w H a kvs) : kvs.length ≤ sizeLine ∧ (a == sysModules) = false ∧ ∃ xs, RelN kvs xs ∧ h.DictOfH (nestedKind P w) a xs := by
  obtain ⟨⟨z, y, xs, r, o, es, ep, h1, h2, h3, h4, h5⟩, _⟩ := (show ObjOk P w H h a (DNo P w a kvs) from ok a _ d.1)
  exact ⟨z, y, xs, r, o, es, ep, h1, h2, h3, h4, r.keys ok d.2, h5⟩
def tNGet (P : Program) (w : World) (td ty : TE) : TE := fun σ H Q => td σ H fun x H1 => ty σ H1 fun y H2 => ∃ a kvs k b v, x = .ref a ∧ y = .ref b ∧ DictN P w H2 a kvs ∧ KeyN H2 k b ∧ valN kvs k = some v ∧ Q v H2
def tNIn (P : Program) (w : World) (ty td : TE) : TE := fun σ H Q => ty σ H fun y H1 => td σ H1 fun x H2 => ∃ a kvs k b, x = .ref a ∧ y = .ref b ∧ DictN P w H2 a kvs ∧ KeyN H2 k b ∧ Q (.bl (valN kvs k).isSome) H2
/-- d[y] = v, y new -/
def sNPut (P : Program) (w : World) (td ty tv : TE) : TS := fun D σ H => tv σ H fun v H1 => td σ H1 fun x H2 => ty σ H2 fun y H3 => ∃ a kvs k b, x = .ref a ∧ y = .ref b ∧ DictN P w H3 a kvs ∧ KeyN H3 k b ∧ valN kvs k = none ∧ kvs.length < sizeLine ∧ D.nx σ (upd H3 a (DNo P w a (kvs ++ [(k, b, v)])))
def tDNewN (P : Program) (w : World) : TE := fun _ H Q => ∀ p, H p = none → Q (.ref p) (upd H p (DNo P w p []))
section
variable {X : Cx} {o i e value : Expr} {pos pos' tpos : Pos} {td ty tv : TE}
theorem room8 {A : Around} (hu : A.units + 9 < cLine) : (A.in1).units + 8 < cLine := by
  rw [Around.in1_units]
  omega
theorem pe_nget {P : Program} {w : World} (hP : X.prog = P) (hw : X.w = w) (hu : X.A.units + 9 < cLine) (ho : PE X o td) (hi : PE X i ty) (hs : NoSl i) : PE X (.Subscript o i pos) (tNGet P w td ty) := by
  subst hP hw
  refine ⟨fun pins s σ H Q I h => ?_⟩
  refine subD_of PySem.F.slot_dict_getitem.lookup hs (thn (ho.run pins s σ H _ I h) fun u s1 ⟨x, H1, I1, rx, q1⟩ => thn (hi.run pins s1 σ H1 _ I1 q1) fun iv s2 ⟨y, H2, I2, ry, a, kvs, k, b, v, ex, ey, dn, kn, hv, q2⟩ => ?_)
  subst ex ey
  obtain rfl : u = Value.ref a := rx
  obtain rfl : iv = Value.ref b := ry
  obtain ⟨z, hd, xs, rel, dd⟩ := dn.rd I2.hok
  obtain ⟨w', hw, rw'⟩ := RelO.some_of (v := v) (o := (atKey xs k).map (·.2)) (by rw [← hv]; exact rel.val k)
  obtain ⟨p, hp, hp2⟩ := Option.map_eq_some_iff.mp hw
  refine ⟨dd.typeIs, wpAny_getItem_heap (knd := nestedKind X.prog X.w) (room8 hu) (kn.is I2.hok) dd hp ?_⟩
  rw [hp2]
  exact ⟨v, H2, I2.tok _, rw', q2⟩
theorem pc_nin {P : Program} {w : World} (hP : X.prog = P) (hw : X.w = w) (hu : X.A.units + 9 < cLine) (hi : PE X i ty) (ho : PE X o td) : PC X .In i o (tNIn P w ty td) := by
  subst hP hw
  refine ⟨fun pins s σ H Q I h => ?_⟩
  refine thn (hi.run pins s σ H _ I h) fun iv s1 ⟨y, H1, I1, ry, q1⟩ => thn (ho.run pins s1 σ H1 _ I1 q1) fun u s2 ⟨x, H2, I2, rx, a, kvs, k, b, ex, ey, dn, kn, q2⟩ => ?_
  subst ex ey
  obtain rfl : u = Value.ref a := rx
  obtain rfl : iv = Value.ref b := ry
  obtain ⟨z, hd, xs, rel, dd⟩ := dn.rd I2.hok
  refine wpAny_in_heap (knd := nestedKind X.prog X.w) (room8 hu) (kn.is I2.hok) hd dd ?_
  have q := (rel.val k).isSome_eq
  rw [Option.isSome_map] at q
  rw [← q]
  exact ⟨.bl (valN kvs k).isSome, H2, I2.tok _, rfl, q2⟩
theorem ps_nput {P : Program} {w : World} (hP : X.prog = P) (hw : X.w = w) (hu : X.A.units + 9 < cLine) (ho : PE X o td) (hi : PE X i ty) (hv : PE X value tv) (hs : swapsWith value (some (.Subscript o i pos')) pos.line X.env = pure false) :
    PS X (.Assign [.Subscript o i pos'] value pos) (sNPut P w td ty tv) := by
  subst hP hw
  refine ⟨fun pins s σ H D I h => ?_⟩
  refine wpAny_Assign_Subscript (thn (hv.run pins s σ H _ I h) fun r s1 ⟨v, H1, I1, rv, q1⟩ => thn (ho.run pins s1 σ H1 _ I1 q1) fun u s2 ⟨x, H2, I2, rx, q2⟩ => thn (hi.run pins s2 σ H2 _ I2 q2) fun iv s3 ⟨y, H3, I3, ry, a, kvs, k, b, ex, ey, dn, kn, hno, hl, q3⟩ => ?_) hs
  subst ex ey
  obtain rfl : u = Value.ref a := rx
  obtain rfl : iv = Value.ref b := ry
  obtain ⟨z, hd, xs, rel, dd⟩ := dn.rd I3.hok
  have hz : xs.length ≤ sizeLine := by rw [← Paired.length rel]; exact z
  have hno2 : atKey xs k = none := by
    have q := (rel.val k).isSome_eq
    rw [hno, Option.isSome_map] at q
    cases e : atKey xs k with
    | none => rfl
    | some _ => rw [e] at q; cases q
  refine wpAny_setItem_heap (knd := nestedKind X.prog X.w) (hsz := hz) (room8 hu) (kn.is I3.hok) dd fun h' dd' hs => ?_
  rw [storedH_new hno2] at dd'
  obtain ⟨q, es, ep, hq, h2, h3, h4, _, h5⟩ := dd'
  refine ⟨σ, _, d_write I3 (by rw [dn.1]; exact True.intro) hs ⟨q, hq⟩ (dno_ok ?_ hd ?_ hq h2 h3 h4 h5), q3⟩
  · rw [List.length_append, List.length_singleton]
    omega
  · exact paired_append rel (.cons ⟨rfl, rfl, rv⟩ .nil)
theorem pe_dnewN {P : Program} {w : World} (hP : X.prog = P) (hw : X.w = w) : PE X (.Dict [] [] pos) (tDNewN P w) := by
  subst hP hw
  exact ⟨fun pins s σ H Q I h =>
  wpAny_Dict_empty ⟨.ref s.heap.objs.size, _, I.laid (a := s.heap.objs.size) (o := DNo X.prog X.w s.heap.objs.size []) (t' := s.toks) (fun _ _ q => Heap.get?_push_of_some _ q) (Nat.le_refl _)
    (dno_ok (Nat.zero_le _) (beq_eq_false_iff_ne.mpr (Ne.symm (Nat.ne_of_lt I.big))) .nil (Heap.get?_push_size _ rfl) ⟨rfl, rfl, rfl⟩ rfl rfl List.nodup_nil), rfl, h _ (I.hok.fresh (Nat.le_refl _))⟩⟩
end
end SwA

end

section
set_option maxRecDepth 100000
set_option maxHeartbeats 4000000
/-! for .. in d.items(), d.values(), where d's keys are tuples; the dict is locked -/
namespace SwA
open PySem PySem.Spec PyProof.Rows L2
theorem relN_at {kvs : List KvN} {xs : List (NestedKey × Addr × Value)} (r : RelN kvs xs) : ∀ {i : Nat} {x : KvN}, kvs[i]? = some x → ∃ y, xs[i]? = some y ∧ x.1 = y.1 ∧ x.2.1 = y.2.1 ∧ RelV x.2.2 y.2.2 := by
  induction r with
  | nil => intro i x h; simp at h
  | @cons p q ps qs h t ih =>
    intro i x e
    cases i with
    | zero =>
      have e : p = x := by simpa using e
      subst e
      exact ⟨q, rfl, h⟩
    | succ i => exact ih (by simpa using e)
theorem frzN {X : Cx} {pins : List (Addr × Obj)} {σ : L2.St} {H : Hp} {s : Shared} {d : Addr} {o : Obj} {kvs : List KvN} (I : Inv X pins σ H s) (h : H d = some (.frz o (DNo X.prog X.w d kvs))) :
    (d == sysModules) = false ∧ s.heap.get? d = some o ∧ o.ExactDict ∧ ∃ (es : Array DictEntry) (ep : Nat), o.data = .dict es ep ∧ es.size = kvs.length ∧
      ∀ (i : Nat) (x : KvN), kvs[i]? = some x → ∃ hi : i < es.size, es[i].key = .ref x.2.1 ∧ RelV x.2.2 es[i].val := by
  obtain ⟨hd, q⟩ := (show ObjOk X.prog X.w H s.heap d (.frz o (DNo X.prog X.w d kvs)) from I.hok d _ h)
  obtain ⟨⟨z, hs, xs, r, o', es, ep, ho, hx, hdt, he, _⟩, _⟩ := (show ObjOk X.prog X.w H s.heap d (DNo X.prog X.w d kvs) from q)
  rw [hd] at ho
  cases ho
  have l1 : es.size = xs.length := size_of_entries he
  have l2 : kvs.length = xs.length := Paired.length r
  refine ⟨hs, hd, hx, es, ep, hdt, by omega, fun i x hxi => ?_⟩
  obtain ⟨y, hy, _, e2, e3⟩ := relN_at r hxi
  have hi : i < es.size := by
    have := (List.getElem?_eq_some_iff.mp hy).1
    omega
  have qe := entry_at he i
  rw [hy, Array.getElem?_eq_getElem hi] at qe
  have qe : es[i] = entryOfKey (nestedKind X.prog X.w) y := Option.some.inj qe
  refine ⟨hi, ?_, ?_⟩
  · rw [qe, e2]; rfl
  · rw [qe]; exact e3
/-- the values -/
def ItvN (P : Program) (w : World) (d : Addr) (o : Obj) (kvs : List KvN) : It :=
  ⟨fun i H => H d = some (.frz o (DNo P w d kvs)) ∧ i < kvs.length, fun i H x H' => H' = H ∧ ∃ y, kvs[i]? = some y ∧ x = y.2.2, fun i H => H d = some (.frz o (DNo P w d kvs)) ∧ kvs.length ≤ i⟩
/-- the keys: each its own tuple -/
def ItkN (P : Program) (w : World) (d : Addr) (o : Obj) (kvs : List KvN) : It :=
  ⟨fun i H => H d = some (.frz o (DNo P w d kvs)) ∧ i < kvs.length, fun i H x H' => H' = H ∧ ∃ y, kvs[i]? = some y ∧ x = .ref y.2.1, fun i H => H d = some (.frz o (DNo P w d kvs)) ∧ kvs.length ≤ i⟩
/-- the pairs, each a new tuple -/
def ItiN (P : Program) (w : World) (d : Addr) (o : Obj) (kvs : List KvN) : It :=
  ⟨fun i H => H d = some (.frz o (DNo P w d kvs)) ∧ i < kvs.length, fun i H x H' => ∃ T y, kvs[i]? = some y ∧ x = .ref T ∧ H T = none ∧ H' = upd H T (.tup [.ref y.2.1, y.2.2]), fun i H => H d = some (.frz o (DNo P w d kvs)) ∧ kvs.length ≤ i⟩
theorem walk_valN {P : Program} {w : World} {d : Addr} {o : Obj} {kvs : List KvN} : Walk (ItvN P w d o kvs) kvs.length (fun H => H d = some (.frz o (DNo P w d kvs))) (fun i H x H' => H' = H ∧ ∃ y, kvs[i]? = some y ∧ x = y.2.2) :=
  ⟨fun _ _ hi q => ⟨q, hi⟩, fun _ q => ⟨q, Nat.le_refl _⟩, fun _ _ _ _ _ _ y => y⟩
theorem walk_keyN {P : Program} {w : World} {d : Addr} {o : Obj} {kvs : List KvN} : Walk (ItkN P w d o kvs) kvs.length (fun H => H d = some (.frz o (DNo P w d kvs))) (fun i H x H' => H' = H ∧ ∃ y, kvs[i]? = some y ∧ x = .ref y.2.1) :=
  ⟨fun _ _ hi q => ⟨q, hi⟩, fun _ q => ⟨q, Nat.le_refl _⟩, fun _ _ _ _ _ _ y => y⟩
theorem walk_itemN {P : Program} {w : World} {d : Addr} {o : Obj} {kvs : List KvN} : Walk (ItiN P w d o kvs) kvs.length (fun H => H d = some (.frz o (DNo P w d kvs))) (fun i H x H' => ∃ T y, kvs[i]? = some y ∧ x = .ref T ∧ H T = none ∧ H' = upd H T (.tup [.ref y.2.1, y.2.2])) :=
  ⟨fun _ _ hi q => ⟨q, hi⟩, fun _ q => ⟨q, Nat.le_refl _⟩, fun _ _ _ _ _ _ y => y⟩
section
variable {P : Program} {w : World} {K : PySem.W.Frag} {tg : Expr} {d : Addr} {o : Obj} {es : Array DictEntry} {ep : Nat}
theorem turn_valN {kvs : List KvN} (it : Addr) (hod : o.data = .dict es ep) : Turn P w K tg (ItvN P w d o kvs) [it] it (fun i h => h.IsValIter it d i kvs.length ep) where
  mem := by simp
  obj := fun i h st b hb => by
    have e : b = it := by simpa using hb
    subst e
    obtain ⟨oi, e, c, dd⟩ := st
    exact ⟨oi, e, fun v z => by rw [dd] at z; cases z⟩
  keep := fun i h h' st k => st.at fun oi e => k it (by simp) oi e
  item := by
    intro X hP hw hK hc i pins s σ H E I hf st hg
    subst hP hw hK
    obtain ⟨hd, hi⟩ := hg
    obtain ⟨f0, f1, f2, f3, f4, f5⟩ := hf it (by simp)
    obtain ⟨hs, hgd, hx, es', ep', hdt, hsz, ent⟩ := frzN I hd
    obtain ⟨rfl, rfl⟩ := dict_ep hod hdt
    have hkv : kvs[i]? = some kvs[i] := List.getElem?_eq_getElem hi
    obtain ⟨hi2, _, ru⟩ := ent i _ hkv
    rw [← hsz] at st
    refine wpAny_pyNext_values_item_raw st ⟨o, hgd, hx, hdt⟩ hi2 fun h' st' sb => ?_
    have I1 : Inv X pins σ H { s with heap := h' } := I.turned (t' := s.toks) (fun b ob hb e => (sb.2 b hb).trans e) f0 f1 f3 f4 f5
    obtain ⟨oi, e, c, dd⟩ := id st'
    refine ⟨es'[i].val, rfl, go_of (s := { s with heap := h' }) e c dd (by decide) ⟨kvs[i].2.2, H, I1, ru, ⟨rfl, kvs[i], hkv, rfl⟩, ?_, fun b hb => (hf b hb).1⟩⟩
    show h'.IsValIter it d (i + 1) kvs.length _
    rw [← hsz]
    exact st'
  done := by
    intro X hP hw hK hc i pins s σ H E I hf st hg
    subst hP hw hK
    obtain ⟨hd, hi⟩ := hg
    obtain ⟨f0, f1, f2, f3, f4, f5⟩ := hf it (by simp)
    obtain ⟨hs, hgd, hx, es', ep', hdt, hsz, ent⟩ := frzN I hd
    obtain ⟨rfl, rfl⟩ := dict_ep hod hdt
    rw [← hsz] at st
    exact wpAny_pyNext_values_end_raw (I.ok.hd hc) st ⟨o, hgd, hx, hdt⟩ (by omega) fun h' eb => ⟨rfl, I.turned (t' := s.toks) (fun b ob hb e => eb b ob hb e) f0 f1 f3 f4 f5⟩
  self := fun A i s Q E st h => wpAny_pyIter_valiter st h
theorem turn_itemN {kvs : List KvN} {elts : List Expr} {kk : Nat} {tpos : Pos} (it : Addr) (hod : o.data = .dict es ep) :
    Turn P w K (.Tuple elts kk tpos) (ItiN P w d o kvs) [it] it (fun i h => ∃ ok ov, IsItemIter h it d i kvs.length ep ok ov) where
  mem := by simp
  obj := fun i h st b hb => by
    have e : b = it := by simpa using hb
    subst e
    obtain ⟨ok, ov, e⟩ := st
    exact ⟨_, e, fun v z => nomatch z⟩
  keep := fun i h h' st k => let ⟨ok, ov, e⟩ := st; ⟨ok, ov, k it (by simp) _ e⟩
  item := by
    intro X hP hw hK hc i pins s σ H E I hf st hg
    subst hP hw hK
    obtain ⟨hd, hi⟩ := hg
    obtain ⟨hs, hgd, hx, es', ep', hdt, hsz, ent⟩ := frzN I hd
    obtain ⟨rfl, rfl⟩ := dict_ep hod hdt
    have hkv : kvs[i]? = some kvs[i] := List.getElem?_eq_getElem hi
    obtain ⟨hi2, ek, ru⟩ := ent i _ hkv
    obtain ⟨ok, ov, he⟩ := st
    rw [← hsz] at he
    have hlt : it < s.heap.objs.size := Heap.lt_size he
    refine wpAny_pyNext_items_item_raw he ⟨o, hgd, hx, hdt⟩ hi2 fun h' ho hT hz hk => ?_
    refine ⟨_, rfl, wpAny_letOwnedTupleGo_items (s := { s with heap := h' }) ho fun h'' he' sb => ?_⟩
    have hT2 : h''.get? s.heap.objs.size = some { cls := .type "tuple", data := .seq #[es'[i].key, es'[i].val] } := (sb.2 _ (Nat.ne_of_gt hlt)).trans hT
    have new : ObjOk X.prog X.w (upd H s.heap.objs.size (.tup [.ref kvs[i].2.1, kvs[i].2.2])) h'' s.heap.objs.size (.tup [.ref kvs[i].2.1, kvs[i].2.2]) :=
      ⟨by show 2 ≤ sizeLine; decide, [es'[i].key, es'[i].val], .cons ek (.cons ru .nil), ⟨_, hT2, rfl, _, rfl⟩⟩
    have I1 : Inv X pins σ (upd H s.heap.objs.size (.tup [.ref kvs[i].2.1, kvs[i].2.2])) { s with heap := h'' } :=
      I.turnedNew (t' := s.toks) (ch := [it]) (fun b ob hb e => (sb.2 b (by simpa using hb)).trans (hk b ob (by simpa using hb) e)) hf (Nat.le_refl _) new
    refine ⟨.ref s.heap.objs.size, _, I1, rfl, ⟨_, kvs[i], hkv, rfl, I.hok.fresh (Nat.le_refl _), rfl⟩, ⟨es'[i].key, es'[i].val, ?_⟩, fun b hb => ?_⟩
    · rw [← hsz]; exact he'
    · have e : b = it := by simpa using hb
      rw [e, upd_ne (Nat.ne_of_lt hlt)]
      exact (hf it (by simp)).1
  done := by
    intro X hP hw hK hc i pins s σ H E I hf st hg
    subst hP hw hK
    obtain ⟨hd, hi⟩ := hg
    obtain ⟨f0, f1, f2, f3, f4, f5⟩ := hf it (by simp)
    obtain ⟨hs, hgd, hx, es', ep', hdt, hsz, ent⟩ := frzN I hd
    obtain ⟨rfl, rfl⟩ := dict_ep hod hdt
    obtain ⟨ok, ov, he⟩ := st
    rw [← hsz] at he
    exact wpAny_pyNext_items_end_raw (I.ok.hd hc) he ⟨o, hgd, hx, hdt⟩ (by omega) fun h' eb => ⟨rfl, I.turned (t' := s.toks) (fun b ob hb e => eb b ob hb e) f0 f1 f3 f4 f5⟩
  self := fun A i s Q E st h => let ⟨_, _, e⟩ := st; PySem.W.kcp_self e h
theorem turn_keyN {kvs : List KvN} (it : Addr) (hod : o.data = .dict es ep) : Turn P w K tg (ItkN P w d o kvs) [it] it (fun i h => h.IsKeyIter it d i kvs.length ep) where
  mem := by simp
  obj := fun i h st b hb => by
    have e : b = it := by simpa using hb
    subst e
    obtain ⟨oi, e, c, dd⟩ := st
    exact ⟨oi, e, fun v z => by rw [dd] at z; cases z⟩
  keep := fun i h h' st k => st.at fun oi e => k it (by simp) oi e
  item := by
    intro X hP hw hK hc i pins s σ H E I hf st hg
    subst hP hw hK
    obtain ⟨hd, hi⟩ := hg
    obtain ⟨f0, f1, f2, f3, f4, f5⟩ := hf it (by simp)
    obtain ⟨hs, hgd, hx, es', ep', hdt, hsz, ent⟩ := frzN I hd
    obtain ⟨rfl, rfl⟩ := dict_ep hod hdt
    have hkv : kvs[i]? = some kvs[i] := List.getElem?_eq_getElem hi
    obtain ⟨hi2, ek, _⟩ := ent i _ hkv
    rw [← hsz] at st
    refine wpAny_pyNext_keys_item_raw st ⟨o, hgd, hx, hdt⟩ hi2 fun h' st' sb => ?_
    have I1 : Inv X pins σ H { s with heap := h' } := I.turned (t' := s.toks) (fun b ob hb e => (sb.2 b hb).trans e) f0 f1 f3 f4 f5
    obtain ⟨oi, e, c, dd⟩ := id st'
    refine ⟨es'[i].key, rfl, go_of (s := { s with heap := h' }) e c dd (by decide) ⟨.ref kvs[i].2.1, H, I1, ek, ⟨rfl, kvs[i], hkv, rfl⟩, ?_, fun b hb => (hf b hb).1⟩⟩
    show h'.IsKeyIter it d (i + 1) kvs.length _
    rw [← hsz]
    exact st'
  done := by
    intro X hP hw hK hc i pins s σ H E I hf st hg
    subst hP hw hK
    obtain ⟨hd, hi⟩ := hg
    obtain ⟨f0, f1, f2, f3, f4, f5⟩ := hf it (by simp)
    obtain ⟨hs, hgd, hx, es', ep', hdt, hsz, ent⟩ := frzN I hd
    obtain ⟨rfl, rfl⟩ := dict_ep hod hdt
    rw [← hsz] at st
    exact wpAny_pyNext_keys_end_raw (I.ok.hd hc) st ⟨o, hgd, hx, hdt⟩ (by omega) fun h' eb => ⟨rfl, I.turned (t' := s.toks) (fun b ob hb e => eb b ob hb e) f0 f1 f3 f4 f5⟩
  self := fun A i s Q E st h => by
    refine wpAny_pyIter_slot st.typeIs F.slot_dict_keyiterator_iter (wpAny_call_entry F.slot_dict_keyiterator_iter st.typeIs F.entry_dict_keyiterator_iter ?_ (F.args_dict_keyiterator_iter_1 _))
    show wpAny _ _ (ret (.ref it)) _ _ s
    exact wpAny_pure ⟨_, rfl, "dict_keyiterator", _, st.typeIs, F.slot_dict_keyiterator_next.lookup, h⟩
end
def iValN (P : Program) (w : World) (td : TE) : TI := fun σ H R => td σ H fun x H1 => ∃ d o kvs, x = .ref d ∧ H1 d = some (.frz o (DNo P w d kvs)) ∧ R (ItvN P w d o kvs) H1
def iItemN (P : Program) (w : World) (td : TE) : TI := fun σ H R => td σ H fun x H1 => ∃ d o kvs, x = .ref d ∧ H1 d = some (.frz o (DNo P w d kvs)) ∧ R (ItiN P w d o kvs) H1
def iKeyN (P : Program) (w : World) (td : TE) : TI := fun σ H R => td σ H fun x H1 => ∃ d o kvs, x = .ref d ∧ H1 d = some (.frz o (DNo P w d kvs)) ∧ R (ItkN P w d o kvs) H1
section
variable {X : Cx} {tg e : Expr} {td : TE} {apos cpos : Pos}
theorem pi_keyN {P : Program} {w : World} (hP : X.prog = P) (hw : X.w = w) (he : PE X e td) : PI X tg e (iKeyN P w td) := by
  subst hP hw
  refine ⟨fun pins s σ H R I h => ?_⟩
  refine thn (he.run pins s σ H _ I h) fun u s1 ⟨x, H1, I1, rx, d, o, kvs, ex, hd, q⟩ => ?_
  subst ex
  obtain rfl : u = Value.ref d := rx
  obtain ⟨hs, hgd, hx, es, ep, hdt, hsz, ent⟩ := frzN I1 hd
  refine iter_keys hs hgd hx hdt (pi_one (tk := s1.toks) I1 _ (turn_keyN _ hdt) ⟨_, Heap.get?_push_size _ rfl, rfl, ?_⟩ q)
  rw [hsz] <;> rfl
theorem pi_valN {P : Program} {w : World} (hP : X.prog = P) (hw : X.w = w) (he : PE X e td) (hbase : attributeBase e "values" X.env (eval e X.env) = eval e X.env := by rfl) (hline : (apos.endLine == cpos.line) = true := by rfl) : PI X tg (.Call (.Attribute e "values" apos) [] [] cpos) (iValN P w td) := by
  subst hP hw
  refine ⟨fun pins s σ H R I h => ?_⟩
  refine wpAny_Call_method (T := "dict") (id := "dict.values") hbase rfl hline F.plainAttrs_dict F.slot_dict_values F.type_dict_values (thn (he.run pins s σ H _ I h) fun u s1 ⟨x, H1, I1, rx, d, o, kvs, ex, hd, q⟩ => ?_)
  subst ex
  obtain rfl : u = Value.ref d := rx
  obtain ⟨hs, hgd, hx, es, ep, hdt, hsz, ent⟩ := frzN I1 hd
  have raw : s1.heap.DictRaw d es ep := ⟨o, hgd, hx, hdt⟩
  refine ⟨raw.typeIs, (fun b hb => by cases hb; exact ⟨o, hgd, hx.2.1⟩), ?_⟩
  have I2 : Inv X pins σ H1 { s1 with heap := s1.heap.push { cls := .type "dict_values", data := .fields #[.ref d] } } := I1.kept (t' := s1.toks) fun b ob q => Heap.get?_push_of_some _ q
  have fin : wpAny (model X.prog X.w) X.A (pyIter (.ref s1.heap.objs.size)) (PIE X pins σ tg R) X.xe { s1 with heap := s1.heap.push { cls := .type "dict_values", data := .fields #[.ref d] } } := by
    refine wpAny_pyIter_values_raw ⟨_, Heap.get?_push_size _ rfl, rfl, rfl⟩ (raw.at fun _ z => Heap.get?_push_of_some _ z) (pi_one (tk := s1.toks) I2 _ (turn_valN _ hdt) ⟨_, Heap.get?_push_size _ rfl, rfl, ?_⟩ q)
    rw [hsz] <;> rfl
  show wpAny _ _ (callWith cpos (.builtin "dict.values") [.ref d] [] []) _ X.xe s1
  exact method_meetsIn F.slot_dict_values F.entry_dict_values rfl (PySem.evalArgs_none ⟨rfl, raw.typeIs, F.args_dict_values_1 _, _, meets_dict_values_raw d hs, ⟨es, ep, raw⟩, fin⟩)
theorem pi_itemN {P : Program} {w : World} {elts : List Expr} {kk : Nat} {tpos : Pos} (hP : X.prog = P) (hw : X.w = w) (he : PE X e td) (hbase : attributeBase e "items" X.env (eval e X.env) = eval e X.env := by rfl) (hline : (apos.endLine == cpos.line) = true := by rfl) :
    PI X (.Tuple elts kk tpos) (.Call (.Attribute e "items" apos) [] [] cpos) (iItemN P w td) := by
  subst hP hw
  refine ⟨fun pins s σ H R I h => ?_⟩
  refine wpAny_Call_method (T := "dict") (id := "dict.items") hbase rfl hline F.plainAttrs_dict F.slot_dict_items F.type_dict_items (thn (he.run pins s σ H _ I h) fun u s1 ⟨x, H1, I1, rx, d, o, kvs, ex, hd, q⟩ => ?_)
  subst ex
  obtain rfl : u = Value.ref d := rx
  obtain ⟨hs, hgd, hx, es, ep, hdt, hsz, ent⟩ := frzN I1 hd
  have raw : s1.heap.DictRaw d es ep := ⟨o, hgd, hx, hdt⟩
  refine ⟨raw.typeIs, (fun b hb => by cases hb; exact ⟨o, hgd, hx.2.1⟩), ?_⟩
  have I2 : Inv X pins σ H1 { s1 with heap := s1.heap.push { cls := .type "dict_items", data := .fields #[.ref d] } } := I1.kept (t' := s1.toks) fun b ob q => Heap.get?_push_of_some _ q
  have fin : wpAny (model X.prog X.w) X.A (pyIter (.ref s1.heap.objs.size)) (PIE X pins σ (.Tuple elts kk tpos) R) X.xe { s1 with heap := s1.heap.push { cls := .type "dict_items", data := .fields #[.ref d] } } := by
    refine wpAny_pyIter_items_raw ⟨_, Heap.get?_push_size _ rfl, rfl, rfl⟩ (raw.at fun _ z => Heap.get?_push_of_some _ z) (pi_one (tk := s1.toks) I2 _ (turn_itemN _ hdt) ⟨.none, .none, ?_⟩ q)
    rw [hsz]
    exact Heap.get?_push_size _ rfl
  show wpAny _ _ (callWith cpos (.builtin "dict.items") [.ref d] [] []) _ X.xe s1
  exact method_meetsIn F.slot_dict_items F.entry_dict_items rfl (PySem.evalArgs_none ⟨rfl, raw.typeIs, F.args_dict_items_1 _, _, meets_dict_items_raw d hs, ⟨es, ep, raw⟩, fin⟩)
end
end SwA

end

section
set_option maxRecDepth 100000
set_option maxHeartbeats 4000000
/-! rules of tuples: enumerate, count -/
namespace SwA
open PySem PySem.Spec PyProof.Rows L2
section
variable {X : Cx}
/-! ### t.count(k) of a tuple of ints -/
def rCntT (K : PySem.W.Frag) : V → List V → Hp → VK → Prop := fun x xs H Q => ∃ (p : Addr) (ns : List Int) (k : Int), x = .ref p ∧ xs = [.int k] ∧ SqT K H p (ns.map V.int) ∧ Q (.int (ns.count k : Nat)) H
theorem mt_tcount : MtR X "tuple.count" (rCntT X.K) := by
  intro pins s σ H x xs v us Q I rx rxs h
  obtain ⟨p, ns, k, rfl, rfl, hs, q⟩ := h
  cases rx
  obtain ⟨u, rfl, ru⟩ := rxs.one
  obtain ⟨t, rfl⟩ := ru
  obtain ⟨its, rv, ⟨⟨cls, dd, data, sl⟩, ho, hc, n, hd⟩, hlen⟩ := I.tuple hs
  simp only at hc hd
  subst hc hd
  have hi := ints_of_vals rv
  refine call_meets PySem.F.slot_tuple_count ⟨_, ho, rfl⟩ PySem.F.entry_tuple_count (PySem.F.args_tuple_count_2 _ _)
    (SeqAt.tuple_countAt p its.toArray n dd sl (.int k t) (eqk k)) ⟨ho, fun y hy => (eqk_gives hi y (by simpa using hy)).at _ _, ?_⟩
  have ec : its.toArray.toList.countP (eqk k) = ns.count k := eqk_count hi
  refine ⟨.int (ns.count k : Nat), H, I.tok _, ⟨s.toks, ?_⟩, q⟩
  show Value.int ((its.toArray.toList.countP (eqk k) : Nat) : Int) s.toks = Value.int ((ns.count k : Nat) : Int) s.toks
  rw [ec]
end
/-! ### enumerate(t) of a tuple -/
open AutoSeq1 (wpAny_loadPart') in
theorem meets_enumerate_newT (l : Addr) (items : Array Value) :
    Meets (Builtin.«enumerate.__new__» ⟨[.type "enumerate", .ref l], []⟩) (fun _ R s => s.heap.IsTuple l items ∧
      R (.ok (.ret (.ref (s.heap.push { cls := .type "tuple_iterator", data := .fields #[.ref l, .int 0 0] }).objs.size)))
        { s with heap := (s.heap.push { cls := .type "tuple_iterator", data := .fields #[.ref l, .int 0 0] }).push { cls := .type "enumerate", data := .fields #[.none, .bool false, .ref s.heap.objs.size, rawInt 0, .none, .none] } }) :=
  .of_wp fun prog w A R s h => by
    obtain ⟨hp, g, d, tk, os⟩ := s; obtain ⟨hL, h⟩ := h
    have hsub := sub_enumerate
    have q1 : ∀ {A' : Around} {E : Value → Shared → Prop} {Q : Value → Shared → Prop}, Q (.ref hp.objs.size) ⟨hp.push { cls := .type "tuple_iterator", data := .fields #[.ref l, .int 0 0] }, g, d, tk, os⟩ → wpAny (model prog w) A' (pyIter (.ref l)) Q E ⟨hp, g, d, tk, os⟩ :=
      fun q => wpAny_pyIter_tuple hL q
    wp_walk using q1
    refine wpAny_stack_any fun st => wpAny_pure ?_
    split
    · rename_i c _ _ _ _ _
      cases (c == Value.type "enumerate")
      · wp_walk using q1
        exact ⟨_, rfl, h⟩
      · wp_walk using q1
        exact ⟨_, rfl, h⟩
    · wp_walk using q1
      exact ⟨_, rfl, h⟩
theorem call_enumerate_tuple {prog : Program} {w : World} {A : Around} {E : Value → Shared → Prop} {s : Shared} {l : Addr} {items : Array Value} {Q : Value → Shared → Prop} (hL : s.heap.IsTuple l items)
    (h : ∀ h', IsEnum h' (s.heap.objs.size + 1) s.heap.objs.size 0 .none → h'.IsTupleIter s.heap.objs.size l 0 → h'.objs.size = s.heap.objs.size + 2 →
      (∀ b o, s.heap.get? b = some o → h'.get? b = some o) → Q (.ref (s.heap.objs.size + 1)) { s with heap := h' }) :
    wpAny (model prog w) A (call (.type "enumerate") [.ref l]) Q E s := by
  refine callType_new F.called_enumerate (by decide) (F.typeCall_enumerate_1 _) (F.newCall_enumerate_1 _) (fun obj => F.args_object_init_2 obj _) F.entry_enumerate_new
    (meets_enumerate_newT l items) ⟨hL, ?_⟩
  have hz : (s.heap.push { cls := .type "tuple_iterator", data := .fields #[.ref l, .int 0 0] }).objs.size = s.heap.objs.size + 1 := Heap.size_push ..
  show _ ∧ _
  rw [hz]
  have he : IsEnum ((s.heap.push { cls := .type "tuple_iterator", data := .fields #[.ref l, .int 0 0] }).push
      { cls := .type "enumerate", data := .fields #[.none, .bool false, .ref s.heap.objs.size, rawInt 0, .none, .none] }) (s.heap.objs.size + 1) s.heap.objs.size 0 .none := by
    have := Heap.get?_push_size (s.heap.push { cls := .type "tuple_iterator", data := .fields #[.ref l, .int 0 0] })
      (o := { cls := .type "enumerate", data := .fields #[.none, .bool false, .ref s.heap.objs.size, rawInt 0, .none, .none] }) rfl
    rw [hz] at this; exact this
  refine ⟨⟨_, he, rfl⟩, h _ he ⟨_, Heap.get?_push_of_some _ (Heap.get?_push_size _ rfl), rfl, rfl⟩ (by rw [Heap.size_push, hz]) fun b o x => Heap.get?_push_of_some _ (Heap.get?_push_of_some _ x)⟩
/-- the tuple at a, each item in a new pair -/
def ItET (K : PySem.W.Frag) (a : Addr) : It :=
  ⟨fun i H => ∃ (xs : List V) (x : V), SqT K H a xs ∧ xs[i]? = some x, fun i H v H' => ∃ T x, v = .ref T ∧ H T = none ∧ H' = upd H T (.tup [.int (i : Nat), x]) ∧ ∀ xs, SqT K H a xs → xs[i]? = some x, fun i H => ∃ xs : List V, SqT K H a xs ∧ xs.length = i⟩
theorem turn_enumT {P : Program} {w : World} {K : PySem.W.Frag} {elts : List Expr} {kk : Nat} {tpos : Pos} (a e it : Addr) (hai : a ≠ it) (hae : a ≠ e) :
    Turn P w K (.Tuple elts kk tpos) (ItET K a) [e, it] e (fun i h => (∃ old, IsEnum h e it ((i : Nat) : Int) old) ∧ h.IsTupleIter it a i ∧ e ≠ it) where
  mem := by simp
  obj := fun i h st b hb => by
    obtain ⟨⟨old, he⟩, ⟨o, ho, hc, hd⟩, _⟩ := st
    have e' : b = e ∨ b = it := by simpa using hb
    rcases e' with z | z
    · rw [z]; exact ⟨_, he, fun v q => nomatch q⟩
    · rw [z]; exact ⟨o, ho, fun v q => by rw [hd] at q; cases q⟩
  keep := fun i h h' st k => let ⟨⟨old, he⟩, hi, hne⟩ := st; ⟨⟨old, k e (by simp) _ he⟩, hi.at fun o q => k it (by simp) o q, hne⟩
  item := by
    intro X hP hw hK hc i pins s σ H E I hf st hg
    subst hP hw hK
    obtain ⟨⟨old, he⟩, hit, hne⟩ := st
    obtain ⟨xs, x, hq, hx⟩ := hg
    obtain ⟨its, rv, p, hz⟩ := I.tuple hq
    obtain ⟨u, hu, ru⟩ := rv.get hx
    have hel : e < s.heap.objs.size := Heap.lt_size he
    have hil : it < s.heap.objs.size := by obtain ⟨_, q, _⟩ := hit; exact Heap.lt_size q
    have hui : i < its.toArray.size := by rw [List.size_toArray]; exact (List.getElem?_eq_some_iff.mp hu).1
    have D := Draws.tuple (prog := X.prog) (w := X.w) (A := X.A.in1) (I.ok.hd hc) it a hai its.toArray
    refine wpAny_pyNext_enum_itemD D he ⟨hit, p⟩ hui hne (by simp; exact ⟨hne, fun z => hae z.symm⟩) fun y h' tk hy ho hit' hT hsz hk => ?_
    have ey : y = u := by
      have e1 : its.toArray[i]? = some u := by simpa using hu
      rw [e1] at hy
      exact (Option.some.inj hy).symm
    subst ey
    refine ⟨_, rfl, wpAny_letOwnedTupleGo_enum (s := { s with heap := h', toks := tk + 1 }) ho fun h'' he' sb => ?_⟩
    have hT2 : h''.get? s.heap.objs.size = some { cls := .type "tuple", data := .seq #[.int i tk, y] } := (sb.2 _ (Nat.ne_of_gt hel)).trans hT
    have new : ObjOk X.prog X.w (upd H s.heap.objs.size (.tup [.int (i : Nat), x])) h'' s.heap.objs.size (.tup [.int (i : Nat), x]) :=
      ⟨by show 2 ≤ sizeLine; decide, [.int i tk, y], .cons ⟨_, rfl⟩ (.cons ru .nil), ⟨_, hT2, rfl, _, rfl⟩⟩
    have I1 : Inv X pins σ (upd H s.heap.objs.size (.tup [.int (i : Nat), x])) { s with heap := h'', toks := tk + 1 } :=
      I.turnedNew (ch := [e, it]) (fun b ob hb q => (sb.2 b (fun z => hb (by simp [z]))).trans (hk b ob (fun z => hb (by simp [z])) (fun z => hb (by simp [z])) q)) hf (Nat.le_refl _) new
    refine ⟨.ref s.heap.objs.size, _, I1, rfl, ⟨_, x, rfl, I.hok.fresh (Nat.le_refl _), rfl, fun ys hy => by rw [I.tuple_inj hy hq]; exact hx⟩, ⟨⟨y, ?_⟩, hit'.1.at fun o q => (sb.2 it (Ne.symm hne)).trans q, hne⟩, fun b hb => ?_⟩
    · have e1 : ((i + 1 : Nat) : Int) = (i : Int) + 1 := by omega
      rw [e1]; exact he'
    · have hb' : b < s.heap.objs.size := by
        have e' : b = e ∨ b = it := by simpa using hb
        rcases e' with z | z
        · rw [z]; exact hel
        · rw [z]; exact hil
      rw [upd_ne (Nat.ne_of_lt hb')]
      exact (hf b hb).1
  done := by
    intro X hP hw hK hc i pins s σ H E I hf st hg
    subst hP hw hK
    obtain ⟨⟨old, he⟩, hit, hne⟩ := st
    obtain ⟨xs, hq, hx⟩ := hg
    obtain ⟨its, rv, p, hz⟩ := I.tuple hq
    obtain ⟨f0, f1, f2, f3, f4, f5⟩ := hf it (by simp)
    have hl := rv.length
    have D := Draws.tuple (prog := X.prog) (w := X.w) (A := X.A.in1) (I.ok.hd hc) it a hai its.toArray
    have ei : its.toArray.size = i := by rw [List.size_toArray]; omega
    exact wpAny_pyNext_enum_endD D he ⟨by rw [ei]; exact hit, p⟩ fun h' eb => ⟨rfl, I.turned (t' := s.toks) (fun b o hb q => eb b o hb q) f0 f1 f3 f4 f5⟩
  self := fun A i s Q E st h => let ⟨⟨_, he⟩, _⟩ := st; wpAny_pyIter_enum he h
def iEnumT (K : PySem.W.Frag) (ta : TA) : TI := fun σ H R => ta σ H fun vs H1 => ∃ a xs, vs = [.ref a] ∧ SqT K H1 a xs ∧ R (ItET K a) H1
theorem pi_enumT {X : Cx} {e : Expr} {ta : TA} {p pos tpos : Pos} {elts : List Expr} {kk : Nat} (hg : Gl X "enumerate") (hm : X.mg "enumerate" = none) (ha : PA X [e] ta) (hs : starEach [e] X.env = [(false, eval e X.env)] := by rfl) :
    PI X (.Tuple elts kk tpos) (.Call (.Name "enumerate" p) [e] [] pos) (iEnumT X.K ta) := by
  refine ⟨fun pins s σ H R I h => ?_⟩
  refine Call_ (ld_blt I hg hm boot_enumerate (PyProof.Rows.callWith_type1 (thn (ha.run pos pins s σ H _ I h) fun us s1 ⟨vs, H1, I1, r1, q1⟩ => ?_) hs rfl))
  obtain ⟨a, xs, ex, hq, q⟩ := q1
  subst ex
  cases r1 with
  | cons r rr =>
    cases rr
    cases r
    obtain ⟨its, rv, p', hz⟩ := I1.tuple hq
    have hal : a < s1.heap.objs.size := by obtain ⟨_, z, _⟩ := p'; exact Heap.lt_size z
    refine call_enumerate_tuple (items := its.toArray) p' fun h' he hit hsz hk => wpAny_pyIter_enum he ?_
    have I2 : Inv X pins σ H1 { s1 with heap := h' } := I1.kept (t' := s1.toks) hk
    refine ⟨s1.heap.objs.size + 1, [s1.heap.objs.size + 1, s1.heap.objs.size], _, _, H1, rfl, I2, turn_enumT a (s1.heap.objs.size + 1) s1.heap.objs.size (Nat.ne_of_lt hal) (Nat.ne_of_lt (Nat.lt_succ_of_lt hal)), ⟨⟨.none, he⟩, hit, Nat.succ_ne_self _⟩, fun b hb => ?_, q⟩
    have e' : b = s1.heap.objs.size + 1 ∨ b = s1.heap.objs.size := by simpa using hb
    have hle : s1.heap.objs.size ≤ b := by
      rcases e' with z | z
      · rw [z]; exact Nat.le_add_right _ _
      · rw [z]; exact Nat.le_refl _
    exact I1.fpOk hle (I1.hok.fresh hle)
/-! ### match upon a tuple: a written text ahead, names behind -/
inductive Caps (X : Cx) : List Pattern → List (Str × Nat) → Prop
  | nil : Caps X [] []
  | cons {x : Str} {i : Nat} {p : Pos} {ps : List Pattern} {xs : List (Str × Nat)} (hi : X.N[i]? = some x) (hx : Loc X.env.scope x) (hf : X.fn x = true ∨ X.env.scope.names.lookup x = some .local) (t : Caps X ps xs) :
      Caps X (.MatchAs none (some x) p :: ps) ((x, i) :: xs)
def setAll : L2.St → List (Str × Nat) → List V → L2.St
  | σ, (_, i) :: r, v :: vs => setAll (σ.set i (some v)) r vs
  | σ, _, _ => σ
def capB : List (Str × Nat) → List Value → List (Str × Value)
  | (x, _) :: r, u :: us => (x, u) :: capB r us
  | _, _ => []
theorem matchEach_caps {X : Cx} {M : Model} {A : Around} {E : Value → Shared → Prop} {s : Shared} : ∀ {ps : List Pattern} {xs : List (Str × Nat)} {us : List Value} {Q : Option (List (Str × Value)) → Shared → Prop}, Caps X ps xs → us.length = ps.length → Q (some (capB xs us)) s → wpAny M A (matchEach ps X.env us) Q E s
  | _, _, [], _, .nil, _, h => wpAny_matchEach_nil h
  | _, _, u :: us, Q, .cons hi hx hf t, hl, h => by
    refine wpAny_matchEach_cons (wpAny_matchPattern_Capture ?_)
    refine matchEach_caps t (by simpa using hl) ?_
    exact h
theorem assign_caps {X : Cx} {M : Model} {A : Around} {E : Value → Shared → Prop} (hN : X.N.Nodup) {pins : List (Addr × Obj)} {H : Hp} : ∀ {ps : List Pattern} {xs : List (Str × Nat)} {us : List Value} {vs : List V} {s : Shared} {σ : L2.St} {Q : Unit → Shared → Prop}, Caps X ps xs → us.length = ps.length → Vals vs us → Inv X pins σ H s →
    (∀ s', Inv X pins (setAll σ xs vs) H s' → Q () s') → wpAny M A (assignInOrder ((capB xs us).map fun (n, _) => bindName X.env n) ((capB xs us).map (·.2))) Q E s
  | _, _, [], _, _, _, _, .nil, _, .nil, I, h => wpAny_assignInOrder_none (h _ I)
  | _, _, u :: us, _, s, σ, Q, .cons hi hx hf t, hl, .cons r rr, I, h => by
    refine wpAny_assignInOrder_more ?_
    refine wpAny_bindName (store_ok I hN hi hx r (fun s' I' => ?_) hf)
    exact assign_caps hN t (by simpa using hl) rr I' h
def tCaseQ (K : PySem.W.Frag) (z : Str) (xs : List (Str × Nat)) (tb : TS) (tr : V → TS) : V → TS := fun v D σ H => ∃ a y ys, v = .ref a ∧ SqT K H a (.str y :: ys) ∧
  (y = z ∧ ys.length = xs.length → tb D (setAll σ xs ys) H) ∧ (¬ (y = z ∧ ys.length = xs.length) → tr v D σ H)
theorem Caps.len {X : Cx} : ∀ {ps : List Pattern} {xs : List (Str × Nat)}, Caps X ps xs → ps.length = xs.length
  | _, _, .nil => rfl
  | _, _, .cons _ _ _ t => by simp [t.len]
theorem pms_seq {X : Cx} {z : Str} {k : Nat} {ps : List Pattern} {xs : List (Str × Nat)} {body : List Stmt} {rest : List MatchCase} {tb : TS} {tr : V → TS} {p1 p2 p3 : Pos} (hc : X.calm = true) (hN : X.N.Nodup) (hp : Caps X ps xs) (hb : PSs X body tb) (hr : PMs X rest tr)
    (hstar : ((.MatchValue (.Constant (.str z) k p1) p2 : Pattern) :: ps).findIdx? (·.isStar) = none := by rfl)
    (hwild : (((.MatchValue (.Constant (.str z) k p1) p2 : Pattern) :: ps).all fun p => p.isWildcard || (p.isStar && p.names.isEmpty)) = false := by rfl) :
    PMs X (⟨.MatchSequence (.MatchValue (.Constant (.str z) k p1) p2 :: ps) p3, none, body⟩ :: rest) (tCaseQ X.K z xs tb tr) := by
  refine ⟨fun pins s σ H D v u first I r h => ?_⟩
  obtain ⟨a, y, ys, ev, hs, h1, h2⟩ := h
  subst ev
  cases r
  obtain ⟨its, rv, ht, hz⟩ := I.tuple hs
  have hlen := rv.length
  have hfit : (its.toArray.size : Int) < 2 ^ 63 := by
    rw [sizeLine_eq] at hz
    simp only [List.size_toArray]
    omega
  have hpl := hp.len
  refine wpAny_matchCases_cons ?_
  by_cases e : its.length = ps.length + 1
  · refine matchSeq_tuple_hit ht hfit (by simpa using e) ?_ hstar hwild
    have en : ((.MatchValue (.Constant (.str z) k p1) p2 : Pattern) :: ps).length = its.toArray.size := by simpa using e.symm
    rw [en]
    have I0 : Inv X pins σ H { s with toks := s.toks + 1 + 1 } := I.tok _
    refine unpackItems_tuple (s := { s with toks := s.toks + 1 + 1 }) (I.ok.hd hc) ht fun h' hx => ?_
    have I1 : Inv X pins σ H { s with heap := h', toks := s.toks + 1 + 1 } := I0.kept (t' := s.toks + 1 + 1) fun b o e => hx b o (Nat.ne_of_lt (Heap.lt_size e)) e
    cases rv with
    | @cons _ u0 _ ur r0 rr =>
      obtain ⟨tt, rfl⟩ := r0
      have hur : ur.length = ps.length := by simpa using e
      have hyl : ys.length = xs.length := by
        have := rr.length
        omega
      refine wpAny_matchEach_cons (wpAny_matchPattern_Value ?_)
      refine thn ((pe_str (X := X) (x := z) (j := k) (pos := p1)).run pins _ σ H (fun x H' => x = .str z ∧ H' = H) I1 ⟨rfl, rfl⟩) fun zv s1 ⟨x, H1, I1', rz, ex, eh⟩ => ?_
      subst ex
      subst eh
      refine thn (op_eq pins s1 σ H1 (.str y) (.str z) (.str y tt) zv (fun x H' => x = .bl (decide (V.str y = V.str z)) ∧ H' = H1) I1' ⟨tt, rfl⟩ rz ⟨rfl, rfl, rfl⟩) fun c s2 ⟨x, H2, I2, rc, ex, eh⟩ => ?_
      subst ex
      subst eh
      obtain rfl : c = Value.bool (decide (V.str y = V.str z)) := rc
      refine wpAny_truthy_bool ?_
      by_cases eq : y = z
      · have d : decide (V.str y = V.str z) = true := decide_eq_true (by rw [eq])
        rw [d]
        refine matchEach_caps hp hur ?_
        refine assign_caps hN hp hur rr I2 fun s' I' => ?_
        exact hb.run pins s' _ H2 D I' (h1 ⟨eq, hyl⟩)
      · have d : decide (V.str y = V.str z) = false := decide_eq_false (fun q => eq (V.str.inj q))
        rw [d]
        exact hr.run pins s2 σ H2 D (.ref a) _ false I2 rfl (h2 fun q => eq q.1)
  · refine matchSeq_tuple_miss ht hfit (by simpa using e) ?_ hstar hwild
    refine hr.run pins _ σ H D (.ref a) _ false (I.tok _) rfl (h2 fun q => e ?_)
    have := q.2
    simp only [List.length_cons] at hlen
    omega
/-! ### a tuple with no dict, whose methods can be asked -/
def TupN (H : Hp) (a : Addr) (xs : List V) : Prop := ∃ o : Obj, o.cls = .type "tuple" ∧ o.dict = none ∧ H a = some (.frz o (.tup xs))
theorem TupN.sq {K : PySem.W.Frag} {H : Hp} {a : Addr} {xs : List V} (h : TupN H a xs) : SqT K H a xs := let ⟨o, _, _, e⟩ := h; .inl (.inr ⟨o, e⟩)
theorem TupN.mono {H H' : Hp} {a : Addr} {xs : List V} (s : ∀ o, H a = some (.frz o (.tup xs)) → H' a = some (.frz o (.tup xs))) (h : TupN H a xs) : TupN H' a xs := let ⟨o, c, d, e⟩ := h; ⟨o, c, d, s o e⟩
section
variable {X : Cx} {a : Expr} {ta : TE}
def kTupN (K : PySem.W.Frag) (x : V) (H : Hp) (Q : VK) : Prop := ∃ p xs, x = .ref p ∧ SqL K H p xs ∧ ∀ (q : Addr) (o : Obj), H q = none → o.cls = .type "tuple" → o.dict = none → Q (.ref q) (upd H q (.frz o (.tup xs)))
theorem rl_tupleN (pins : List (Addr × Obj)) (s : Shared) (σ : L2.St) (H : Hp) (x : V) (v : Value) (Q : VK) (I : Inv X pins σ H s) (r : RelV x v) (h : kTupN X.K x H Q) :
    wpAny (model X.prog X.w) X.A (call (.type "tuple") [v]) (EP X pins σ Q) X.xe s := by
  obtain ⟨p, xs, rfl, hs, q⟩ := h
  obtain rfl : v = .ref p := r
  obtain ⟨its, rv, pl, hz⟩ := I.list hs
  refine call_tuple_list pl.isList (fun h' hk => ?_) (by rw [List.size_toArray, ← rv.length]; exact hz)
  have I1 : Inv X pins σ H { s with heap := h' } := I.kept (t' := s.toks) hk
  have ob : (h'.push { cls := .type "tuple", data := .seq its.toArray }).get? h'.objs.size = some { cls := .type "tuple", data := .seq its.toArray } := Heap.get?_push_size _ rfl
  have I2 : Inv X pins σ (upd H h'.objs.size (.frz { cls := .type "tuple", data := .seq its.toArray } (.tup xs))) { s with heap := h'.push { cls := .type "tuple", data := .seq its.toArray } } :=
    I1.laid (t' := s.toks) (fun b o e => Heap.get?_push_of_some _ e) (Nat.le_refl _) (show ObjOk X.prog X.w _ _ _ (.frz _ (.tup xs)) from ⟨ob, hz, its, rv, IsTup.new _ _⟩)
  exact ⟨.ref h'.objs.size, _, I2, rfl, q _ _ (I1.hok.fresh (Nat.le_refl _)) rfl rfl⟩
theorem pe_tupleOfN {p pos : Pos} (hg : Gl X "tuple") (hm : X.mg "tuple" = none) (ha : PE X a ta) (na : starEach [a] X.env = (false, eval a X.env) :: starEach [] X.env := by rfl) :
    PE X (.Call (.Name "tuple" p) [a] [] pos) (tThen ta (kTupN X.K)) := by
  refine ⟨fun pins s σ H Q I h => ?_⟩
  exact Call_ (ld_blt I hg hm boot_tuple (PyProof.Rows.callWith_type1 (one_arg ha I h (fun v s2 x H2 I2 r q => rl_tupleN pins s2 σ H2 x v Q I2 r q) na) na))
variable {o e : Expr} {es : List Expr} {to : TE} {t : TA} {name : Str} {apos cpos : Pos} {id : String} {r : V → List V → Hp → VK → Prop}
def tBMN (r : V → List V → Hp → VK → Prop) (to : TE) (t : TA) : TE := fun σ H Q => to σ H fun x H1 => (∃ p xs, x = .ref p ∧ TupN H1 p xs) ∧ t σ H1 fun xs H2 => r x xs H2 Q
theorem pe_bmN (slot : Slot "tuple" name id) (hty : typeOf (.builtin id) = pure (.type "method_descriptor")) (hm : MtR X id r) (ho : PE X o to) (ha : PA X (e :: es) t)
    (hbase : attributeBase o name X.env (eval o X.env) = eval o X.env := by rfl)
    (hfew : ((backTo cpos (starEach (e :: es) X.env)).all (fun x => !x.1) && (backToKw cpos (keywordEach [] X.env)).all (fun x => x.1.isSome)
      && decide ((e :: es).length + ([] : List Keyword).length + (if ([] : List Keyword).isEmpty then 0 else 1) < 30)) = true := by rfl)
    (hline : (apos.endLine == cpos.line) = true := by rfl) (hs : starEach (e :: es) X.env = (false, eval e X.env) :: starEach es X.env := by rfl) (hplain : (backTo cpos (starEach es X.env)).any (·.1) = false := by rfl) :
    PE X (.Call (.Attribute o name apos) (e :: es) [] cpos) (tBMN r to t) := by
  refine ⟨fun pins s σ H Q I h => ?_⟩
  refine wpAny_Call_method_late hbase hfew hline rfl (thn (ho.run pins s σ H _ I h) fun v s1 ⟨x, H1, I1, r1, ⟨p, xs, ex, tn⟩, q1⟩ => ?_)
  subst ex
  obtain rfl : v = .ref p := r1
  obtain ⟨ob, oc, od, eH⟩ := tn
  obtain ⟨eo, _⟩ := I1.hok p _ eH
  refine ⟨"tuple", id, PySem.F.plainAttrs_tuple, slot, hty, ⟨ob, eo, oc⟩, fun b eb => ?_, ?_⟩
  · cases eb
    exact ⟨ob, eo, od⟩
  have hA := ha.run cpos pins s1 σ H1 _ I1 q1
  rw [hs] at hA ⊢
  refine Calls.callWith_builtin (by show (false || (backTo cpos (starEach es X.env)).any (·.1)) = false; rw [hplain] <;> rfl) (Calls.evalArgs_plain ?_)
  exact thn hA fun us s2 ⟨vs, H2, I2, r2, q2⟩ => hm pins s2 σ H2 (.ref p) vs (.ref p) us Q I2 rfl r2 q2
end
end SwA
namespace SwA
open PySem PySem.Spec PyProof.Rows L2
/-! ### l == [], l != [] -/
section
variable {X : Cx}
def rEqNil (K : PySem.W.Frag) : R2 := fun x y H Q => ∃ a b xs, x = .ref a ∧ y = .ref b ∧ SqL K H a xs ∧ SqL K H b [] ∧ Q (.bl (decide (xs = []))) H
def rNeNil (K : PySem.W.Frag) : R2 := fun x y H Q => ∃ a b xs, x = .ref a ∧ y = .ref b ∧ SqL K H a xs ∧ SqL K H b [] ∧ Q (.bl (!decide (xs = []))) H
theorem op_eqNil (hu : X.A.units < cLine) : OpR X (compareOp .Eq) (rEqNil X.K) := by
  intro pins s σ H x y v u Q I rx ry h
  obtain ⟨a, b, xs, rfl, rfl, ha, hb, q⟩ := h
  cases rx
  cases ry
  obtain ⟨its, rv, p, hz⟩ := I.list ha
  obtain ⟨its2, rv2, p2, hz2⟩ := I.list hb
  cases rv2
  show wpAny _ _ (richCompare .Eq (.ref a) (.ref b)) _ _ _
  cases rv with
  | nil =>
    refine SeqAt.RcAt.lists (e := fun _ => true) p.isList p2.isList rfl hu (fun j h1 h2 => absurd h1 (Nat.not_lt_zero _)) _ _ _ _ ?_
    exact ⟨.bl true, H, I, rfl, q⟩
  | cons r rr =>
    refine SeqAt.RcAt.lists_lengths p.isList p2.isList (by simp) hu _ _ _ _ ?_
    exact ⟨.bl false, H, I, rfl, q⟩
theorem op_neNil (hu : X.A.units < cLine) : OpR X (compareOp .NotEq) (rNeNil X.K) := by
  intro pins s σ H x y v u Q I rx ry h
  obtain ⟨a, b, xs, rfl, rfl, ha, hb, q⟩ := h
  cases rx
  cases ry
  obtain ⟨its, rv, p, hz⟩ := I.list ha
  obtain ⟨its2, rv2, p2, hz2⟩ := I.list hb
  cases rv2
  show wpAny _ _ (richCompare .NotEq (.ref a) (.ref b)) _ _ _
  cases rv with
  | nil =>
    refine SeqAt.RcNeAt.lists (e := fun _ => true) p.isList p2.isList rfl hu (fun j h1 h2 => absurd h1 (Nat.not_lt_zero _)) _ _ _ _ ?_
    exact ⟨.bl false, H, I, rfl, q⟩
  | cons r rr =>
    refine SeqAt.RcNeAt.lists_lengths p.isList p2.isList (by simp) hu _ _ _ _ ?_
    exact ⟨.bl true, H, I, rfl, q⟩
end
theorem hu0 {A : Around} {k : Nat} (hr : Room k A) : A.units < cLine := by
  have := hr.units
  omega
end SwA

end

section
set_option maxRecDepth 100000
set_option maxHeartbeats 4000000
/-! the errors' classes -/
namespace Sw
open PySem PySem.Spec PyProof.Rows L2 SwA
/-- a def of the text, as it stands behind the top -/
abbrev FD (K : PySem.W.Frag) (p : Str × Option Str) (x q : Str) (st : Stmt) : Prop := ∃ fd, FunD K x q (defArgs st) (defBody st) (defScope st) [] [] (He.fAd K p) fd
/-- it keeps a promise -/
def FnE (P : Program) (w : World) (K : PySem.W.Frag) (mg : Str → Option Value) (base : Heap) (CX : CXT) (k : Nat) (p : Str × Option Str) (ps : List Str) (sp : Sp) : Prop :=
  ∃ fd, FnOk P w K mg base CX k (He.fAd K p) fd ps sp ∧ Binds K fd ps [] ∧ PySem.W.keepIn K (.ref (He.fAd K p)) = true
/-- an error's class with an __init__ of its own, its fields -/
structure ExcC (K : PySem.W.Frag) (mg : Str → Option Value) (x : Str) (fields : List Str) : Prop where
  g : mg x = some (.ref (He.ga K x))
  o : OexC K (He.ga K x)
  i : PySem.W.findIn K (.ref (He.ga K x)) "__init__" = some (some (.ref (He.ma K (He.ga K x) "__init__")))
  t : PySem.W.typeIn K (.ref (He.ma K (He.ga K x) "__init__")) = some (.type "function")
  n : ∀ f ∈ fields, PySem.W.findIn K (.ref (He.ga K x)) f = some none
theorem excCB_ok {K : PySem.W.Frag} {h : Heap} {mg : Str → Option Value} (X : K.In h) (G : h.Ns mainGlobals mg) {x : Str} {fields : List Str} (c : excCB K x fields = true) : ExcC K mg x fields := by
  obtain ⟨c1, c⟩ := He.ba c
  obtain ⟨c2, c⟩ := He.ba c
  obtain ⟨c3, c⟩ := He.ba c
  obtain ⟨c4, c5⟩ := He.ba c
  exact ⟨He.glo_ok X G c1, oexB_ok c2, He.eqO_ok c3, of_decide_eq_true c4, fun f hf => He.eqO_ok (List.all_eq_true.mp c5 f hf)⟩
/-- SweepError, whose __init__ is ValueError's -/
structure BaseT (K : PySem.W.Frag) (mg : Str → Option Value) : Prop where
  g : mg "SweepError" = some (.ref (He.ga K "SweepError"))
  cr : ClX.CRead K (He.ga K "SweepError") (.type "type")
  vv : PySem.W.findCls K (.ref (He.ga K "SweepError")) (.type "type") "__init__" = some (.val (.builtin "ValueError.__init__"))
structure ErrT (K : PySem.W.Frag) (mg : Str → Option Value) : Prop where
  base : BaseT K mg
  syn : ExcC K mg "SyntaxFault" ["line", "column"]
  d_syn : FD K ("SyntaxFault", some "__init__") "__init__" "SyntaxFault.__init__" s_SyntaxFault_init
section
variable {P : Program} {w : World} {K : PySem.W.Frag} {mg : Str → Option Value} {base : Heap}
theorem sc_syn : FnScope ["self", "line", "column"] ["self", "line", "column"] (defScope s_SyntaxFault_init) := ⟨rfl, rfl, rfl, by decide +kernel, rfl, by decide +kernel, by decide +kernel⟩
theorem ok_syn (T : ErrT K mg) : FnE P w K mg base CX0 1 ("SyntaxFault", some "__init__") ["self", "line", "column"] (spFault (He.ga K "SyntaxFault") ["line", "column"]) := by
  obtain ⟨fd, F⟩ := T.d_syn
  refine ⟨fd, F.ok sc_syn (fun vs H Q E h => ?_) (fun cdv A outer s H vs Q E hr h => ?_), F.bindsN fun _ _ _ _ _ _ us hl => match us, hl with | [_, _, _], _ => rfl, F.kp⟩
  · obtain ⟨a, args, rfl, e, _⟩ := h
    simp [e]
  · obtain ⟨a, args, rfl, e, ha, k⟩ := h
    obtain ⟨v1, v2, rfl⟩ : ∃ v1 v2, args = [v1, v2] := by
      match args, e with
      | [v1, v2], _ => exact ⟨v1, v2, rfl⟩
    refine ⟨_, PSs.nox (pss_cons (ps_expr (pe_ownveinit rfl T.base.g T.base.cr T.base.vv (pa_cons (pv 0) (pa_cons (pv 1) (pa_cons (pv 2) pa_nil)))))
      (pss_cons (ps_ost (pv 0) (pv 1)) (pss_one (ps_ost (pv 0) (pv 2))))), ?_⟩
    refine ⟨_, rfl, _, rfl, _, rfl, a, _, _, rfl, by simp, T.syn.o, ha, ?_⟩
    refine ⟨_, rfl, _, rfl, a, _, rfl, T.syn.o, T.syn.n _ (by simp), Or.inl ⟨ha, fun dx ndx da => ?_⟩⟩
    refine ⟨_, rfl, _, rfl, a, _, rfl, T.syn.o, T.syn.n _ (by simp), Or.inr ⟨dx, _, upd_same, by rw [upd_ne da, upd_same], by simp, ?_⟩⟩
    exact k dx _ ndx da (by rw [upd_ne (Ne.symm da), upd_same]) upd_same fun b h1 h2 => by rw [upd_ne h2, upd_ne h1, upd_ne h2]
end
end Sw

end

section
set_option maxRecDepth 100000
set_option maxHeartbeats 4000000
/-! the lexer, walked -/
namespace Sw
open PySem PySem.Spec PyProof.Rows L2 SwA
/-- a class whose __init__ stores its arguments -/
structure MkC (K : PySem.W.Frag) (mg : Str → Option Value) (x : Str) (fields : List Str) : Prop where
  g : mg x = some (.ref (He.ga K x))
  m : Mk K (He.ga K x) (He.ma K (He.ga K x) "__init__")
  c : Cls K (He.ga K x)
  n : ∀ f ∈ fields, NoAttr K (He.ga K x) f
theorem mkCB_ok {K : PySem.W.Frag} {h : Heap} {mg : Str → Option Value} (X : K.In h) (G : h.Ns mainGlobals mg) {x : Str} {fields : List Str} (c : mkCB K x fields = true) : MkC K mg x fields := by
  obtain ⟨c1, c⟩ := He.ba c
  obtain ⟨c2, c⟩ := He.ba c
  obtain ⟨c3, c4⟩ := He.ba c
  exact ⟨He.glo_ok X G c1, He.mkr_ok c2, He.cls_ok c3, fun f hf => He.noat_ok (List.all_eq_true.mp c4 f hf)⟩
structure LexT (K : PySem.W.Frag) (mg : Str → Option Value) : Prop where
  e : ErrT K mg
  len : mg "len" = none
  enumerate : mg "enumerate" = none
  tok : MkC K mg "Token" tokF
  d_tok : FD K ("Token", some "__init__") "__init__" "Token.__init__" s_Token_init
  d_run_end : FD K ("run_end", none) "run_end" "run_end" s_run_end
  g_run_end : mg "run_end" = some (.ref (He.ga K "run_end"))
  d_read_token : FD K ("read_token", none) "read_token" "read_token" s_read_token
  g_read_token : mg "read_token" = some (.ref (He.ga K "read_token"))
  d_tokenize : FD K ("tokenize", none) "tokenize" "tokenize" s_tokenize
  g_tokenize : mg "tokenize" = some (.ref (He.ga K "tokenize"))
  SIGNS : ∃ t, mg "SIGNS" = some (.str ";" t)
  DIGITS : ∃ t, mg "DIGITS" = some (.str "0123456789" t)
  LETTERS : ∃ t, mg "LETTERS" = some (.str "abcdefghijklmnopqrstuvwxyz" t)
  SPACES : ∃ t, mg "SPACES" = some (.str " \n" t)
  SIGN : ∃ t, mg "SIGN" = some (.str "sign" t)
  NUMBER : ∃ t, mg "NUMBER" = some (.str "number" t)
  KEYWORD : ∃ t, mg "KEYWORD" = some (.str "keyword" t)
  NAME : ∃ t, mg "NAME" = some (.str "name" t)
  END : ∃ t, mg "END" = some (.str "end" t)
  MAX_DIGITS : ∃ t, mg "MAX_DIGITS" = some (.int 2 t)
  MAX_LETTERS : ∃ t, mg nMaxLetters = some (.int 8 t)
  KEYWORDS : mg "KEYWORDS" = some (.ref (He.ga K "KEYWORDS"))
  kws : ∀ H : Hp, SqT K H (He.ga K "KEYWORDS") (kws.map fun w => V.str (sx w))
/-- a token's object -/
def TokAt (K : PySem.W.Frag) (H : Hp) (a : Addr) (t : Tk) : Prop := ∃ dx, H a = some (.ins (He.ga K "Token") dx [("kind", .str t.kind.str), ("text", .str (sx t.text)), ("line", .int t.line), ("column", .int t.col)])
def synFs (line col : Nat) : List (Str × V) := [("column", .int col), ("line", .int line)]
/-- a SyntaxFault leaves -/
def Syn (K : PySem.W.Frag) (H : Hp) (E : XK) (line col : Nat) : Prop := ∀ (d : Addr) (H' : Hp), Same H H' → H' d = some (.xd (synFs line col)) → E (.ref (He.ga K "SyntaxFault")) (some d) H'
section
variable {P : Program} {w : World} {K : PySem.W.Frag} {mg : Str → Option Value} {base : Heap}
def spRunEnd : Sp := fun vs H Q _ => ∃ (row : Cs) (s : Nat) (z : Str), vs = [.str (sx row), .int s, .str z] ∧ row.length ≤ 100000 ∧ s ≤ row.length ∧
  Q (.int ((s + ((row.drop s).takeWhile fun c => decide (c ∈ z.cps.toList)).length : Nat) : Int)) H
theorem sc_run_end : FnScope ["row", "start", "letters", "end"] ["row", "start", "letters"] (defScope s_run_end) := ⟨rfl, rfl, rfl, by decide +kernel, rfl, by decide +kernel, by decide +kernel⟩
theorem len_sx (l : Cs) : (sx l).length = l.length := by simp [sx, Str.length]
theorem sz5 {n : Nat} (h : n ≤ 100000) : n ≤ sizeLine := Nat.le_trans h (by decide)
theorem tw_le (p : Nat → Bool) (l : Cs) : (l.takeWhile p).length ≤ l.length := (List.takeWhile_sublist p).length_le
theorem at_sx {l : Cs} {i : Nat} (h : i < l.length) : (sx l).cps[((i : Nat) : Int).toNat]? = some l[i] := by
  rw [Int.toNat_natCast]
  simp [sx, h]
theorem tw_in {p : Nat → Bool} : ∀ {l : Cs} {s i : Nat} (q : i < ((l.drop s).takeWhile p).length) (h : s + i < l.length), p l[s + i] = true
  | [], s, i, q, h => absurd h (by simp)
  | c :: r, 0, i, q, h => by
    rw [List.drop_zero] at q
    cases e : p c with
    | false => rw [List.takeWhile_cons, e] at q; simp at q
    | true =>
      rw [List.takeWhile_cons, e] at q
      cases i with
      | zero => simpa using e
      | succ i =>
        have z := tw_in (p := p) (l := r) (s := 0) (i := i) (by simpa using q) (by simpa using h)
        simpa using z
  | c :: r, s + 1, i, q, h => by
    have h' : s + i < r.length := by simp at h; omega
    have z := tw_in (p := p) (l := r) (s := s) (i := i) (by simpa using q) h'
    have e : s + 1 + i = (s + i) + 1 := by omega
    simp only [e, List.getElem_cons_succ]
    exact z
theorem tw_stop {p : Nat → Bool} : ∀ {l : Cs} {s i : Nat} (q : i = ((l.drop s).takeWhile p).length) (h : s + i < l.length), p l[s + i] = false
  | [], s, i, q, h => absurd h (by simp)
  | c :: r, 0, i, q, h => by
    rw [List.drop_zero] at q
    cases e : p c with
    | false =>
      rw [List.takeWhile_cons, e] at q
      simp at q
      subst q
      simpa using e
    | true =>
      rw [List.takeWhile_cons, e] at q
      simp at q
      subst q
      have z := tw_stop (p := p) (l := r) (s := 0) rfl (by simp at h; simpa using h)
      simpa using z
  | c :: r, s + 1, i, q, h => by
    have h' : s + i < r.length := by simp at h; omega
    have z := tw_stop (p := p) (l := r) (s := s) (i := i) (by simpa using q) h'
    have e : s + 1 + i = (s + i) + 1 := by omega
    simp only [e, List.getElem_cons_succ]
    exact z
theorem ok_run_end (T : LexT K mg) : FnE P w K mg base CX0 1 ("run_end", none) ["row", "start", "letters"] spRunEnd := by
  obtain ⟨fd, F⟩ := T.d_run_end
  refine ⟨fd, F.ok sc_run_end (fun vs H Q E h => ?_) (fun cdv A outer s H vs Q E hr h => ?_), F.bindsN fun _ _ _ _ _ _ us hl => match us, hl with | [_, _, _], _ => rfl, F.kp⟩
  · obtain ⟨row, s, z, rfl, _⟩ := h
    rfl
  · obtain ⟨row, s, z, rfl, hl, hs, k⟩ := h
    refine ⟨_, PSs.nox (pss_cons (ps_set (i := 3) sc_run_end.nd rfl (.inl rfl) (pv 1))
      (pss_cons (ps_while PassesOwn.never (PW.pt (pw_and (pt_cmpR op_lt (pv 3) (pe_callB call_len_str (by rfl) T.len boot_len (pa_cons (pv 0) pa_nil)) (nomark _))
          (pw_and1 (pt_cmpR op_in_sign (pe_item_str (pv 0) (pv 3) (fun _ _ => rfl)) (pv 2) rfl))))
        (pss_one (ps_aug (i := 3) sc_run_end.nd rfl (.inl rfl) pe_int ip_add)))
      (pss_one (ps_ret (pv 3))))), ?_⟩
    refine ⟨_, rfl, ?_⟩
    refine ⟨fun m σ H' => ∃ k : Nat, m + k = ((row.drop s).takeWhile fun c => decide (c ∈ z.cps.toList)).length ∧ H' = H ∧ σ = [some (.str (sx row)), some (.int s), some (.str z), some (.int ((s + k : Nat) : Int))], ⟨_, 0, rfl, rfl, rfl⟩, ?_⟩
    rintro m σ H' ⟨i, hm, rfl, rfl⟩
    refine ⟨_, rfl, _, rfl, _, rfl, by rw [len_sx]; exact sz5 hl, _, _, rfl, rfl, _, rfl, ?_⟩
    refine ite2 (fun h => ?_) (fun h => ?_)
    · have h' : s + i < row.length := by
        have h := of_decide_eq_true h
        rw [len_sx] at h
        omega
      refine ⟨_, rfl, _, rfl, sx row, ((s + i : Nat) : Int), row[s + i], rfl, rfl, by omega, by omega, by rw [len_sx]; omega, ?_, _, rfl, _, _, rfl, rfl, _, rfl, ?_⟩
      · exact at_sx h'
      · refine ite2 (fun h2 => ?_) (fun h2 => ?_)
        · have h2 : decide (row[s + i] ∈ z.cps.toList) = true := h2
          have lt : i < ((row.drop s).takeWhile fun c => decide (c ∈ z.cps.toList)).length := by
            refine Nat.lt_of_le_of_ne (by omega) fun e => ?_
            exact absurd h2 (by rw [tw_stop (p := fun c => decide (c ∈ z.cps.toList)) (l := row) (s := s) (i := i) e h']; exact Bool.false_ne_true)
          refine ⟨_, fun _ _ n => n, _, rfl, _, _, rfl, rfl, m - 1, by omega, i + 1, by omega, rfl, ?_⟩
          simp
          omega
        · have h2 : ¬ decide (row[s + i] ∈ z.cps.toList) = true := h2
          have e : i = ((row.drop s).takeWhile fun c => decide (c ∈ z.cps.toList)).length := by
            refine Nat.le_antisymm (by omega) (Nat.le_of_not_lt fun q => h2 ?_)
            exact tw_in (p := fun c => decide (c ∈ z.cps.toList)) (l := row) (s := s) (i := i) q h'
          refine ⟨_, rfl, ?_⟩
          rw [e]
          exact k
    · have h' : row.length ≤ s + i := by
        have h : ¬ ((s + i : Nat) : Int) < ((sx row).length : Int) := fun q => h (decide_eq_true q)
        rw [len_sx] at h
        omega
      have e : i = ((row.drop s).takeWhile fun c => decide (c ∈ z.cps.toList)).length := by
        have z1 : ((row.drop s).takeWhile fun c => decide (c ∈ z.cps.toList)).length ≤ (row.drop s).length := tw_le _ _
        rw [List.length_drop] at z1
        omega
      refine iteF ⟨_, rfl, ?_⟩
      rw [e]
      exact k
theorem putF_le (f : Str) (v : V) : ∀ fs : List (Str × V), (putF f v fs).length ≤ fs.length + 1
  | [] => by simp [putF]
  | (g, x) :: r => by
    unfold putF
    split
    · simp
    · have := putF_le f v r
      simp only [List.length_cons]
      omega
theorem ln0 : ([] : List (Str × V)).length ≤ 0 := Nat.le_refl 0
theorem lnS {f : Str} {v : V} {fs : List (Str × V)} {n : Nat} (h : fs.length ≤ n) : (putF f v fs).length ≤ n + 1 := Nat.le_trans (putF_le f v fs) (Nat.succ_le_succ h)
theorem lnZ {fs : List (Str × V)} {n : Nat} (h : fs.length ≤ n) (hn : n < 1000 := by decide) : fs.length < 1000 := Nat.lt_of_le_of_lt h hn
theorem sc_tok : FnScope ["self", "kind", "text", "line", "column"] ["self", "kind", "text", "line", "column"] (defScope s_Token_init) := ⟨rfl, rfl, rfl, by decide +kernel, rfl, by decide +kernel, by decide +kernel⟩
theorem put_tok (a b c d : V) : putF "column" d (putF "line" c (putF "text" b (putF "kind" a []))) = ([("kind", a), ("text", b), ("line", c), ("column", d)] : List (Str × V)) := by kernel_rfl
theorem ok_tok (T : LexT K mg) : FnE P w K mg base CX0 1 ("Token", some "__init__") ["self", "kind", "text", "line", "column"] (spInit (He.ga K "Token") tokF) := by
  obtain ⟨fd, F⟩ := T.d_tok
  refine ⟨fd, F.ok sc_tok (fun vs H Q E h => ?_) (fun cdv A outer s H vs Q E hr h => ?_), F.bindsN fun _ _ _ _ _ _ us hl => match us, hl with | [_, _, _, _, _], _ => rfl, F.kp⟩
  · obtain ⟨a, dx, args, rfl, e, _⟩ := h
    simp [e]
  · obtain ⟨p, dx, args, rfl, e, hp, k⟩ := h
    obtain ⟨v1, v2, v3, v4, rfl⟩ : ∃ v1 v2 v3 v4, args = [v1, v2, v3, v4] := by
      match args, e with
      | [v1, v2, v3, v4], _ => exact ⟨v1, v2, v3, v4, rfl⟩
    refine ⟨_, PSs.nox (pss_cons (ps_fld (pv 0) (pv 1) rfl) (pss_cons (ps_fld (pv 0) (pv 2) rfl) (pss_cons (ps_fld (pv 0) (pv 3) rfl) (pss_one (ps_fld (pv 0) (pv 4) rfl))))), ?_⟩
    refine ⟨_, rfl, _, rfl, p, _, dx, _, rfl, hp, T.tok.c, T.tok.n _ (by simp), lnZ ln0, ?_⟩
    refine ⟨_, rfl, _, rfl, p, _, dx, _, rfl, upd_same, T.tok.c, T.tok.n _ (by simp), lnZ (lnS ln0), ?_⟩
    refine ⟨_, rfl, _, rfl, p, _, dx, _, rfl, upd_same, T.tok.c, T.tok.n _ (by simp), lnZ (lnS (lnS ln0)), ?_⟩
    refine ⟨_, rfl, _, rfl, p, _, dx, _, rfl, upd_same, T.tok.c, T.tok.n _ (by simp), lnZ (lnS (lnS (lnS ln0))), ?_⟩
    refine k _ ?_ fun b hb => by rw [upd_ne hb, upd_ne hb, upd_ne hb, upd_ne hb]
    rw [upd_same, put_tok]
    rfl
end
end Sw

end

section
set_option maxRecDepth 100000
set_option maxHeartbeats 4000000
namespace Sw
open PySem PySem.Spec PyProof.Rows L2 SwA
section
variable {P : Program} {w : World} {K : PySem.W.Frag} {mg : Str → Option Value} {base : Heap}
/-! ### texts as codes -/
theorem mem_digits (c : Nat) : decide (c ∈ ("0123456789" : Str).cps.toList) = isD c := by
  have e : ("0123456789" : Str).cps.toList = [48, 49, 50, 51, 52, 53, 54, 55, 56, 57] := by decide +kernel
  rw [e]
  simp only [isD, List.mem_cons, List.not_mem_nil, or_false]
  rw [Bool.eq_iff_iff]
  simp
  omega
theorem mem_letters (c : Nat) : decide (c ∈ ("abcdefghijklmnopqrstuvwxyz" : Str).cps.toList) = isL c := by
  have e : ("abcdefghijklmnopqrstuvwxyz" : Str).cps.toList = [97, 98, 99, 100, 101, 102, 103, 104, 105, 106, 107, 108, 109, 110, 111, 112, 113, 114, 115, 116, 117, 118, 119, 120, 121, 122] := by decide +kernel
  rw [e]
  simp only [isL, List.mem_cons, List.not_mem_nil, or_false]
  rw [Bool.eq_iff_iff]
  simp
  omega
theorem mem_signs (c : Nat) : decide (c ∈ (";" : Str).cps.toList) = decide (c = 59) := by
  have e : (";" : Str).cps.toList = [59] := by decide +kernel
  rw [e]
  simp
theorem mem_spaces (c : Nat) : decide (c ∈ (" \n" : Str).cps.toList) = isS c := by
  have e : (" \n" : Str).cps.toList = [32, 10] := by decide +kernel
  rw [e]
  simp [isS, Bool.decide_or, BEq.beq]
/-- a slice of a row -/
theorem cut_sx {l : Cs} {a n : Nat} (h : a + n ≤ l.length) : cutS (sx l) (some (a : Int)) (some ((a + n : Nat) : Int)) = sx ((l.drop a).take n) := by
  unfold cutS
  rw [HT.sIx_nat, HT.sIx_nat, len_sx, Nat.min_eq_left h, Nat.min_eq_left (by omega : a ≤ l.length), Nat.add_sub_cancel_left]
  rfl
theorem tw_take (p : Nat → Bool) : ∀ l : Cs, l.take (l.takeWhile p).length = l.takeWhile p
  | [] => rfl
  | c :: r => by
    cases e : p c with
    | false => simp [List.takeWhile_cons, e]
    | true => simp [List.takeWhile_cons, e, tw_take p r]
theorem eq_str_sx (a b : Cs) : eqV (V.str (sx a)) (V.str (sx b)) = decide (a = b) := by
  show (sx a == sx b) = decide (a = b)
  rw [Bool.eq_iff_iff, beq_iff_eq, decide_eq_true_iff]
  exact ⟨fun h => sx_inj h, fun h => by rw [h]⟩
theorem inV_sx (a : Cs) (l : List Cs) : inV (V.str (sx a)) (l.map fun w => V.str (sx w)) = decide (a ∈ l) := by
  unfold inV
  induction l with
  | nil => simp
  | cons b r ih =>
    rw [List.map_cons, List.any_cons, ih, eq_str_sx]
    rw [Bool.eq_iff_iff]
    simp only [Bool.or_eq_true, decide_eq_true_eq, List.mem_cons]
    exact or_congr ⟨Eq.symm, Eq.symm⟩ Iff.rfl
theorem flat_sx (l : List Cs) : (l.map fun w => V.str (sx w)).all flatV = true := by
  induction l with
  | nil => rfl
  | cons b r ih => rw [List.map_cons, List.all_cons, ih]; rfl
theorem sign_inj {c d : Nat} {z : Str} (h : (⟨#[c]⟩ : Str) = z) (e : z = ⟨#[d]⟩) : c = d := by
  rw [e] at h
  injection h with h
  injection h with h
  injection h
/-! ### read_token -/
def spReadTok (K : PySem.W.Frag) : Sp := fun vs H Q E => ∃ (row : Cs) (line col : Nat), vs = [.str (sx row), .int line, .int col] ∧ row.length ≤ 100000 ∧ col < row.length ∧
  (∀ t, readTok line col (row.drop col) = some t → ∀ (a : Addr) (H' : Hp), H a = none → Same H H' → TokAt K H' a t → Q (.ref a) H') ∧
  (readTok line col (row.drop col) = none → Syn K H E line col)
theorem sc_read_token : FnScope ["row", "line", "column", "first", "word"] ["row", "line", "column"] (defScope s_read_token) := ⟨rfl, rfl, rfl, by decide +kernel, rfl, by decide +kernel, by decide +kernel⟩
theorem ok_read_token (T : LexT K mg) : FnE P w K mg base (L2.CX P w) 3 ("read_token", none) ["row", "line", "column"] (spReadTok K) := by
  obtain ⟨fd, F⟩ := T.d_read_token
  obtain ⟨fdR, GR, bR, kR⟩ := ok_run_end (P := P) (w := w) (base := base) T
  obtain ⟨fdT, GT, bT, kT⟩ := ok_tok (P := P) (w := w) (base := base) T
  obtain ⟨fdS, GS, bS, kS⟩ := ok_syn (P := P) (w := w) (base := base) T.e
  obtain ⟨t1, mSIGNS⟩ := T.SIGNS
  obtain ⟨t2, mDIGITS⟩ := T.DIGITS
  obtain ⟨t3, mLETTERS⟩ := T.LETTERS
  obtain ⟨t4, mSIGN⟩ := T.SIGN
  obtain ⟨t5, mNUMBER⟩ := T.NUMBER
  obtain ⟨t6, mKEYWORD⟩ := T.KEYWORD
  obtain ⟨t7, mNAME⟩ := T.NAME
  obtain ⟨t8, mMAXD⟩ := T.MAX_DIGITS
  obtain ⟨t9, mMAXL⟩ := T.MAX_LETTERS
  refine ⟨fd, F.ok sc_read_token (fun vs H Q E h => ?_) (fun cdv A outer s H vs Q E hr h => ?_), F.bindsN fun _ _ _ _ _ _ us hl => match us, hl with | [_, _, _], _ => rfl, F.kp⟩
  · obtain ⟨row, line, col, rfl, _⟩ := h
    rfl
  · obtain ⟨row, line, col, rfl, hl, hc, hT, hE⟩ := h
    have hr1 : Room 1 _ := hr.mono (by decide)
    refine ⟨_, (pss_cons (ps_set (i := 3) sc_read_token.nd rfl (.inl rfl) (pe_item_str (pv 0) (pv 2) (fun _ _ => rfl)))
      (pss_cons (ps_if (pt_cmpR op_in_sign (pv 3) (pe_glob (v := .str ";") rfl mSIGNS ⟨_, rfl⟩) rfl)
          (pss_one (ps_ret (pe_make T.tok.m GT hr rfl T.tok.g bT .nil pass0 (pa_cons (pe_glob (v := .str "sign") rfl mSIGN ⟨_, rfl⟩) (pa_cons (pv 3) (pa_cons (pv 1) (pa_cons (pv 2) pa_nil)))))))
          pss_nil)
      (pss_cons (ps_if (pt_cmpR op_in_sign (pv 3) (pe_glob (v := .str "0123456789") rfl mDIGITS ⟨_, rfl⟩) rfl)
          (pss_cons (ps_set (i := 4) sc_read_token.nd rfl (.inl rfl) (pe_slice sl_str (pv 0) (po_some (pv 2)) (po_some (pe_call GR hr1 rfl T.g_run_end kR bR .nil pass0
              (pa_cons (pv 0) (pa_cons (pv 2) (pa_cons (pe_glob (v := .str "0123456789") rfl mDIGITS ⟨_, rfl⟩) pa_nil)))))))
          (pss_cons (ps_if (PW.pt (pw_or (pt_cmpR op_gt (pe_callB call_len_str (by rfl) T.len boot_len (pa_cons (pv 4) pa_nil)) (pe_glob (v := .int 2) rfl mMAXD ⟨_, rfl⟩) (nomark _))
              (pw_or1 (PW.pt (pw_and (pt_cmpR op_gt (pe_callB call_len_str (by rfl) T.len boot_len (pa_cons (pv 4) pa_nil)) pe_int (nomark _)) (pw_and1 (pt_cmpR op_eq (pv 3) pe_str (nomark _))))))))
              (pss_one (ps_raise rfl (takes_of rfl rfl rfl rfl) (pmk_oex T.e.syn.o T.e.syn.i T.e.syn.t GS hr bS .nil pass0 rfl T.e.syn.g (pa_cons (pv 1) (pa_cons (pv 2) pa_nil)))))
              pss_nil)
          (pss_one (ps_ret (pe_make T.tok.m GT hr rfl T.tok.g bT .nil pass0 (pa_cons (pe_glob (v := .str "number") rfl mNUMBER ⟨_, rfl⟩) (pa_cons (pv 4) (pa_cons (pv 1) (pa_cons (pv 2) pa_nil)))))))))
          pss_nil)
      (pss_cons (ps_set (i := 4) sc_read_token.nd rfl (.inl rfl) (pe_slice sl_str (pv 0) (po_some (pv 2)) (po_some (pe_call GR hr1 rfl T.g_run_end kR bR .nil pass0
              (pa_cons (pv 0) (pa_cons (pv 2) (pa_cons (pe_glob (v := .str "abcdefghijklmnopqrstuvwxyz") rfl mLETTERS ⟨_, rfl⟩) pa_nil)))))))
      (pss_cons (ps_if (pt_cmpR op_in_seq (pv 4) (pe_glob (v := .ref (He.ga K "KEYWORDS")) rfl T.KEYWORDS rfl) rfl)
          (pss_one (ps_ret (pe_make T.tok.m GT hr rfl T.tok.g bT .nil pass0 (pa_cons (pe_glob (v := .str "keyword") rfl mKEYWORD ⟨_, rfl⟩) (pa_cons (pv 4) (pa_cons (pv 1) (pa_cons (pv 2) pa_nil)))))))
          pss_nil)
      (pss_cons (ps_if (pt_not (pt_chain op_le op_le pe_int (pe_callB call_len_str (by rfl) T.len boot_len (pa_cons (pv 4) pa_nil)) (pe_glob (v := .int 8) rfl mMAXL ⟨_, rfl⟩)))
          (pss_one (ps_raise rfl (takes_of rfl rfl rfl rfl) (pmk_oex T.e.syn.o T.e.syn.i T.e.syn.t GS hr bS .nil pass0 rfl T.e.syn.g (pa_cons (pv 1) (pa_cons (pv 2) pa_nil)))))
          pss_nil)
      (pss_one (ps_ret (pe_make T.tok.m GT hr rfl T.tok.g bT .nil pass0 (pa_cons (pe_glob (v := .str "name") rfl mNAME ⟨_, rfl⟩) (pa_cons (pv 4) (pa_cons (pv 1) (pa_cons (pv 2) pa_nil))))))))))))), ?_⟩
    have e0 : row.drop col = row[col] :: row.drop (col + 1) := List.drop_eq_getElem_cons hc
    have fin : ∀ (kd : Kd) (tx : Cs) (z : Str), z = kd.str → readTok line col (row.drop col) = some ⟨kd, tx, line, col⟩ → ∀ (x : Addr) (H2 : Hp), H x = none → Same H H2 →
        (∃ dx, H2 x = some (.ins (He.ga K "Token") dx (tokF.zip [.str z, .str (sx tx), .int line, .int col]))) → Q (.ref x) H2 := fun kd tx z ez er x H2 nx sm hx => by
      subst ez
      exact hT _ er x H2 nx sm hx
    have bad : readTok line col (row.drop col) = none → ∀ (d : Addr) (H2 : Hp), H d = none → Same H H2 → H2 d = some (.xd ((["line", "column"] : List Str).zip [V.int line, V.int col]).reverse) → E (.ref (He.ga K "SyntaxFault")) (some d) H2 :=
      fun er d H2 _ sm hx => hE er d H2 sm hx
    refine ⟨_, rfl, _, rfl, sx row, (col : Int), row[col], rfl, rfl, by omega, by omega, by rw [len_sx]; omega, at_sx hc, ?_⟩
    refine ⟨_, rfl, row[col], ";", rfl, rfl, _, rfl, ?_⟩
    refine ite2 (fun h => ?_) (fun h => ?_)
    · -- a sign
      have h1 : row[col] = 59 := by
        have h := h
        rw [mem_signs] at h
        exact of_decide_eq_true h
      refine ⟨_, rfl, _, rfl, _, rfl, mk_at rfl ?_⟩
      have e1 : (⟨#[row[col]]⟩ : Str) = sx [59] := by rw [h1]; rfl
      rw [e1]
      refine fin .sign [59] "sign" rfl ?_
      rw [e0]
      simp [readTok, h1]
    have h1 : row[col] ≠ 59 := by
      have h := h
      rw [mem_signs] at h
      exact fun q => h (decide_eq_true q)
    refine ⟨_, rfl, row[col], "0123456789", rfl, rfl, _, rfl, ?_⟩
    refine ite2 (fun h => ?_) (fun h => ?_)
    · -- a number
      have h2 : isD row[col] = true := by
        have h := h
        rw [mem_digits] at h
        exact h
      have ew : ((row.drop col).takeWhile fun c => decide (c ∈ ("0123456789" : Str).cps.toList)) = (row.drop col).takeWhile isD := by
        congr 1
        exact funext mem_digits
      have hle : col + ((row.drop col).takeWhile isD).length ≤ row.length := by
        have z := tw_le isD (row.drop col)
        rw [List.length_drop] at z
        omega
      refine ⟨_, rfl, _, rfl, _, rfl, _, rfl, _, rfl, row, col, _, rfl, hl, Nat.le_of_lt hc, ?_⟩
      rw [ew]
      refine ⟨_, rfl, sx row, rfl, by rw [len_sx]; exact sz5 hl, ?_⟩
      rw [cut_sx hle, tw_take]
      have hz : (sx ((row.drop col).takeWhile isD)).length ≤ sizeLine := by
        rw [len_sx]
        exact sz5 (by omega)
      refine ⟨_, rfl, _, rfl, hz, _, _, rfl, rfl, _, rfl, ?_⟩
      have rd : readTok line col (row.drop col) = if 2 < ((row.drop col).takeWhile isD).length ∨ (1 < ((row.drop col).takeWhile isD).length ∧ row[col] = 48) then none else some ⟨.number, (row.drop col).takeWhile isD, line, col⟩ := by
        conv => lhs; rw [e0]
        simp only [readTok, if_neg h1, if_pos h2]
        rw [← e0]
      have ok2 : ¬ (2 < ((row.drop col).takeWhile isD).length ∨ (1 < ((row.drop col).takeWhile isD).length ∧ row[col] = 48)) → ∀ (x : Addr) (H2 : Hp), H x = none → Same H H2 →
          (∃ dx, H2 x = some (.ins (He.ga K "Token") dx (tokF.zip [.str "number", .str (sx ((row.drop col).takeWhile isD)), .int line, .int col]))) → Q (.ref x) H2 :=
        fun q => fin .number _ "number" rfl (by rw [rd, if_neg q])
      have bad2 : (2 < ((row.drop col).takeWhile isD).length ∨ (1 < ((row.drop col).takeWhile isD).length ∧ row[col] = 48)) → ∀ (d : Addr) (H2 : Hp), H d = none → Same H H2 → H2 d = some (.xd ((["line", "column"] : List Str).zip [V.int line, V.int col]).reverse) → E (.ref (He.ga K "SyntaxFault")) (some d) H2 :=
        fun q => bad (by rw [rd, if_pos q])
      rw [len_sx]
      refine ite2 (fun h3 => ?_) (fun h3 => ?_)
      · have h3 := of_decide_eq_true h3
        refine iteT ⟨_, rfl, _, rfl, fault_at rfl (by simp) (bad2 (Or.inl (by omega)))⟩
      · have h3 : ¬ (2 : Int) < ((((row.drop col).takeWhile isD).length : Nat) : Int) := fun q => h3 (decide_eq_true q)
        refine ⟨_, rfl, _, rfl, hz, _, _, rfl, rfl, _, rfl, ?_⟩
        rw [len_sx]
        refine ite2 (fun h4 => ?_) (fun h4 => ?_)
        · have h4 := of_decide_eq_true h4
          refine ⟨_, rfl, rfl, _, rfl, ?_⟩
          refine ite2 (fun h5 => ?_) (fun h5 => ?_)
          · have h5 := V.str.inj (of_decide_eq_true h5)
            have h6 : row[col] = 48 := sign_inj h5 (by decide +kernel)
            exact ⟨_, rfl, _, rfl, fault_at rfl (by simp) (bad2 (Or.inr ⟨by omega, h6⟩))⟩
          · have h6 : row[col] ≠ 48 := fun q => h5 (decide_eq_true (by rw [q]; decide +kernel))
            exact ⟨_, rfl, _, rfl, _, rfl, mk_at rfl (ok2 (by
              rintro (q | q)
              · omega
              · exact h6 q.2))⟩
        · have h4 : ¬ (1 : Int) < ((((row.drop col).takeWhile isD).length : Nat) : Int) := fun q => h4 (decide_eq_true q)
          refine iteF ⟨_, rfl, _, rfl, _, rfl, mk_at rfl (ok2 (by
              rintro (q | q)
              · omega
              · omega))⟩
    · -- a word
      have h2 : ¬ isD row[col] = true := by
        have h := h
        rw [mem_digits] at h
        exact h
      have ew : ((row.drop col).takeWhile fun c => decide (c ∈ ("abcdefghijklmnopqrstuvwxyz" : Str).cps.toList)) = (row.drop col).takeWhile isL := by
        congr 1
        exact funext mem_letters
      have hle : col + ((row.drop col).takeWhile isL).length ≤ row.length := by
        have z := tw_le isL (row.drop col)
        rw [List.length_drop] at z
        omega
      have rd : readTok line col (row.drop col) = if (row.drop col).takeWhile isL ∈ kws then some ⟨.keyword, (row.drop col).takeWhile isL, line, col⟩
          else if 1 ≤ ((row.drop col).takeWhile isL).length ∧ ((row.drop col).takeWhile isL).length ≤ 8 then some ⟨.name, (row.drop col).takeWhile isL, line, col⟩ else none := by
        conv => lhs; rw [e0]
        simp only [readTok, if_neg h1, if_neg h2]
        rw [← e0]
      refine ⟨_, rfl, _, rfl, _, rfl, _, rfl, _, rfl, row, col, _, rfl, hl, Nat.le_of_lt hc, ?_⟩
      rw [ew]
      refine ⟨_, rfl, sx row, rfl, by rw [len_sx]; exact sz5 hl, ?_⟩
      rw [cut_sx hle, tw_take]
      have hz : (sx ((row.drop col).takeWhile isL)).length ≤ sizeLine := by
        rw [len_sx]
        exact sz5 (by omega)
      refine ⟨_, rfl, _, _, rfl, Or.inr (T.kws H), rfl, flat_sx kws, _, rfl, ?_⟩
      refine ite2 (fun h3 => ?_) (fun h3 => ?_)
      · have h3 : (row.drop col).takeWhile isL ∈ kws := by
          have h3 : inV (V.str (sx ((row.drop col).takeWhile isL))) (kws.map fun w => V.str (sx w)) = true := h3
          rw [inV_sx] at h3
          exact of_decide_eq_true h3
        exact ⟨_, rfl, _, rfl, _, rfl, mk_at rfl (fin .keyword _ "keyword" rfl (by rw [rd, if_pos h3]))⟩
      · have h3 : ¬ (row.drop col).takeWhile isL ∈ kws := fun q => h3 (by
          show inV (V.str (sx ((row.drop col).takeWhile isL))) (kws.map fun w => V.str (sx w)) = true
          rw [inV_sx]
          exact decide_eq_true q)
        refine ⟨_, rfl, _, rfl, hz, ?_⟩
        rw [len_sx]
        refine ⟨_, _, rfl, rfl, _, rfl, ?_⟩
        refine ite2 (fun h4 => ?_) (fun h4 => ?_)
        · have h4 := of_decide_eq_true h4
          refine ⟨_, _, rfl, rfl, _, rfl, ?_⟩
          refine ite2 (fun h5 => ?_) (fun h5 => ?_)
          · have h5 : ¬ ((((row.drop col).takeWhile isL).length : Nat) : Int) ≤ 8 := fun q => by
              rw [decide_eq_true q] at h5
              exact absurd h5 (by decide)
            exact ⟨_, rfl, _, rfl, fault_at rfl (by simp) (bad (by rw [rd, if_neg h3, if_neg (by omega)]))⟩
          · have h5 : ((((row.drop col).takeWhile isL).length : Nat) : Int) ≤ 8 := Decidable.byContradiction fun q => h5 (by rw [decide_eq_false q]; rfl)
            exact ⟨_, rfl, _, rfl, _, rfl, mk_at rfl (fin .name _ "name" rfl (by rw [rd, if_neg h3, if_pos (by omega)]))⟩
        · have h4 : ¬ (1 : Int) ≤ ((((row.drop col).takeWhile isL).length : Nat) : Int) := fun q => h4 (decide_eq_true q)
          exact ⟨_, rfl, iteT ⟨_, rfl, _, rfl, fault_at rfl (by simp) (bad (by rw [rd, if_neg h3, if_neg (by omega)]))⟩⟩
end
end Sw

end

section
set_option maxRecDepth 100000
set_option maxHeartbeats 4000000
namespace Sw
open PySem PySem.Spec PyProof.Rows L2 SwA
section
variable {P : Program} {w : World} {K : PySem.W.Frag} {mg : Str → Option Value} {base : Heap}
/-! ### the rows -/
theorem split_sx (text : Cs) : Txt.split (sx text) "\n" = (rowsOf text).map sx := by
  refine TL.map_tl_inj ?_
  have e : TL.tl ("\n" : Str) = [10] := by decide +kernel
  rw [TL.split_spl (sx text) "\n" (by rw [e]; simp) (TL.kind_ok (by decide +kernel)), e, List.map_map]
  show rowsOf text = (rowsOf text).map (fun l => l)
  rw [List.map_id']
theorem spl_sum : ∀ (l acc : Cs), ((TL.spl [10] 0 acc l).map List.length).sum ≤ acc.length + l.length
  | [], acc => by simp [TL.spl]
  | c :: r, acc => by
    unfold TL.spl
    split
    · have z := spl_sum r []
      simp only [List.map_cons, List.sum_cons, List.length_cons, List.length_nil] at z ⊢
      have z2 : ((TL.spl [10] (0 + 1 - 1) [] r).map List.length).sum ≤ 0 + r.length := z
      omega
    · have z := spl_sum r (acc ++ [c])
      simp only [List.length_append, List.length_cons, List.length_nil] at z ⊢
      omega
theorem rows_sum (text : Cs) : ((rowsOf text).map List.length).sum ≤ text.length := by
  have z := spl_sum text []
  rw [List.length_nil, Nat.zero_add] at z
  exact z
theorem sum_take : ∀ (l : List Nat) (i : Nat), (l.take i).sum ≤ l.sum
  | [], i => by simp
  | a :: r, 0 => by simp
  | a :: r, i + 1 => by
    have z := sum_take r i
    simp only [List.take_succ_cons, List.sum_cons]
    omega
theorem sum_take_succ {l : List Nat} {i a : Nat} (h : l[i]? = some a) : (l.take (i + 1)).sum = (l.take i).sum + a := by
  rw [List.take_succ, h]
  simp
theorem spl_ne (l acc : Cs) : TL.spl [10] 0 acc l ≠ [] := by
  cases l with
  | nil => simp [TL.spl]
  | cons c r =>
    unfold TL.spl
    split
    · simp
    · exact spl_ne r (acc ++ [c])
theorem spl_len : ∀ (l acc : Cs), (TL.spl [10] 0 acc l).length ≤ l.length + 1
  | [], acc => by simp [TL.spl]
  | c :: r, acc => by
    unfold TL.spl
    split
    · have z := spl_len r []
      have z2 : (TL.spl [10] ([10].length - 1) [] r).length ≤ r.length + 1 := z
      simp only [List.length_cons] at z2 ⊢
      omega
    · have z := spl_len r (acc ++ [c])
      simp only [List.length_cons]
      omega
/-! ### the tokens' objects -/
abbrev TksAt (K : PySem.W.Frag) (H : Hp) (tas : List Addr) (ts : List Tk) : Prop := Paired (fun a t => TokAt K H a t) tas ts
theorem TokAt.same {H H' : Hp} {a : Addr} {t : Tk} (s : Same H H') (h : TokAt K H a t) : TokAt K H' a t := let ⟨dx, e⟩ := h; ⟨dx, s _ _ e⟩
theorem TksAt.same {H H' : Hp} {tas : List Addr} {ts : List Tk} (s : Same H H') (h : TksAt K H tas ts) : TksAt K H' tas ts := Paired.mapP h fun _ _ x => x.same s
theorem TokAt.upd {H : Hp} {a l : Addr} {xs ys : List V} {t : Tk} (hl : H l = some (.lst xs)) (h : TokAt K H a t) : TokAt K (upd H l (.lst ys)) a t := by
  obtain ⟨dx, e⟩ := h
  exact ⟨dx, by rw [upd_ne (ne_of e hl (by intro z; cases z))]; exact e⟩
theorem TksAt.upd {H : Hp} {l : Addr} {xs ys : List V} {tas : List Addr} {ts : List Tk} (hl : H l = some (.lst xs)) (h : TksAt K H tas ts) : TksAt K (L2.upd H l (.lst ys)) tas ts := Paired.mapP h fun _ _ x => x.upd hl
theorem Paired_snoc {α β : Type} {F : α → β → Prop} : ∀ {l : List α} {m : List β} {a : α} {b : β}, Paired F l m → F a b → Paired F (l ++ [a]) (m ++ [b])
  | _, _, _, _, .nil, h => .cons h .nil
  | _, _, _, _, .cons x r, h => .cons x (Paired_snoc r h)
theorem sameUpd {H H' : Hp} {p : Addr} {o : HO} (s : Same H H') (h : H p = none) : Same H (upd H' p o) := fun b u e => by
  rw [upd_ne (ne_of_none e h)]
  exact s b u e
theorem Syn.mono {H H' : Hp} {E : XK} {l c : Nat} (h : Syn K H E l c) (s : Same H H') : Syn K H' E l c := fun d H2 s2 e => h d H2 (s.trans s2) e
theorem lk_text {a b c d : V} : List.lookup ("text" : Str) ([("kind", a), ("text", b), ("line", c), ("column", d)] : List (Str × V)) = some b := by kernel_rfl
theorem lk_kind {a b c d : V} : List.lookup ("kind" : Str) ([("kind", a), ("text", b), ("line", c), ("column", d)] : List (Str × V)) = some a := by kernel_rfl
theorem lk_line {a b c d : V} : List.lookup ("line" : Str) ([("kind", a), ("text", b), ("line", c), ("column", d)] : List (Str × V)) = some c := by kernel_rfl
theorem lk_col {a b c d : V} : List.lookup ("column" : Str) ([("kind", a), ("text", b), ("line", c), ("column", d)] : List (Str × V)) = some d := by kernel_rfl
theorem str_nil : ("" : Str) = sx [] := by decide +kernel
/-! ### tokenize -/
def spTokenize (K : PySem.W.Frag) : Sp := fun vs H Q E => ∃ text : Cs, vs = [.str (sx text)] ∧ text.length ≤ 90000 ∧
  (∀ ts, tokenize text = .ok ts → ∀ (a : Addr) (tas : List Addr) (H' : Hp), H a = none → Same H H' → H' a = some (.lst (tas.map V.ref)) → TksAt K H' tas ts → Q (.ref a) H') ∧
  (∀ l c, tokenize text = .error (l, c) → Syn K H E l c)
theorem sc_tokenize : FnScope ["source", "tokens", "rows", "line", "row", "column", "token"] ["source"] (defScope s_tokenize) := ⟨rfl, rfl, rfl, by decide +kernel, rfl, by decide +kernel, by decide +kernel⟩
/-- what is left of the rows, what is done -/
def RowsInv (rows : List Cs) (i : Nat) (done : List Tk) : Prop :=
  (∀ e, lexRows i (rows.drop i) = .error e → lexRows 0 rows = .error e) ∧ (∀ us, lexRows i (rows.drop i) = .ok us → lexRows 0 rows = .ok (done ++ us))
def RowInv (line : Nat) (row : Cs) (f c : Nat) (done : List Tk) : Prop :=
  (row.drop c).length ≤ f ∧ (∀ e, lexRow line f c (row.drop c) = .error e → lexRow line row.length 0 row = .error e) ∧ (∀ us, lexRow line f c (row.drop c) = .ok us → lexRow line row.length 0 row = .ok (done ++ us))
theorem readTok_len {line col : Nat} {rest : Cs} {t : Tk} (h : readTok line col rest = some t) : 1 ≤ t.text.length ∧ t.text.length ≤ rest.length := by
  unfold readTok at h
  split at h
  · cases h
  · rename_i c r
    split at h
    · cases h; simp
    · split at h
      · rename_i hd
        split at h
        · cases h
        · cases h
          have z := tw_le isD (c :: r)
          refine ⟨?_, z⟩
          simp [List.takeWhile_cons, hd]
      · split at h
        · rename_i hk
          cases h
          refine ⟨?_, tw_le isL (c :: r)⟩
          refine Nat.pos_of_ne_zero fun z => ?_
          have z' : (c :: r).takeWhile isL = [] := List.length_eq_zero_iff.mp z
          rw [z'] at hk
          exact absurd hk (by decide)
        · split at h
          · rename_i hk
            cases h
            exact ⟨hk.1, tw_le isL (c :: r)⟩
          · cases h
theorem ok_tokenize (T : LexT K mg) : FnE P w K mg base (L2.CX P w) 4 ("tokenize", none) ["source"] (spTokenize K) := by
  obtain ⟨fd, F⟩ := T.d_tokenize
  obtain ⟨fdR, GR, bR, kR⟩ := ok_read_token (P := P) (w := w) (base := base) T
  obtain ⟨fdT, GT, bT, kT⟩ := ok_tok (P := P) (w := w) (base := base) T
  obtain ⟨t1, mSPACES⟩ := T.SPACES
  obtain ⟨t2, mEND⟩ := T.END
  refine ⟨fd, F.ok sc_tokenize (fun vs H Q E h => ?_) (fun cdv A outer s H vs Q E hr h => ?_), F.bindsN fun _ _ _ _ _ _ us hl => match us, hl with | [_], _ => rfl, F.kp⟩
  · obtain ⟨text, rfl, _⟩ := h
    rfl
  · obtain ⟨text, rfl, hl, hT, hE⟩ := h
    have hr1 : Room 2 _ := hr.mono (by decide)
    refine ⟨_, (pss_cons (ps_set (i := 1) sc_tokenize.nd rfl (.inl rfl) (pe_lst pa_nil))
      (pss_cons (ps_set (i := 2) sc_tokenize.nd rfl (.inl rfl) (pe_split (pv 0) pe_str))
      (pss_cons (ps_for (passes_of rfl) rfl (pi_enum (by rfl) T.enumerate (pa_cons (pv 2) pa_nil)) (pg_tup rfl (pgs_cons (pg_name (i := 3) sc_tokenize.nd rfl (.inl rfl)) (pgs_cons (pg_name (i := 4) sc_tokenize.nd rfl (.inl rfl)) pgs_nil)))
        (pss_cons (ps_set (i := 5) sc_tokenize.nd rfl (.inl rfl) pe_int)
        (pss_one (ps_while (passes_of rfl) (pt_cmpR op_lt (pv 5) (pe_callB call_len_str (by rfl) T.len boot_len (pa_cons (pv 4) pa_nil)) (nomark _))
          (pss_one (ps_if (pt_cmpR op_in_sign (pe_item_str (pv 4) (pv 5) (fun _ _ => rfl)) (pe_glob (v := .str " \n") rfl mSPACES ⟨_, rfl⟩) rfl)
            (pss_one (ps_aug (i := 5) sc_tokenize.nd rfl (.inl rfl) pe_int ip_add))
            (pss_cons (ps_set (i := 6) sc_tokenize.nd rfl (.inl rfl) (pe_call GR hr rfl T.g_read_token kR bR .nil (passes_call (takes_of rfl rfl rfl rfl) (fun _ _ _ _ h => h)) (pa_cons (pv 4) (pa_cons (pv 3) (pa_cons (pv 5) pa_nil)))))
            (pss_cons (ps_expr (pe_bm PySem.F.plainAttrs_list PySem.F.slot_list_append PySem.F.type_list_append mt_append (pv 1) (pa_cons (pv 6) pa_nil)))
            (pss_one (ps_aug (i := 5) sc_tokenize.nd rfl (.inl rfl) (pe_callB call_len_str (by rfl) T.len boot_len (pa_cons (pe_fld (pv 6) rfl) pa_nil)) ip_add))))))))))
      (pss_one (ps_ret (pe_op op_cat (pv 1) (pe_lst (pa_cons (pe_make T.tok.m GT hr1 rfl T.tok.g bT .nil pass0 (pa_cons (pe_glob (v := .str "end") rfl mEND ⟨_, rfl⟩) (pa_cons pe_str (pa_cons (pe_callB call_len_seq (by rfl) T.len boot_len (pa_cons (pv 2) pa_nil)) (pa_cons pe_int pa_nil))))) pa_nil)))))))), ?_⟩
    refine ⟨by simp, fun tl ntl => ?_⟩
    refine ⟨_, rfl, ⟨_, rfl⟩, sx text, "\n", rfl, rfl, by decide +kernel, by rw [len_sx, sizeLine_eq]; omega, ?_⟩
    rw [split_sx]
    intro rl nrl
    have ntr : rl ≠ tl := by
      rintro rfl
      rw [upd_same] at nrl
      cases nrl
    have nrl' : H rl = none := by
      rw [upd_ne ntr] at nrl
      exact nrl
    refine ⟨_, rfl, rl, _, rfl, SqL.of upd_same, for_it (walk_enum (K := K) (a := rl) (xs := ((rowsOf text).map sx).map V.str)) (fun i σ H' => ∃ (done : List Tk) (tas : List Addr) (o3 o4 o5 o6 : Option V),
        σ = [some (.str (sx text)), some (.ref tl), some (.ref rl), o3, o4, o5, o6] ∧ Same H H' ∧ H' tl = some (.lst (tas.map V.ref)) ∧ H' rl = some (.lst (((rowsOf text).map sx).map V.str)) ∧
        TksAt K H' tas done ∧ done.length ≤ (((rowsOf text).map List.length).take i).sum ∧ RowsInv (rowsOf text) i done) ?_ ?_ ?_ ?_⟩
    · refine ⟨[], [], none, none, none, none, rfl, sameUpd (sameUpd (Same.refl H) ntl) nrl', by rw [upd_ne ntr.symm, upd_same]; rfl, upd_same, .nil, by simp, fun e h => h, fun us h => h⟩
    · rintro i σ H' hi ⟨done, tas, o3, o4, o5, o6, rfl, sm, h1, h2, _⟩
      exact SqL.of h2
    · rintro i x σ H1 H2 hi ⟨done, tas, o3, o4, o5, o6, rfl, sm, h1, h2, htk, hdl, hri⟩ ⟨T0, x1, y1, rfl, nT, rfl, e1, e2⟩
      cases e1
      rw [List.length_map, List.length_map] at hi
      have er : (rowsOf text)[i]? = some (rowsOf text)[i] := List.getElem?_eq_getElem hi
      have ey : y1 = .str (sx (rowsOf text)[i]) := by
        have e2 : (((rowsOf text).map sx).map V.str)[i]? = some y1 := e2
        rw [List.getElem?_map, List.getElem?_map, er] at e2
        exact (Option.some.inj e2).symm
      subst ey
      generalize hrow : (rowsOf text)[i] = row at er
      have hsum : (((rowsOf text).map List.length).take (i + 1)).sum = (((rowsOf text).map List.length).take i).sum + row.length := sum_take_succ (by rw [List.getElem?_map, er]; rfl)
      have htot : (((rowsOf text).map List.length).take (i + 1)).sum ≤ text.length := Nat.le_trans (sum_take _ _) (rows_sum text)
      have hdrop : (rowsOf text).drop i = row :: (rowsOf text).drop (i + 1) := by rw [List.drop_eq_getElem_cons hi, hrow]
      have hlr : row.length ≤ 100000 := by omega
      refine ⟨T0, _, rfl, SqT.of upd_same, rfl, _, _, rfl, _, _, rfl, rfl, ?_⟩
      have g1 : (upd H1 T0 (.tup [.int (i : Nat), .str (sx row)])) tl = some (.lst (tas.map V.ref)) := by rw [upd_ne (ne_of_none h1 nT)]; exact h1
      have g2 : (upd H1 T0 (.tup [.int (i : Nat), .str (sx row)])) rl = some (.lst (((rowsOf text).map sx).map V.str)) := by rw [upd_ne (ne_of_none h2 nT)]; exact h2
      have smT : Same H1 (upd H1 T0 (.tup [.int (i : Nat), .str (sx row)])) := sameUpd (Same.refl H1) nT
      refine ⟨fun m σ H3 => ∃ (c f : Nat) (doneR : List Tk) (tas : List Addr) (o6 : Option V), m + c = row.length ∧ σ = [some (.str (sx text)), some (.ref tl), some (.ref rl), some (.int (i : Nat)), some (.str (sx row)), some (.int (c : Nat)), o6] ∧
        Same H H3 ∧ H3 tl = some (.lst (tas.map V.ref)) ∧ H3 rl = some (.lst (((rowsOf text).map sx).map V.str)) ∧ TksAt K H3 tas (done ++ doneR) ∧ doneR.length ≤ c ∧ RowInv i row f c doneR,
        ⟨row.length, 0, row.length, [], tas, o6, rfl, rfl, sm.trans smT, g1, g2, by rw [List.append_nil]; exact htk.same smT, Nat.le_refl _, by unfold RowInv; rw [List.drop_zero]; exact ⟨Nat.le_refl _, fun e h => h, fun us h => h⟩⟩, ?_⟩
      rintro m σ H3 ⟨c, f, doneR, tas3, o6', hm, rfl, sm3, k1, k2, ktk, kdl, kin⟩
      refine ⟨_, rfl, _, rfl, _, rfl, by rw [len_sx]; exact sz5 hlr, _, _, rfl, rfl, _, rfl, ?_⟩
      refine ite2 (fun h => ?_) (fun h => ?_)
      · have hc : c < row.length := by
          have h := of_decide_eq_true h
          rw [len_sx] at h
          omega
        have e0 : row.drop c = row[c] :: row.drop (c + 1) := List.drop_eq_getElem_cons hc
        obtain ⟨kf, ke, ko⟩ := kin
        obtain ⟨f', rfl⟩ : ∃ f', f = f' + 1 := ⟨f - 1, by rw [e0] at kf; simp at kf; omega⟩
        refine ⟨_, fun _ _ n => n, ?_⟩
        refine ⟨_, rfl, _, rfl, sx row, (c : Int), row[c], rfl, rfl, by omega, by omega, by rw [len_sx]; omega, at_sx hc, row[c], _, rfl, rfl, _, rfl, ?_⟩
        refine ite2 (fun h5 => ?_) (fun h5 => ?_)
        · have h5 : isS row[c] = true := by
            have h5 := h5
            rw [mem_spaces] at h5
            exact h5
          refine ⟨_, rfl, _, _, rfl, rfl, m - 1, by omega, c + 1, f', doneR, tas3, o6', by omega, rfl, sm3, k1, k2, ktk, by omega, ?_⟩
          have es : lexRow i (f' + 1) c (row.drop c) = lexRow i f' (c + 1) (row.drop (c + 1)) := by
            rw [e0]
            simp only [lexRow, if_pos h5]
          refine ⟨?_, fun e q => ke e (by rw [es]; exact q), fun us q => ko us (by rw [es]; exact q)⟩
          rw [e0] at kf
          simp only [List.length_cons] at kf
          omega
        · have h5 : ¬ isS row[c] = true := by
            have h5 := h5
            rw [mem_spaces] at h5
            exact h5
          refine ⟨_, rfl, _, rfl, _, rfl, row, i, c, rfl, hlr, hc, fun t ht a H4 na sm4 hta => ?_, fun hn => ?_⟩
          · have j1 := sm4 _ _ k1
            have j2 := sm4 _ _ k2
            obtain ⟨l1, l2⟩ := readTok_len ht
            rw [List.length_drop] at l2
            have hcount : (tas3.map V.ref).length < sizeLine := by
              rw [List.length_map, ktk.length, List.length_append, sizeLine_eq]
              omega
            obtain ⟨dx, hdx⟩ := hta.upd (ys := tas3.map V.ref ++ [V.ref a]) j1
            refine ⟨_, rfl, .inl ⟨rfl, _, SqL.of j1⟩, _, rfl, tl, _, _, rfl, rfl, j1, hcount, ?_⟩
            refine ⟨_, rfl, _, rfl, a, _, dx, _, _, rfl, hdx, T.tok.c, T.tok.n _ (by simp), lk_text, _, rfl, by rw [len_sx]; exact sz5 (by omega), _, _, rfl, rfl, ?_⟩
            refine ⟨m - t.text.length, by omega, c + t.text.length, f', doneR ++ [t], tas3 ++ [a], _, by omega, by rw [len_sx]; rfl, sameUpd (sm3.trans sm4) ntl, by rw [upd_same, List.map_append]; rfl, by rw [upd_ne ntr]; exact j2, ?_, by simp; omega, ?_⟩
            · rw [← List.append_assoc]
              exact Paired_snoc ((ktk.same sm4).upd j1) ⟨dx, hdx⟩
            · have es : ∀ r, lexRow i f' (c + t.text.length) (row.drop (c + t.text.length)) = r → lexRow i (f' + 1) c (row.drop c) = (match r with | .error e => .error e | .ok ts => .ok (t :: ts)) := by
                intro r q
                have ed : (row[c] :: row.drop (c + 1)).drop t.text.length = row.drop (c + t.text.length) := by rw [← e0, List.drop_drop]
                conv => lhs; rw [e0]
                simp only [lexRow, if_neg h5]
                rw [← e0, ht]
                simp only
                rw [e0, ed, q]
                all_goals (cases r <;> rfl)
              refine ⟨?_, fun e q => ke e (by rw [es _ q]), fun us q => ?_⟩
              · rw [List.length_drop] at kf ⊢
                omega
              · have z := ko (t :: us) (by rw [es _ q])
                rw [z, List.append_assoc]
                rfl
          · have es : lexRow i (f' + 1) c (row.drop c) = .error (i, c) := by
              conv => lhs; rw [e0]
              simp only [lexRow, if_neg h5]
              rw [← e0, hn]
            have z1 := ke _ es
            have z2 : lexRows 0 (rowsOf text) = .error (i, c) := hri.1 _ (by rw [hdrop]; simp only [lexRows, z1])
            exact (hE i c (by simp only [tokenize, z2])).mono sm3
      · have hc : c = row.length := by
          have h : ¬ ((c : Nat) : Int) < ((sx row).length : Int) := fun q => h (decide_eq_true q)
          rw [len_sx] at h
          omega
        obtain ⟨kf, ke, ko⟩ := kin
        have ed : row.drop c = [] := by rw [hc]; exact List.drop_length
        have z1 : lexRow i row.length 0 row = .ok doneR := by
          have z := ko [] (by rw [ed]; cases f <;> rfl)
          rw [z, List.append_nil]
        refine ⟨done ++ doneR, tas3, _, _, _, _, rfl, sm3, k1, k2, ktk, by rw [hsum, List.length_append]; omega, fun e q => hri.1 e ?_, fun us q => ?_⟩
        · rw [hdrop]
          simp only [lexRows, z1, q]
        · have z := hri.2 (doneR ++ us) (by rw [hdrop]; simp only [lexRows, z1, q])
          rw [z, List.append_assoc]
    · rintro σ H1 ⟨done, tas, o3, o4, o5, o6, rfl, sm, h1, h2, htk, hdl, hri⟩
      rw [List.length_map, List.length_map] at hri hdl
      have hlen : (rowsOf text).length ≤ text.length + 1 := spl_len text []
      have hdn : done.length ≤ text.length := Nat.le_trans hdl (Nat.le_trans (sum_take _ _) (rows_sum text))
      have z1 : lexRows 0 (rowsOf text) = .ok done := by
        have z := hri.2 [] (by rw [List.drop_length]; rfl)
        rw [z, List.append_nil]
      refine ⟨_, rfl, _, rfl, rl, _, rfl, .inl (SqL.of h2), ?_⟩
      intro x dx0 nx ndx ne0
      refine init_at (names := tokF) rfl nx ndx fun H5 sm5 hx => ⟨rfl, ?_⟩
      refine ⟨(by show 1 ≤ sizeLine; decide), fun l nl => ?_⟩
      have nlt : tl ≠ l := ne_of_none (sm5 _ _ h1) nl
      refine ⟨tl, l, _, _, rfl, rfl, by rw [upd_ne nlt]; exact sm5 _ _ h1, upd_same, ?_, fun p np => ?_⟩
      · rw [List.length_map, htk.length, sizeLine_eq]
        simp
        omega
      · have npl : p ≠ l := by
          rintro rfl
          rw [upd_same] at np
          cases np
        rw [upd_ne npl] at np
        have s1 : Same H5 (upd (upd H5 l (.lst [.ref x])) p (.lst (tas.map V.ref ++ [.ref x]))) := sameUpd (sameUpd (Same.refl H5) nl) np
        have nH : H p = none := (sm.trans sm5).free np
        refine hT (done ++ [⟨.fin, [], (rowsOf text).length, 0⟩]) (by simp only [tokenize, z1]) p (tas ++ [x]) _ nH ((sm.trans sm5).trans s1) (by rw [upd_same, List.map_append]; rfl) ?_
        refine Paired_snoc (htk.same (sm5.trans s1)) ?_
        obtain ⟨dx, hdx⟩ := hx
        refine ⟨dx, ?_⟩
        rw [s1 _ _ hdx, List.length_map, List.length_map, str_nil]
        rfl
end
end Sw

end

section
set_option maxRecDepth 100000
set_option maxHeartbeats 4000000
/-! the parser's object -/
namespace Sw
open PySem PySem.Spec PyProof.Rows L2 SwA
abbrev sV (w : Cs) : V := .str (sx w)
/-- where the parser's parts stand -/
structure PLoc where
  tl : Addr
  fl : Addr
  sl : Addr
  ml : Addr
  rl : Addr
  rd : Addr
  pd : Addr
  sd : Addr
def parF (L : PLoc) (at_ : Nat) : List (Str × V) := [("tokens", .ref L.tl), ("at", .int at_), ("faults", .ref L.fl), ("signs", .ref L.sl), ("moods", .ref L.ml), ("robots", .ref L.rl), ("rules", .ref L.rd), ("pairs", .ref L.pd), ("spots", .ref L.sd)]
def FaultsAt (H : Hp) : Nat → List Addr → List (Nat × Nat × Cs) → Prop
  | _, [], [] => True
  | i, a :: as, f :: fs => H a = some (.tup [.int f.1, .int f.2.1, .int (i : Nat), sV f.2.2]) ∧ FaultsAt H (i + 1) as fs
  | _, _, _ => False
def keyT (q : Nat × Nat) : List Key := [.inl q.1, .inl q.2]
def RuleAt (H : Hp) (r : (Nat × Nat) × Rule) (kv : List Key × V) : Prop := kv.1 = keyT r.1 ∧ ∃ t, kv.2 = .ref t ∧ H t = some (.tup [.int r.2.left, sV r.2.move, .int r.2.later])
def RulesAt (H : Hp) (rd : Addr) (rules : List ((Nat × Nat) × Rule)) : Prop := ∃ kvs, H rd = some (.dT kvs) ∧ Paired (RuleAt H) rules kvs
def RobAt (H : Hp) (a : Addr) (r : Nat × Bool) : Prop := H a = some (.tup [.int r.1, .bl r.2])
def pairK (q : Cs × Cs) : List Key × V := ([.inr (sx q.1), .inr (sx q.2)], .bl true)
def spotK (q : Nat × Nat) : Key × V := (.inl q.1, .int q.2)
/-- the parser at p: its state -/
structure PA (K : PySem.W.Frag) (H0 H : Hp) (p : Addr) (L : PLoc) (tas : List Addr) (T : List Tk) (st : PSt) : Prop where
  same : Same H0 H
  ob : ∃ dx, H p = some (.ins (He.ga K "Parser") dx (parF L st.at_))
  tk : H L.tl = some (.lst (tas.map V.ref))
  tks : TksAt K H tas T
  fa : ∃ fas : List Addr, H L.fl = some (.lst (fas.map V.ref)) ∧ FaultsAt H 0 fas st.faults
  si : H L.sl = some (.lst (st.signs.map sV))
  mo : H L.ml = some (.lst (st.moods.map sV))
  ro : ∃ ras : List Addr, H L.rl = some (.lst (ras.map V.ref)) ∧ Paired (RobAt H) ras st.robots
  ru : RulesAt H L.rd st.rules
  pr : H L.pd = some (.dT (st.pairs.map pairK))
  sp : H L.sd = some (.dK (st.spots.map spotK))
  nd : [p, L.tl, L.fl, L.sl, L.ml, L.rl, L.rd, L.pd, L.sd].Nodup
  new : ∀ a ∈ [p, L.tl, L.fl, L.sl, L.ml, L.rl, L.rd, L.pd, L.sd], H0 a = none
theorem FaultsAt.mono {H H' : Hp} (s : ∀ a xs, H a = some (.tup xs) → H' a = some (.tup xs)) : ∀ {i : Nat} {as : List Addr} {fs : List (Nat × Nat × Cs)}, FaultsAt H i as fs → FaultsAt H' i as fs
  | _, [], [], h => h
  | _, a :: as, f :: fs, h => ⟨s _ _ h.1, FaultsAt.mono s h.2⟩
  | _, [], _ :: _, h => h.elim
  | _, _ :: _, [], h => h.elim
theorem FaultsAt.snoc {H : Hp} {a : Addr} {f : Nat × Nat × Cs} : ∀ {i : Nat} {as : List Addr} {fs : List (Nat × Nat × Cs)}, FaultsAt H i as fs → H a = some (.tup [.int f.1, .int f.2.1, .int ((i + fs.length : Nat) : Int), sV f.2.2]) → FaultsAt H i (as ++ [a]) (fs ++ [f])
  | _, [], [], _, e => ⟨e, trivial⟩
  | i, b :: as, g :: fs, h, e => ⟨h.1, FaultsAt.snoc h.2 (by
      have z : i + 1 + fs.length = i + (g :: fs).length := by simp only [List.length_cons]; omega
      rw [z]
      exact e)⟩
  | _, [], _ :: _, h, _ => h.elim
  | _, _ :: _, [], h, _ => h.elim
theorem FaultsAt.len {H : Hp} : ∀ {i : Nat} {as : List Addr} {fs : List (Nat × Nat × Cs)}, FaultsAt H i as fs → as.length = fs.length
  | _, [], [], _ => rfl
  | _, a :: as, f :: fs, h => by simp [FaultsAt.len h.2]
  | _, [], _ :: _, h => h.elim
  | _, _ :: _, [], h => h.elim
theorem RuleAt.mono {H H' : Hp} (s : ∀ a xs, H a = some (.tup xs) → H' a = some (.tup xs)) {r : (Nat × Nat) × Rule} {kv : List Key × V} (h : RuleAt H r kv) : RuleAt H' r kv :=
  let ⟨e, t, e1, e2⟩ := h
  ⟨e, t, e1, s _ _ e2⟩
section
variable {K : PySem.W.Frag} {H0 H H' : Hp} {p : Addr} {L : PLoc} {tas : List Addr} {T : List Tk} {st : PSt}
/-- more objects -/
theorem PA.mono (h : PA K H0 H p L tas T st) (s : Same H H') : PA K H0 H' p L tas T st where
  same := h.same.trans s
  ob := let ⟨dx, e⟩ := h.ob; ⟨dx, s _ _ e⟩
  tk := s _ _ h.tk
  tks := h.tks.same s
  fa := let ⟨fas, e1, e2⟩ := h.fa; ⟨fas, s _ _ e1, e2.mono fun _ _ z => s _ _ z⟩
  si := s _ _ h.si
  mo := s _ _ h.mo
  ro := let ⟨ras, e1, e2⟩ := h.ro; ⟨ras, s _ _ e1, Paired.mapP e2 fun _ _ z => s _ _ z⟩
  ru := let ⟨kvs, e1, e2⟩ := h.ru; ⟨kvs, s _ _ e1, Paired.mapP e2 fun _ _ z => z.mono fun _ _ z => s _ _ z⟩
  pr := s _ _ h.pr
  sp := s _ _ h.sp
  nd := h.nd
  new := h.new
/-- what is changed is neither a tuple nor an object of another kind: the rest -/
theorem keepT {x : Addr} {o o' : HO} (hx : H x = some o) (ht : ∀ xs, o ≠ .tup xs) : ∀ a xs, H a = some (.tup xs) → (upd H x o') a = some (.tup xs) := fun a xs e => by
  rw [upd_ne (ne_of e hx fun z => ht xs z.symm)]
  exact e
theorem keepK {x : Addr} {o o' : HO} (hx : H x = some o) (hi : ∀ C d fs, o = .ins C d fs → C ≠ He.ga K "Token") : ∀ a t, TokAt K H a t → TokAt K (upd H x o') a t := fun a t ⟨dx, e⟩ => by
  refine ⟨dx, ?_⟩
  rw [upd_ne (ne_of e hx fun z => hi _ _ _ z.symm rfl)]
  exact e
/-- self.at += 1 -/
theorem PA.setAt (h : PA K H0 H p L tas T st) (hPT : He.ga K "Parser" ≠ He.ga K "Token") {dx : Addr} {n : Nat} (e : H p = some (.ins (He.ga K "Parser") dx (parF L st.at_))) :
    PA K H0 (upd H p (.ins (He.ga K "Parser") dx (parF L n))) p L tas T { st with at_ := n } := by
  have z := h.nd
  simp only [List.nodup_cons, List.mem_cons, List.not_mem_nil, or_false, not_or] at z
  obtain ⟨⟨z1, z2, z3, z4, z5, z6, z7, z8⟩, _⟩ := z
  have kt := keepT (o' := .ins (He.ga K "Parser") dx (parF L n)) e (fun xs q => by cases q)
  have kk := keepK (K := K) (o' := .ins (He.ga K "Parser") dx (parF L n)) e (fun C d fs q => by cases q; exact hPT)
  refine ⟨sameUpd h.same (h.new _ (by simp)), ⟨dx, upd_same⟩, ?_, Paired.mapP h.tks fun a t q => kk a t q, ?_, ?_, ?_, ?_, ?_, ?_, ?_, h.nd, h.new⟩
  · rw [upd_ne (Ne.symm z1)]; exact h.tk
  · obtain ⟨fas, e1, e2⟩ := h.fa
    exact ⟨fas, by rw [upd_ne (Ne.symm z2)]; exact e1, e2.mono kt⟩
  · rw [upd_ne (Ne.symm z3)]; exact h.si
  · rw [upd_ne (Ne.symm z4)]; exact h.mo
  · obtain ⟨ras, e1, e2⟩ := h.ro
    exact ⟨ras, by rw [upd_ne (Ne.symm z5)]; exact e1, Paired.mapP e2 fun _ _ q => kt _ _ q⟩
  · obtain ⟨kvs, e1, e2⟩ := h.ru
    exact ⟨kvs, by rw [upd_ne (Ne.symm z6)]; exact e1, Paired.mapP e2 fun _ _ q => q.mono kt⟩
  · rw [upd_ne (Ne.symm z7)]; exact h.pr
  · rw [upd_ne (Ne.symm z8)]; exact h.sp
theorem PA.set_fl (h : PA K H0 H p L tas T st) {fas fas' : List Addr} {fs : List (Nat × Nat × Cs)} (e : H L.fl = some (.lst (fas.map V.ref))) (hn : FaultsAt (upd H L.fl (.lst (fas'.map V.ref))) 0 fas' fs) : PA K H0 (upd H L.fl (.lst (fas'.map V.ref))) p L tas T { st with faults := fs } := by
  have z := h.nd
  simp only [List.nodup_cons, List.mem_cons, List.not_mem_nil, or_false, not_or] at z
  obtain ⟨⟨n_p_tl, n_p_fl, n_p_sl, n_p_ml, n_p_rl, n_p_rd, n_p_pd, n_p_sd⟩, ⟨n_tl_fl, n_tl_sl, n_tl_ml, n_tl_rl, n_tl_rd, n_tl_pd, n_tl_sd⟩, ⟨n_fl_sl, n_fl_ml, n_fl_rl, n_fl_rd, n_fl_pd, n_fl_sd⟩, ⟨n_sl_ml, n_sl_rl, n_sl_rd, n_sl_pd, n_sl_sd⟩, ⟨n_ml_rl, n_ml_rd, n_ml_pd, n_ml_sd⟩, ⟨n_rl_rd, n_rl_pd, n_rl_sd⟩, ⟨n_rd_pd, n_rd_sd⟩, n_pd_sd, _⟩ := z
  have ne_p : p ≠ L.fl := n_p_fl
  have ne_tl : L.tl ≠ L.fl := n_tl_fl
  have ne_sl : L.sl ≠ L.fl := Ne.symm n_fl_sl
  have ne_ml : L.ml ≠ L.fl := Ne.symm n_fl_ml
  have ne_rl : L.rl ≠ L.fl := Ne.symm n_fl_rl
  have ne_rd : L.rd ≠ L.fl := Ne.symm n_fl_rd
  have ne_pd : L.pd ≠ L.fl := Ne.symm n_fl_pd
  have ne_sd : L.sd ≠ L.fl := Ne.symm n_fl_sd
  have kt := keepT (o' := .lst (fas'.map V.ref)) e (fun xs q => by cases q)
  have kk := keepK (K := K) (o' := .lst (fas'.map V.ref)) e (fun C d fs q => by cases q)
  exact ⟨sameUpd h.same (h.new _ (by simp)), (let ⟨dx, q⟩ := h.ob; ⟨dx, (upd_ne ne_p).trans q⟩), (upd_ne ne_tl).trans h.tk, Paired.mapP h.tks fun a t q => kk a t q,
    ⟨fas', upd_same, hn⟩,
    ((upd_ne (ne_sl)).trans h.si),
    ((upd_ne (ne_ml)).trans h.mo),
    (let ⟨ras, e1, e2⟩ := h.ro; ⟨ras, (upd_ne (ne_rl)).trans e1, Paired.mapP e2 fun _ _ q => kt _ _ q⟩),
    (let ⟨kvs, e1, e2⟩ := h.ru; ⟨kvs, (upd_ne (ne_rd)).trans e1, Paired.mapP e2 fun _ _ q => q.mono kt⟩),
    ((upd_ne (ne_pd)).trans h.pr),
    ((upd_ne (ne_sd)).trans h.sp), h.nd, h.new⟩
theorem PA.set_sl (h : PA K H0 H p L tas T st) {xs : List V} {ws : List Cs} (e : H L.sl = some (.lst xs)) (hn : True) : PA K H0 (upd H L.sl (.lst (ws.map sV))) p L tas T { st with signs := ws } := by
  have z := h.nd
  simp only [List.nodup_cons, List.mem_cons, List.not_mem_nil, or_false, not_or] at z
  obtain ⟨⟨n_p_tl, n_p_fl, n_p_sl, n_p_ml, n_p_rl, n_p_rd, n_p_pd, n_p_sd⟩, ⟨n_tl_fl, n_tl_sl, n_tl_ml, n_tl_rl, n_tl_rd, n_tl_pd, n_tl_sd⟩, ⟨n_fl_sl, n_fl_ml, n_fl_rl, n_fl_rd, n_fl_pd, n_fl_sd⟩, ⟨n_sl_ml, n_sl_rl, n_sl_rd, n_sl_pd, n_sl_sd⟩, ⟨n_ml_rl, n_ml_rd, n_ml_pd, n_ml_sd⟩, ⟨n_rl_rd, n_rl_pd, n_rl_sd⟩, ⟨n_rd_pd, n_rd_sd⟩, n_pd_sd, _⟩ := z
  have ne_p : p ≠ L.sl := n_p_sl
  have ne_tl : L.tl ≠ L.sl := n_tl_sl
  have ne_fl : L.fl ≠ L.sl := n_fl_sl
  have ne_ml : L.ml ≠ L.sl := Ne.symm n_sl_ml
  have ne_rl : L.rl ≠ L.sl := Ne.symm n_sl_rl
  have ne_rd : L.rd ≠ L.sl := Ne.symm n_sl_rd
  have ne_pd : L.pd ≠ L.sl := Ne.symm n_sl_pd
  have ne_sd : L.sd ≠ L.sl := Ne.symm n_sl_sd
  have kt := keepT (o' := .lst (ws.map sV)) e (fun xs q => by cases q)
  have kk := keepK (K := K) (o' := .lst (ws.map sV)) e (fun C d fs q => by cases q)
  exact ⟨sameUpd h.same (h.new _ (by simp)), (let ⟨dx, q⟩ := h.ob; ⟨dx, (upd_ne ne_p).trans q⟩), (upd_ne ne_tl).trans h.tk, Paired.mapP h.tks fun a t q => kk a t q,
    (let ⟨fas, e1, e2⟩ := h.fa; ⟨fas, (upd_ne (ne_fl)).trans e1, e2.mono kt⟩),
    upd_same,
    ((upd_ne (ne_ml)).trans h.mo),
    (let ⟨ras, e1, e2⟩ := h.ro; ⟨ras, (upd_ne (ne_rl)).trans e1, Paired.mapP e2 fun _ _ q => kt _ _ q⟩),
    (let ⟨kvs, e1, e2⟩ := h.ru; ⟨kvs, (upd_ne (ne_rd)).trans e1, Paired.mapP e2 fun _ _ q => q.mono kt⟩),
    ((upd_ne (ne_pd)).trans h.pr),
    ((upd_ne (ne_sd)).trans h.sp), h.nd, h.new⟩
theorem PA.set_ml (h : PA K H0 H p L tas T st) {xs : List V} {ws : List Cs} (e : H L.ml = some (.lst xs)) (hn : True) : PA K H0 (upd H L.ml (.lst (ws.map sV))) p L tas T { st with moods := ws } := by
  have z := h.nd
  simp only [List.nodup_cons, List.mem_cons, List.not_mem_nil, or_false, not_or] at z
  obtain ⟨⟨n_p_tl, n_p_fl, n_p_sl, n_p_ml, n_p_rl, n_p_rd, n_p_pd, n_p_sd⟩, ⟨n_tl_fl, n_tl_sl, n_tl_ml, n_tl_rl, n_tl_rd, n_tl_pd, n_tl_sd⟩, ⟨n_fl_sl, n_fl_ml, n_fl_rl, n_fl_rd, n_fl_pd, n_fl_sd⟩, ⟨n_sl_ml, n_sl_rl, n_sl_rd, n_sl_pd, n_sl_sd⟩, ⟨n_ml_rl, n_ml_rd, n_ml_pd, n_ml_sd⟩, ⟨n_rl_rd, n_rl_pd, n_rl_sd⟩, ⟨n_rd_pd, n_rd_sd⟩, n_pd_sd, _⟩ := z
  have ne_p : p ≠ L.ml := n_p_ml
  have ne_tl : L.tl ≠ L.ml := n_tl_ml
  have ne_fl : L.fl ≠ L.ml := n_fl_ml
  have ne_sl : L.sl ≠ L.ml := n_sl_ml
  have ne_rl : L.rl ≠ L.ml := Ne.symm n_ml_rl
  have ne_rd : L.rd ≠ L.ml := Ne.symm n_ml_rd
  have ne_pd : L.pd ≠ L.ml := Ne.symm n_ml_pd
  have ne_sd : L.sd ≠ L.ml := Ne.symm n_ml_sd
  have kt := keepT (o' := .lst (ws.map sV)) e (fun xs q => by cases q)
  have kk := keepK (K := K) (o' := .lst (ws.map sV)) e (fun C d fs q => by cases q)
  exact ⟨sameUpd h.same (h.new _ (by simp)), (let ⟨dx, q⟩ := h.ob; ⟨dx, (upd_ne ne_p).trans q⟩), (upd_ne ne_tl).trans h.tk, Paired.mapP h.tks fun a t q => kk a t q,
    (let ⟨fas, e1, e2⟩ := h.fa; ⟨fas, (upd_ne (ne_fl)).trans e1, e2.mono kt⟩),
    ((upd_ne (ne_sl)).trans h.si),
    upd_same,
    (let ⟨ras, e1, e2⟩ := h.ro; ⟨ras, (upd_ne (ne_rl)).trans e1, Paired.mapP e2 fun _ _ q => kt _ _ q⟩),
    (let ⟨kvs, e1, e2⟩ := h.ru; ⟨kvs, (upd_ne (ne_rd)).trans e1, Paired.mapP e2 fun _ _ q => q.mono kt⟩),
    ((upd_ne (ne_pd)).trans h.pr),
    ((upd_ne (ne_sd)).trans h.sp), h.nd, h.new⟩
theorem PA.set_rl (h : PA K H0 H p L tas T st) {xs : List V} {ras : List Addr} {rs : List (Nat × Bool)} (e : H L.rl = some (.lst xs)) (hn : Paired (RobAt (upd H L.rl (.lst (ras.map V.ref)))) ras rs) : PA K H0 (upd H L.rl (.lst (ras.map V.ref))) p L tas T { st with robots := rs } := by
  have z := h.nd
  simp only [List.nodup_cons, List.mem_cons, List.not_mem_nil, or_false, not_or] at z
  obtain ⟨⟨n_p_tl, n_p_fl, n_p_sl, n_p_ml, n_p_rl, n_p_rd, n_p_pd, n_p_sd⟩, ⟨n_tl_fl, n_tl_sl, n_tl_ml, n_tl_rl, n_tl_rd, n_tl_pd, n_tl_sd⟩, ⟨n_fl_sl, n_fl_ml, n_fl_rl, n_fl_rd, n_fl_pd, n_fl_sd⟩, ⟨n_sl_ml, n_sl_rl, n_sl_rd, n_sl_pd, n_sl_sd⟩, ⟨n_ml_rl, n_ml_rd, n_ml_pd, n_ml_sd⟩, ⟨n_rl_rd, n_rl_pd, n_rl_sd⟩, ⟨n_rd_pd, n_rd_sd⟩, n_pd_sd, _⟩ := z
  have ne_p : p ≠ L.rl := n_p_rl
  have ne_tl : L.tl ≠ L.rl := n_tl_rl
  have ne_fl : L.fl ≠ L.rl := n_fl_rl
  have ne_sl : L.sl ≠ L.rl := n_sl_rl
  have ne_ml : L.ml ≠ L.rl := n_ml_rl
  have ne_rd : L.rd ≠ L.rl := Ne.symm n_rl_rd
  have ne_pd : L.pd ≠ L.rl := Ne.symm n_rl_pd
  have ne_sd : L.sd ≠ L.rl := Ne.symm n_rl_sd
  have kt := keepT (o' := .lst (ras.map V.ref)) e (fun xs q => by cases q)
  have kk := keepK (K := K) (o' := .lst (ras.map V.ref)) e (fun C d fs q => by cases q)
  exact ⟨sameUpd h.same (h.new _ (by simp)), (let ⟨dx, q⟩ := h.ob; ⟨dx, (upd_ne ne_p).trans q⟩), (upd_ne ne_tl).trans h.tk, Paired.mapP h.tks fun a t q => kk a t q,
    (let ⟨fas, e1, e2⟩ := h.fa; ⟨fas, (upd_ne (ne_fl)).trans e1, e2.mono kt⟩),
    ((upd_ne (ne_sl)).trans h.si),
    ((upd_ne (ne_ml)).trans h.mo),
    ⟨ras, upd_same, hn⟩,
    (let ⟨kvs, e1, e2⟩ := h.ru; ⟨kvs, (upd_ne (ne_rd)).trans e1, Paired.mapP e2 fun _ _ q => q.mono kt⟩),
    ((upd_ne (ne_pd)).trans h.pr),
    ((upd_ne (ne_sd)).trans h.sp), h.nd, h.new⟩
theorem PA.set_rd (h : PA K H0 H p L tas T st) {kvs kvs' : List (List Key × V)} {rs : List ((Nat × Nat) × Rule)} (e : H L.rd = some (.dT kvs)) (hn : Paired (RuleAt (upd H L.rd (.dT kvs'))) rs kvs') : PA K H0 (upd H L.rd (.dT kvs')) p L tas T { st with rules := rs } := by
  have z := h.nd
  simp only [List.nodup_cons, List.mem_cons, List.not_mem_nil, or_false, not_or] at z
  obtain ⟨⟨n_p_tl, n_p_fl, n_p_sl, n_p_ml, n_p_rl, n_p_rd, n_p_pd, n_p_sd⟩, ⟨n_tl_fl, n_tl_sl, n_tl_ml, n_tl_rl, n_tl_rd, n_tl_pd, n_tl_sd⟩, ⟨n_fl_sl, n_fl_ml, n_fl_rl, n_fl_rd, n_fl_pd, n_fl_sd⟩, ⟨n_sl_ml, n_sl_rl, n_sl_rd, n_sl_pd, n_sl_sd⟩, ⟨n_ml_rl, n_ml_rd, n_ml_pd, n_ml_sd⟩, ⟨n_rl_rd, n_rl_pd, n_rl_sd⟩, ⟨n_rd_pd, n_rd_sd⟩, n_pd_sd, _⟩ := z
  have ne_p : p ≠ L.rd := n_p_rd
  have ne_tl : L.tl ≠ L.rd := n_tl_rd
  have ne_fl : L.fl ≠ L.rd := n_fl_rd
  have ne_sl : L.sl ≠ L.rd := n_sl_rd
  have ne_ml : L.ml ≠ L.rd := n_ml_rd
  have ne_rl : L.rl ≠ L.rd := n_rl_rd
  have ne_pd : L.pd ≠ L.rd := Ne.symm n_rd_pd
  have ne_sd : L.sd ≠ L.rd := Ne.symm n_rd_sd
  have kt := keepT (o' := .dT kvs') e (fun xs q => by cases q)
  have kk := keepK (K := K) (o' := .dT kvs') e (fun C d fs q => by cases q)
  exact ⟨sameUpd h.same (h.new _ (by simp)), (let ⟨dx, q⟩ := h.ob; ⟨dx, (upd_ne ne_p).trans q⟩), (upd_ne ne_tl).trans h.tk, Paired.mapP h.tks fun a t q => kk a t q,
    (let ⟨fas, e1, e2⟩ := h.fa; ⟨fas, (upd_ne (ne_fl)).trans e1, e2.mono kt⟩),
    ((upd_ne (ne_sl)).trans h.si),
    ((upd_ne (ne_ml)).trans h.mo),
    (let ⟨ras, e1, e2⟩ := h.ro; ⟨ras, (upd_ne (ne_rl)).trans e1, Paired.mapP e2 fun _ _ q => kt _ _ q⟩),
    ⟨kvs', upd_same, hn⟩,
    ((upd_ne (ne_pd)).trans h.pr),
    ((upd_ne (ne_sd)).trans h.sp), h.nd, h.new⟩
theorem PA.set_pd (h : PA K H0 H p L tas T st) {kvs : List (List Key × V)} {ps : List (Cs × Cs)} (e : H L.pd = some (.dT kvs)) (hn : True) : PA K H0 (upd H L.pd (.dT (ps.map pairK))) p L tas T { st with pairs := ps } := by
  have z := h.nd
  simp only [List.nodup_cons, List.mem_cons, List.not_mem_nil, or_false, not_or] at z
  obtain ⟨⟨n_p_tl, n_p_fl, n_p_sl, n_p_ml, n_p_rl, n_p_rd, n_p_pd, n_p_sd⟩, ⟨n_tl_fl, n_tl_sl, n_tl_ml, n_tl_rl, n_tl_rd, n_tl_pd, n_tl_sd⟩, ⟨n_fl_sl, n_fl_ml, n_fl_rl, n_fl_rd, n_fl_pd, n_fl_sd⟩, ⟨n_sl_ml, n_sl_rl, n_sl_rd, n_sl_pd, n_sl_sd⟩, ⟨n_ml_rl, n_ml_rd, n_ml_pd, n_ml_sd⟩, ⟨n_rl_rd, n_rl_pd, n_rl_sd⟩, ⟨n_rd_pd, n_rd_sd⟩, n_pd_sd, _⟩ := z
  have ne_p : p ≠ L.pd := n_p_pd
  have ne_tl : L.tl ≠ L.pd := n_tl_pd
  have ne_fl : L.fl ≠ L.pd := n_fl_pd
  have ne_sl : L.sl ≠ L.pd := n_sl_pd
  have ne_ml : L.ml ≠ L.pd := n_ml_pd
  have ne_rl : L.rl ≠ L.pd := n_rl_pd
  have ne_rd : L.rd ≠ L.pd := n_rd_pd
  have ne_sd : L.sd ≠ L.pd := Ne.symm n_pd_sd
  have kt := keepT (o' := .dT (ps.map pairK)) e (fun xs q => by cases q)
  have kk := keepK (K := K) (o' := .dT (ps.map pairK)) e (fun C d fs q => by cases q)
  exact ⟨sameUpd h.same (h.new _ (by simp)), (let ⟨dx, q⟩ := h.ob; ⟨dx, (upd_ne ne_p).trans q⟩), (upd_ne ne_tl).trans h.tk, Paired.mapP h.tks fun a t q => kk a t q,
    (let ⟨fas, e1, e2⟩ := h.fa; ⟨fas, (upd_ne (ne_fl)).trans e1, e2.mono kt⟩),
    ((upd_ne (ne_sl)).trans h.si),
    ((upd_ne (ne_ml)).trans h.mo),
    (let ⟨ras, e1, e2⟩ := h.ro; ⟨ras, (upd_ne (ne_rl)).trans e1, Paired.mapP e2 fun _ _ q => kt _ _ q⟩),
    (let ⟨kvs, e1, e2⟩ := h.ru; ⟨kvs, (upd_ne (ne_rd)).trans e1, Paired.mapP e2 fun _ _ q => q.mono kt⟩),
    upd_same,
    ((upd_ne (ne_sd)).trans h.sp), h.nd, h.new⟩
theorem PA.set_sd (h : PA K H0 H p L tas T st) {kvs : List (Key × V)} {ps : List (Nat × Nat)} (e : H L.sd = some (.dK kvs)) (hn : True) : PA K H0 (upd H L.sd (.dK (ps.map spotK))) p L tas T { st with spots := ps } := by
  have z := h.nd
  simp only [List.nodup_cons, List.mem_cons, List.not_mem_nil, or_false, not_or] at z
  obtain ⟨⟨n_p_tl, n_p_fl, n_p_sl, n_p_ml, n_p_rl, n_p_rd, n_p_pd, n_p_sd⟩, ⟨n_tl_fl, n_tl_sl, n_tl_ml, n_tl_rl, n_tl_rd, n_tl_pd, n_tl_sd⟩, ⟨n_fl_sl, n_fl_ml, n_fl_rl, n_fl_rd, n_fl_pd, n_fl_sd⟩, ⟨n_sl_ml, n_sl_rl, n_sl_rd, n_sl_pd, n_sl_sd⟩, ⟨n_ml_rl, n_ml_rd, n_ml_pd, n_ml_sd⟩, ⟨n_rl_rd, n_rl_pd, n_rl_sd⟩, ⟨n_rd_pd, n_rd_sd⟩, n_pd_sd, _⟩ := z
  have ne_p : p ≠ L.sd := n_p_sd
  have ne_tl : L.tl ≠ L.sd := n_tl_sd
  have ne_fl : L.fl ≠ L.sd := n_fl_sd
  have ne_sl : L.sl ≠ L.sd := n_sl_sd
  have ne_ml : L.ml ≠ L.sd := n_ml_sd
  have ne_rl : L.rl ≠ L.sd := n_rl_sd
  have ne_rd : L.rd ≠ L.sd := n_rd_sd
  have ne_pd : L.pd ≠ L.sd := n_pd_sd
  have kt := keepT (o' := .dK (ps.map spotK)) e (fun xs q => by cases q)
  have kk := keepK (K := K) (o' := .dK (ps.map spotK)) e (fun C d fs q => by cases q)
  exact ⟨sameUpd h.same (h.new _ (by simp)), (let ⟨dx, q⟩ := h.ob; ⟨dx, (upd_ne ne_p).trans q⟩), (upd_ne ne_tl).trans h.tk, Paired.mapP h.tks fun a t q => kk a t q,
    (let ⟨fas, e1, e2⟩ := h.fa; ⟨fas, (upd_ne (ne_fl)).trans e1, e2.mono kt⟩),
    ((upd_ne (ne_sl)).trans h.si),
    ((upd_ne (ne_ml)).trans h.mo),
    (let ⟨ras, e1, e2⟩ := h.ro; ⟨ras, (upd_ne (ne_rl)).trans e1, Paired.mapP e2 fun _ _ q => kt _ _ q⟩),
    (let ⟨kvs, e1, e2⟩ := h.ru; ⟨kvs, (upd_ne (ne_rd)).trans e1, Paired.mapP e2 fun _ _ q => q.mono kt⟩),
    ((upd_ne (ne_pd)).trans h.pr),
    upd_same, h.nd, h.new⟩
end
end Sw

end

section
set_option maxRecDepth 100000
set_option maxHeartbeats 4000000
/-! the parser's small methods -/
namespace Sw
open PySem PySem.Spec PyProof.Rows L2 SwA
/-- a method of a class -/
structure MeT (K : PySem.W.Frag) (C m q : Str) (st : Stmt) : Prop where
  d : FD K (C, some m) m q st
  m : Meth K (He.ga K C) m (He.ma K (He.ga K C) m)
structure ParT (K : PySem.W.Frag) (mg : Str → Option Value) : Prop where
  l : LexT K mg
  par : MkC K mg "Parser" parN
  ne : He.ga K "Parser" ≠ He.ga K "Token"
  int : mg "int" = none
  tuple : mg "tuple" = none
  range : mg "range" = none
  init : FD K ("Parser", some "__init__") "__init__" "Parser.__init__" s_Parser_init
  peek : MeT K "Parser" "peek" "Parser.peek" s_Parser_peek
  fail : MeT K "Parser" "fail" "Parser.fail" s_Parser_fail
  found : MeT K "Parser" "found" "Parser.found" s_Parser_found
  take : MeT K "Parser" "take" "Parser.take" s_Parser_take
  take_word : MeT K "Parser" "take_word" "Parser.take_word" s_Parser_take_word
  take_keyword : MeT K "Parser" "take_keyword" "Parser.take_keyword" s_Parser_take_keyword
  parse_names : MeT K "Parser" "parse_names" "Parser.parse_names" s_Parser_parse_names
  number_of : MeT K "Parser" "number_of" "Parser.number_of" s_Parser_number_of
  tile_of : MeT K "Parser" "tile_of" "Parser.tile_of" s_Parser_tile_of
  parse_robot : MeT K "Parser" "parse_robot" "Parser.parse_robot" s_Parser_parse_robot
  parse_put : MeT K "Parser" "parse_put" "Parser.parse_put" s_Parser_parse_put
  parse_rule : MeT K "Parser" "parse_rule" "Parser.parse_rule" s_Parser_parse_rule
  parse_plan : MeT K "Parser" "parse_plan" "Parser.parse_plan" s_Parser_parse_plan
  MAX_TILES : ∃ t, mg "MAX_TILES" = some (.int 16 t)
  MAX_SIGNS : ∃ t, mg "MAX_SIGNS" = some (.int 4 t)
  MAX_MOODS : ∃ t, mg "MAX_MOODS" = some (.int 6 t)
  MAX_ROBOTS : ∃ t, mg "MAX_ROBOTS" = some (.int 3 t)
  WAYS : mg nWays = some (.ref (He.ga K nWays))
  ways : ∀ H : Hp, SqT K H (He.ga K nWays) (ways.map fun w => V.str (sx w))
  MOVES : mg "MOVES" = some (.ref (He.ga K "MOVES"))
  moves : ∀ H : Hp, SqT K H (He.ga K "MOVES") (moves.map fun w => V.str (sx w))
/-- a token of the list -/
def TI (tas : List Addr) (T : List Tk) (a : Addr) (t : Tk) : Prop := ∃ i : Nat, tas[i]? = some a ∧ T[i]? = some t
theorem Paired_get {α β : Type} {F : α → β → Prop} : ∀ {l : List α} {m : List β} {i : Nat} {a : α} {b : β}, Paired F l m → l[i]? = some a → m[i]? = some b → F a b
  | _, _, i, _, _, .nil, h, _ => by simp at h
  | _, _, 0, _, _, .cons x r, h, h2 => by simp at h h2; subst h; subst h2; exact x
  | _, _, i + 1, _, _, .cons x r, h, h2 => Paired_get r (by simpa using h) (by simpa using h2)
section
variable {K : PySem.W.Frag} {H0 H H' : Hp} {p : Addr} {L : PLoc} {tas : List Addr} {T : List Tk} {st : PSt}
theorem PA.get (h : PA K H0 H p L tas T st) {a : Addr} {t : Tk} (q : TI tas T a t) : TokAt K H a t := let ⟨_, e1, e2⟩ := q; Paired_get h.tks e1 e2
theorem PA.here (h : PA K H0 H p L tas T st) (hi : st.at_ < T.length) : ∃ a, tas[st.at_]? = some a ∧ TI tas T a (peek T st) := by
  have hl := h.tks.length
  have h2 : st.at_ < tas.length := by omega
  refine ⟨tas[st.at_], List.getElem?_eq_getElem h2, st.at_, List.getElem?_eq_getElem h2, ?_⟩
  unfold peek
  rw [List.getD_eq_getElem?_getD, List.getElem?_eq_getElem hi]
  rfl
end
theorem lp_tokens {L : PLoc} {n : Nat} : (parF L n).lookup ("tokens" : Str) = some (V.ref L.tl) := by kernel_rfl
theorem lp_at {L : PLoc} {n : Nat} : (parF L n).lookup ("at" : Str) = some (V.int n) := by kernel_rfl
theorem lp_faults {L : PLoc} {n : Nat} : (parF L n).lookup ("faults" : Str) = some (V.ref L.fl) := by kernel_rfl
theorem lp_signs {L : PLoc} {n : Nat} : (parF L n).lookup ("signs" : Str) = some (V.ref L.sl) := by kernel_rfl
theorem lp_moods {L : PLoc} {n : Nat} : (parF L n).lookup ("moods" : Str) = some (V.ref L.ml) := by kernel_rfl
theorem lp_robots {L : PLoc} {n : Nat} : (parF L n).lookup ("robots" : Str) = some (V.ref L.rl) := by kernel_rfl
theorem lp_rules {L : PLoc} {n : Nat} : (parF L n).lookup ("rules" : Str) = some (V.ref L.rd) := by kernel_rfl
theorem lp_pairs {L : PLoc} {n : Nat} : (parF L n).lookup ("pairs" : Str) = some (V.ref L.pd) := by kernel_rfl
theorem lp_spots {L : PLoc} {n : Nat} : (parF L n).lookup ("spots" : Str) = some (V.ref L.sd) := by kernel_rfl
theorem lp_no_peek {L : PLoc} {n : Nat} : (parF L n).lookup ("peek" : Str) = none := by kernel_rfl
theorem lp_no_fail {L : PLoc} {n : Nat} : (parF L n).lookup ("fail" : Str) = none := by kernel_rfl
theorem lp_no_found {L : PLoc} {n : Nat} : (parF L n).lookup ("found" : Str) = none := by kernel_rfl
theorem lp_no_take {L : PLoc} {n : Nat} : (parF L n).lookup ("take" : Str) = none := by kernel_rfl
theorem lp_no_take_word {L : PLoc} {n : Nat} : (parF L n).lookup ("take_word" : Str) = none := by kernel_rfl
theorem lp_no_take_keyword {L : PLoc} {n : Nat} : (parF L n).lookup ("take_keyword" : Str) = none := by kernel_rfl
theorem put_at {L : PLoc} {n : Nat} {v : Int} (m : Nat) (e : v = m) : putF "at" (.int v) (parF L n) = parF L m := by subst e; kernel_rfl
section
variable {P : Program} {w : World} {K : PySem.W.Frag} {mg : Str → Option Value} {base : Heap}
/-! ### peek, fail -/
def spPeek (K : PySem.W.Frag) : Sp := fun vs H Q _ => ∃ (H0 : Hp) (p : Addr) (L : PLoc) (tas : List Addr) (T : List Tk) (st : PSt), vs = [.ref p] ∧ PA K H0 H p L tas T st ∧ st.at_ < T.length ∧
  ∀ a, TI tas T a (peek T st) → Q (.ref a) H
theorem sc_peek : FnScope ["self"] ["self"] (defScope s_Parser_peek) := ⟨rfl, rfl, rfl, by decide +kernel, rfl, by decide +kernel, by decide +kernel⟩
theorem ok_peek (T : ParT K mg) : FnE P w K mg base CX0 1 ("Parser", some "peek") ["self"] (spPeek K) := by
  obtain ⟨fd, F⟩ := T.peek.d
  refine ⟨fd, F.ok sc_peek (fun vs H Q E h => ?_) (fun cdv A outer s H vs Q E hr h => ?_), F.bindsN fun _ _ _ _ _ _ us hl => match us, hl with | [_], _ => rfl, F.kp⟩
  · obtain ⟨H0, p, L, tas, Ts, st, rfl, _⟩ := h
    rfl
  · obtain ⟨H0, p, L, tas, Ts, st, rfl, hP, hi, k⟩ := h
    refine ⟨_, PSs.nox (pss_one (ps_ret (pe_ix ix_list (pe_fld (pv 0) rfl) (pe_fld (pv 0) rfl) (fun _ _ => rfl)))), ?_⟩
    obtain ⟨dx, ob⟩ := hP.ob
    obtain ⟨a, ha, hta⟩ := hP.here hi
    exact ⟨_, rfl, p, _, dx, _, _, rfl, ob, T.par.c, T.par.n _ (by simp), lp_tokens, _, rfl, p, _, dx, _, _, rfl, ob, T.par.c, T.par.n _ (by simp), lp_at, L.tl, _, _, _, rfl, rfl, SqL.of hP.tk, atI_nat (by rw [List.getElem?_map, ha]; rfl), k a hta⟩
def spFail (K : PySem.W.Frag) : Sp := fun vs H _ E => ∃ (H0 : Hp) (p : Addr) (L : PLoc) (tas : List Addr) (T : List Tk) (st : PSt), vs = [.ref p] ∧ PA K H0 H p L tas T st ∧ st.at_ < T.length ∧
  Syn K H0 E (failAt T st).1 (failAt T st).2
theorem sc_fail : FnScope ["self", "token"] ["self"] (defScope s_Parser_fail) := ⟨rfl, rfl, rfl, by decide +kernel, rfl, by decide +kernel, by decide +kernel⟩
theorem ok_fail (T : ParT K mg) : FnE P w K mg base (L2.CX P w) 3 ("Parser", some "fail") ["self"] (spFail K) := by
  obtain ⟨fd, F⟩ := T.fail.d
  obtain ⟨fdP, GP, bP, kP⟩ := ok_peek (P := P) (w := w) (base := base) T
  obtain ⟨fdS, GS, bS, kS⟩ := ok_syn (P := P) (w := w) (base := base) T.l.e
  refine ⟨fd, F.ok sc_fail (fun vs H Q E h => ?_) (fun cdv A outer s H vs Q E hr h => ?_), F.bindsN fun _ _ _ _ _ _ us hl => match us, hl with | [_], _ => rfl, F.kp⟩
  · obtain ⟨H0, p, L, tas, Ts, st, rfl, _⟩ := h
    rfl
  · obtain ⟨H0, p, L, tas, Ts, st, rfl, hP, hi, k⟩ := h
    have hr1 : Room 1 _ := hr.mono (by decide)
    refine ⟨_, (pss_cons (ps_set (i := 1) sc_fail.nd rfl (.inl rfl) (pe_meth0 (pv 0) T.par.c T.peek.m GP hr1 bP .nil pass0))
      (pss_one (ps_raise rfl (takes_of rfl rfl rfl rfl) (pmk_oex T.l.e.syn.o T.l.e.syn.i T.l.e.syn.t GS hr bS .nil pass0 rfl T.l.e.syn.g (pa_cons (pe_fld (pv 1) rfl) (pa_cons (pe_fld (pv 1) rfl) pa_nil)))))), ?_⟩
    obtain ⟨dx, ob⟩ := hP.ob
    refine ⟨_, rfl, p, dx, _, rfl, ob, lp_no_peek, H0, p, L, tas, Ts, st, rfl, hP, hi, fun a hta => ?_⟩
    obtain ⟨dt, ht⟩ := hP.get hta
    refine ⟨_, rfl, a, _, dt, _, _, rfl, ht, T.l.tok.c, T.l.tok.n _ (by simp), lk_line, _, rfl, a, _, dt, _, _, rfl, ht, T.l.tok.c, T.l.tok.n _ (by simp), lk_col, fault_at rfl (by simp) fun d H2 _ sm hx => ?_⟩
    exact k d H2 (hP.same.trans sm) hx
end
end Sw

end

section
set_option maxRecDepth 100000
set_option maxHeartbeats 4000000
/-! the parser's small methods, further -/
namespace Sw
open PySem PySem.Spec PyProof.Rows L2 SwA
/-- what a method's end asks: a value and the parser's next state, or a SyntaxFault -/
structure Res {α : Type} (K : PySem.W.Frag) (H0 : Hp) (p : Addr) (L : PLoc) (tas : List Addr) (T : List Tk) (r : PR α) (Q : VK) (E : XK) (ret : α → V → Prop) : Prop where
  ok : ∀ x s1, r = .ok (x, s1) → ∀ (v : V) (H' : Hp), ret x v → PA K H0 H' p L tas T s1 → Q v H'
  er : ∀ l c, r = .error (l, c) → Syn K H0 E l c
def retT (tas : List Addr) (T : List Tk) (t : Tk) (v : V) : Prop := ∃ a, v = .ref a ∧ TI tas T a t
def retU (_ : Unit) (v : V) : Prop := v = .non
def retN (n : Nat) (v : V) : Prop := v = .int n
theorem kd_inj : ∀ {a b : Kd}, a.str = b.str → a = b := by
  intro a b
  cases a <;> cases b <;> first | exact fun _ => rfl | exact fun h => absurd h (by decide +kernel)
section
variable {P : Program} {w : World} {K : PySem.W.Frag} {mg : Str → Option Value} {base : Heap}
/-! ### found -/
def spFound (K : PySem.W.Frag) : Sp := fun vs H Q _ => ∃ (H0 : Hp) (p : Addr) (L : PLoc) (tas : List Addr) (T : List Tk) (st : PSt) (reason : Cs) (a : Addr) (t : Tk), vs = [.ref p, sV reason, .ref a] ∧ PA K H0 H p L tas T st ∧
  TI tas T a t ∧ st.faults.length ≤ 1000000 ∧ ∀ H', PA K H0 H' p L tas T (st.found reason t) → Q .non H'
theorem sc_found : FnScope ["self", "reason", "token"] ["self", "reason", "token"] (defScope s_Parser_found) := ⟨rfl, rfl, rfl, by decide +kernel, rfl, by decide +kernel, by decide +kernel⟩
theorem ok_found (T : ParT K mg) : FnE P w K mg base CX0 1 ("Parser", some "found") ["self", "reason", "token"] (spFound K) := by
  obtain ⟨fd, F⟩ := T.found.d
  refine ⟨fd, F.ok sc_found (fun vs H Q E h => ?_) (fun cdv A outer s H vs Q E hr h => ?_), F.bindsN fun _ _ _ _ _ _ us hl => match us, hl with | [_, _, _], _ => rfl, F.kp⟩
  · obtain ⟨H0, p, L, tas, Ts, st, reason, a, t, rfl, _⟩ := h
    rfl
  · obtain ⟨H0, p, L, tas, Ts, st, reason, a, t, rfl, hP, hta, hz, k⟩ := h
    refine ⟨_, PSs.nox (pss_one (ps_expr (pe_bm PySem.F.plainAttrs_list PySem.F.slot_list_append PySem.F.type_list_append mt_append (pe_fld (pv 0) rfl)
      (pa_cons (pe_tup (pa_cons (pe_fld (pv 2) rfl) (pa_cons (pe_fld (pv 2) rfl) (pa_cons (pe_callB call_len_seq (by rfl) T.l.len boot_len (pa_cons (pe_fld (pv 0) rfl) pa_nil)) (pa_cons (pv 1) pa_nil))))) pa_nil)))), ?_⟩
    obtain ⟨dx, ob⟩ := hP.ob
    obtain ⟨dt, ht⟩ := hP.get hta
    obtain ⟨fas, hf, hfs⟩ := hP.fa
    refine ⟨_, rfl, p, _, dx, _, _, rfl, ob, T.par.c, T.par.n _ (by simp), lp_faults, .inl ⟨rfl, _, SqL.of hf⟩, ?_⟩
    refine ⟨_, rfl, a, _, dt, _, _, rfl, ht, T.l.tok.c, T.l.tok.n _ (by simp), lk_line, _, rfl, a, _, dt, _, _, rfl, ht, T.l.tok.c, T.l.tok.n _ (by simp), lk_col, _, rfl, p, _, dx, _, _, rfl, ob, T.par.c, T.par.n _ (by simp), lp_faults, L.fl, _, rfl, .inl (SqL.of hf), _, rfl,
      (by show 4 ≤ sizeLine; decide), fun tu ntu => ?_⟩
    have nf : L.fl ≠ tu := ne_of_none hf ntu
    have hlen : (fas.map V.ref).length < sizeLine := by
      rw [List.length_map, hfs.len, sizeLine_eq]
      omega
    refine ⟨L.fl, fas.map V.ref, .ref tu, rfl, rfl, by rw [upd_ne nf]; exact hf, hlen, ?_⟩
    have s1 : Same H (upd H tu (.tup [.int t.line, .int t.col, .int ((fas.map V.ref).length : Nat), sV reason])) := sameUpd (Same.refl H) ntu
    have hP1 := hP.mono s1
    obtain ⟨fas1, hf1, hfs1⟩ := hP1.fa
    have e1 : (fas.map V.ref ++ [V.ref tu]) = (fas ++ [tu]).map V.ref := by rw [List.map_append]; rfl
    rw [e1]
    refine k _ (hP1.set_fl (s1 _ _ hf) ?_)
    have z : fas.length = st.faults.length := hfs.len
    refine FaultsAt.snoc (hfs.mono fun b xs q => ?_) ?_
    · have q1 := s1 _ _ q
      rw [upd_ne (ne_of q1 (s1 _ _ hf) (by intro z; cases z))]
      exact q1
    · rw [upd_ne (Ne.symm nf), upd_same, List.length_map, z, Nat.zero_add]
/-! ### take, take_word, take_keyword -/
def spTake (K : PySem.W.Frag) : Sp := fun vs H Q E => ∃ (H0 : Hp) (p : Addr) (L : PLoc) (tas : List Addr) (T : List Tk) (st : PSt) (kd : Kd), vs = [.ref p, .str kd.str] ∧ PA K H0 H p L tas T st ∧ st.at_ < T.length ∧
  Res K H0 p L tas T (take T kd st) Q E (retT tas T)
def spTakeWord (K : PySem.W.Frag) : Sp := fun vs H Q E => ∃ (H0 : Hp) (p : Addr) (L : PLoc) (tas : List Addr) (T : List Tk) (st : PSt) (wd : Cs), vs = [.ref p, sV wd] ∧ PA K H0 H p L tas T st ∧ st.at_ < T.length ∧
  Res K H0 p L tas T (takeWord T wd st) Q E (retT tas T)
def spTakeKw (K : PySem.W.Frag) : Sp := fun vs H Q E => ∃ (H0 : Hp) (p : Addr) (L : PLoc) (tas : List Addr) (T : List Tk) (st : PSt) (b : Addr) (ws : List Cs), vs = [.ref p, .ref b] ∧ PA K H0 H p L tas T st ∧ st.at_ < T.length ∧
  SqT K H b (ws.map fun w => V.str (sx w)) ∧ Res K H0 p L tas T (takeKw T ws st) Q E (retT tas T)
theorem sc_take : FnScope ["self", "kind", "token"] ["self", "kind"] (defScope s_Parser_take) := ⟨rfl, rfl, rfl, by decide +kernel, rfl, by decide +kernel, by decide +kernel⟩
theorem sc_take_word : FnScope ["self", "word", "token"] ["self", "word"] (defScope s_Parser_take_word) := ⟨rfl, rfl, rfl, by decide +kernel, rfl, by decide +kernel, by decide +kernel⟩
theorem sc_take_keyword : FnScope ["self", "words", "token"] ["self", "words"] (defScope s_Parser_take_keyword) := ⟨rfl, rfl, rfl, by decide +kernel, rfl, by decide +kernel, by decide +kernel⟩
theorem ok_take (T : ParT K mg) : FnE P w K mg base (L2.CX P w) 4 ("Parser", some "take") ["self", "kind"] (spTake K) := by
  obtain ⟨fd, F⟩ := T.take.d
  obtain ⟨fdP, GP, bP, kP⟩ := ok_peek (P := P) (w := w) (base := base) T
  obtain ⟨fdS, GS, bS, kS⟩ := ok_fail (P := P) (w := w) (base := base) T
  refine ⟨fd, F.ok sc_take (fun vs H Q E h => ?_) (fun cdv A outer s H vs Q E hr h => ?_), F.bindsN fun _ _ _ _ _ _ us hl => match us, hl with | [_, _], _ => rfl, F.kp⟩
  · obtain ⟨H0, p, L, tas, Ts, st, kd, rfl, _⟩ := h
    rfl
  · obtain ⟨H0, p, L, tas, Ts, st, kd, rfl, hP, hi, R⟩ := h
    have hr1 : Room 1 _ := hr.mono (by decide)
    refine ⟨_, (pss_cons (ps_set (i := 2) sc_take.nd rfl (.inl rfl) (pe_meth0 (pv 0) T.par.c T.peek.m GP hr1 bP .nil pass0))
      (pss_cons (ps_if (pt_cmpR op_ne (pe_fld (pv 2) rfl) (pv 1) (nomark _)) (pss_one (ps_expr (pe_meth0 (pv 0) T.par.c T.fail.m GS hr bS .nil (passes_call (takes_of rfl rfl rfl rfl) (fun _ _ _ _ h => h))))) pss_nil)
      (pss_cons (ps_fldaug (pv 0) pe_int in_add) (pss_one (ps_ret (pv 2)))))), ?_⟩
    obtain ⟨dx, ob⟩ := hP.ob
    refine ⟨_, rfl, p, dx, _, rfl, ob, lp_no_peek, H0, p, L, tas, Ts, st, rfl, hP, hi, fun a hta => ?_⟩
    obtain ⟨dt, ht⟩ := hP.get hta
    refine ⟨_, rfl, a, _, dt, _, _, rfl, ht, T.l.tok.c, T.l.tok.n _ (by simp), lk_kind, _, rfl, rfl, _, rfl, ?_⟩
    refine ite2 (fun h => ?_) (fun h => ?_)
    · have h : (peek Ts st).kind ≠ kd := fun q => by
        rw [decide_eq_true (by rw [q])] at h
        exact absurd h (by decide)
      refine ⟨_, rfl, p, dx, _, rfl, ob, lp_no_fail, H0, p, L, tas, Ts, st, rfl, hP, hi, R.er _ _ ?_⟩
      unfold take
      rw [if_neg h]
    · have h : (peek Ts st).kind = kd := Decidable.byContradiction fun q => h (by
        rw [decide_eq_false fun z => q (kd_inj (V.str.inj z))]
        rfl)
      refine ⟨_, rfl, p, _, dx, _, _, rfl, ob, T.par.c, T.par.n _ (by simp), lp_at, _, _, rfl, rfl, dx, _, ob, (by show 9 < 1000; decide), ?_⟩
      rw [put_at (st.at_ + 1) (by simp)]
      refine ⟨_, rfl, R.ok _ _ (by unfold take; rw [if_pos h]; rfl) _ _ ⟨a, rfl, hta⟩ (hP.setAt T.ne ob)⟩
theorem ok_take_word (T : ParT K mg) : FnE P w K mg base (L2.CX P w) 4 ("Parser", some "take_word") ["self", "word"] (spTakeWord K) := by
  obtain ⟨fd, F⟩ := T.take_word.d
  obtain ⟨fdP, GP, bP, kP⟩ := ok_peek (P := P) (w := w) (base := base) T
  obtain ⟨fdS, GS, bS, kS⟩ := ok_fail (P := P) (w := w) (base := base) T
  refine ⟨fd, F.ok sc_take_word (fun vs H Q E h => ?_) (fun cdv A outer s H vs Q E hr h => ?_), F.bindsN fun _ _ _ _ _ _ us hl => match us, hl with | [_, _], _ => rfl, F.kp⟩
  · obtain ⟨H0, p, L, tas, Ts, st, kd, rfl, _⟩ := h
    rfl
  · obtain ⟨H0, p, L, tas, Ts, st, wd, rfl, hP, hi, R⟩ := h
    have hr1 : Room 1 _ := hr.mono (by decide)
    refine ⟨_, (pss_cons (ps_set (i := 2) sc_take_word.nd rfl (.inl rfl) (pe_meth0 (pv 0) T.par.c T.peek.m GP hr1 bP .nil pass0))
      (pss_cons (ps_if (pt_cmpR op_ne (pe_fld (pv 2) rfl) (pv 1) (nomark _)) (pss_one (ps_expr (pe_meth0 (pv 0) T.par.c T.fail.m GS hr bS .nil (passes_call (takes_of rfl rfl rfl rfl) (fun _ _ _ _ h => h))))) pss_nil)
      (pss_cons (ps_fldaug (pv 0) pe_int in_add) (pss_one (ps_ret (pv 2)))))), ?_⟩
    obtain ⟨dx, ob⟩ := hP.ob
    refine ⟨_, rfl, p, dx, _, rfl, ob, lp_no_peek, H0, p, L, tas, Ts, st, rfl, hP, hi, fun a hta => ?_⟩
    obtain ⟨dt, ht⟩ := hP.get hta
    refine ⟨_, rfl, a, _, dt, _, _, rfl, ht, T.l.tok.c, T.l.tok.n _ (by simp), lk_text, _, rfl, rfl, _, rfl, ?_⟩
    refine ite2 (fun h => ?_) (fun h => ?_)
    · have h : (peek Ts st).text ≠ wd := fun q => by
        rw [decide_eq_true (by rw [q])] at h
        exact absurd h (by decide)
      refine ⟨_, rfl, p, dx, _, rfl, ob, lp_no_fail, H0, p, L, tas, Ts, st, rfl, hP, hi, R.er _ _ ?_⟩
      unfold takeWord
      rw [if_neg h]
    · have h : (peek Ts st).text = wd := Decidable.byContradiction fun q => h (by
        rw [decide_eq_false fun z => q (sx_inj (V.str.inj z))]
        rfl)
      refine ⟨_, rfl, p, _, dx, _, _, rfl, ob, T.par.c, T.par.n _ (by simp), lp_at, _, _, rfl, rfl, dx, _, ob, (by show 9 < 1000; decide), ?_⟩
      rw [put_at (st.at_ + 1) (by simp)]
      refine ⟨_, rfl, R.ok _ _ (by unfold takeWord; rw [if_pos h]; rfl) _ _ ⟨a, rfl, hta⟩ (hP.setAt T.ne ob)⟩
theorem ok_take_keyword (T : ParT K mg) : FnE P w K mg base (L2.CX P w) 4 ("Parser", some "take_keyword") ["self", "words"] (spTakeKw K) := by
  obtain ⟨fd, F⟩ := T.take_keyword.d
  obtain ⟨fdP, GP, bP, kP⟩ := ok_peek (P := P) (w := w) (base := base) T
  obtain ⟨fdS, GS, bS, kS⟩ := ok_fail (P := P) (w := w) (base := base) T
  obtain ⟨t1, mKW⟩ := T.l.KEYWORD
  refine ⟨fd, F.ok sc_take_keyword (fun vs H Q E h => ?_) (fun cdv A outer s H vs Q E hr h => ?_), F.bindsN fun _ _ _ _ _ _ us hl => match us, hl with | [_, _], _ => rfl, F.kp⟩
  · obtain ⟨H0, p, L, tas, Ts, st, b, ws, rfl, _⟩ := h
    rfl
  · obtain ⟨H0, p, L, tas, Ts, st, b, ws, rfl, hP, hi, hb, R⟩ := h
    have hr1 : Room 1 _ := hr.mono (by decide)
    refine ⟨_, (pss_cons (ps_set (i := 2) sc_take_keyword.nd rfl (.inl rfl) (pe_meth0 (pv 0) T.par.c T.peek.m GP hr1 bP .nil pass0))
      (pss_cons (ps_if (PW.pt (pw_or (pt_cmpR op_ne (pe_fld (pv 2) rfl) (pe_glob (v := .str "keyword") rfl mKW ⟨_, rfl⟩) (nomark _)) (pw_or1 (pt_cmpR op_notIn_seq (pe_fld (pv 2) rfl) (pv 1) rfl))))
        (pss_one (ps_expr (pe_meth0 (pv 0) T.par.c T.fail.m GS hr bS .nil (passes_call (takes_of rfl rfl rfl rfl) (fun _ _ _ _ h => h))))) pss_nil)
      (pss_cons (ps_fldaug (pv 0) pe_int in_add) (pss_one (ps_ret (pv 2)))))), ?_⟩
    obtain ⟨dx, ob⟩ := hP.ob
    refine ⟨_, rfl, p, dx, _, rfl, ob, lp_no_peek, H0, p, L, tas, Ts, st, rfl, hP, hi, fun a hta => ?_⟩
    obtain ⟨dt, ht⟩ := hP.get hta
    have bad : ¬ ((peek Ts st).kind = .keyword ∧ (peek Ts st).text ∈ ws) → Syn K H0 E (failAt Ts st).1 (failAt Ts st).2 := fun q => R.er _ _ (by
      unfold takeKw
      rw [if_neg q])
    refine ⟨_, rfl, a, _, dt, _, _, rfl, ht, T.l.tok.c, T.l.tok.n _ (by simp), lk_kind, rfl, _, rfl, ?_⟩
    refine ite2 (fun h => ?_) (fun h => ?_)
    · have h : (peek Ts st).kind ≠ .keyword := fun q => by
        rw [decide_eq_true (by rw [q]; rfl)] at h
        exact absurd h (by decide)
      exact iteT ⟨_, rfl, p, dx, _, rfl, ob, lp_no_fail, H0, p, L, tas, Ts, st, rfl, hP, hi, bad fun q => h q.1⟩
    · have h : (peek Ts st).kind = .keyword := Decidable.byContradiction fun q => h (by
        show (!decide (V.str (peek Ts st).kind.str = V.str Kd.keyword.str)) = true
        rw [decide_eq_false fun z => q (kd_inj (b := .keyword) (V.str.inj z))]
        rfl)
      refine ⟨_, rfl, a, _, dt, _, _, rfl, ht, T.l.tok.c, T.l.tok.n _ (by simp), lk_text, _, rfl, b, _, rfl, .inr hb, rfl, flat_sx ws, _, rfl, ?_⟩
      rw [inV_sx]
      refine ite2 (fun h2 => ?_) (fun h2 => ?_)
      · have h2 : (peek Ts st).text ∉ ws := fun q => by
          rw [decide_eq_true q] at h2
          exact absurd h2 (by decide)
        exact ⟨_, rfl, p, dx, _, rfl, ob, lp_no_fail, H0, p, L, tas, Ts, st, rfl, hP, hi, bad fun q => h2 q.2⟩
      · have h2 : (peek Ts st).text ∈ ws := Decidable.byContradiction fun q => h2 (by
          rw [decide_eq_false q]
          rfl)
        refine ⟨_, rfl, p, _, dx, _, _, rfl, ob, T.par.c, T.par.n _ (by simp), lp_at, _, _, rfl, rfl, dx, _, ob, (by show 9 < 1000; decide), ?_⟩
        rw [put_at (st.at_ + 1) (by simp)]
        refine ⟨_, rfl, R.ok _ _ (by unfold takeKw; rw [if_pos ⟨h, h2⟩]; rfl) _ _ ⟨a, rfl, hta⟩ (hP.setAt T.ne ob)⟩
end
end Sw

end

section
set_option maxRecDepth 100000
set_option maxHeartbeats 4000000
/-! bounds along the mirror of the parser -/
namespace Sw
open PySem
structure GoodT (T : List Tk) : Prop where
  last : ∀ (i : Nat) t, T[i]? = some t → i + 1 = T.length → t.kind = .fin ∧ t.text = []
  ne : T ≠ []
  fin : ∀ (i : Nat) t, T[i]? = some t → t.kind = .fin → i + 1 = T.length
  num : ∀ t ∈ T, t.kind = .number → (1 ≤ t.text.length ∧ t.text.length ≤ 2) ∧ t.text.all isD = true
  len : T.length ≤ 100000
structure Bd (T : List Tk) (st : PSt) : Prop where
  at_ : st.at_ < T.length
  fa : st.faults.length ≤ 2 * st.at_
  si : st.signs.length ≤ 4
  mo : st.moods.length ≤ 6
  ro : st.robots.length ≤ st.at_
  ru : st.rules.length ≤ st.at_
  pr : st.pairs.length ≤ st.at_
  sp : st.spots.length ≤ st.at_
section
variable {T : List Tk} {st s1 : PSt}
theorem peek_get (h : st.at_ < T.length) : T[st.at_]? = some (peek T st) := by
  unfold peek
  rw [List.getD_eq_getElem?_getD, List.getElem?_eq_getElem h]
  rfl
theorem GoodT.more (G : GoodT T) (h : st.at_ < T.length) (hk : (peek T st).kind ≠ .fin) : st.at_ + 1 < T.length := by
  refine Nat.lt_of_le_of_ne h fun e => hk ?_
  exact (G.last _ _ (peek_get h) e).1
theorem take_ok {k : Kd} {t : Tk} (h : take T k st = .ok (t, s1)) : s1 = st.next ∧ t = peek T st ∧ t.kind = k := by
  unfold take at h
  split at h
  · rename_i q
    cases h
    exact ⟨rfl, rfl, q⟩
  · cases h
theorem takeWord_ok {wd : Cs} {t : Tk} (h : takeWord T wd st = .ok (t, s1)) : s1 = st.next ∧ t = peek T st ∧ t.text = wd := by
  unfold takeWord at h
  split at h
  · rename_i q
    cases h
    exact ⟨rfl, rfl, q⟩
  · cases h
theorem takeKw_ok {ws : List Cs} {t : Tk} (h : takeKw T ws st = .ok (t, s1)) : s1 = st.next ∧ t = peek T st ∧ t.kind = .keyword ∧ t.text ∈ ws := by
  unfold takeKw at h
  split at h
  · rename_i q
    cases h
    exact ⟨rfl, rfl, q.1, q.2⟩
  · cases h
theorem Bd.next (B : Bd T st) (h : st.at_ + 1 < T.length) : Bd T st.next := ⟨h, by have := B.fa; show st.faults.length ≤ 2 * (st.at_ + 1); omega, B.si, B.mo, by have := B.ro; show st.robots.length ≤ st.at_ + 1; omega, by have := B.ru; show st.rules.length ≤ st.at_ + 1; omega,
  by have := B.pr; show st.pairs.length ≤ st.at_ + 1; omega, by have := B.sp; show st.spots.length ≤ st.at_ + 1; omega⟩
/-- with room for one more fault -/
theorem Bd.next1 (B : Bd T st) (h : st.at_ + 1 < T.length) : Bd T st.next ∧ st.next.faults.length + 2 ≤ 2 * st.next.at_ := ⟨B.next h, by have := B.fa; show st.faults.length + 2 ≤ 2 * (st.at_ + 1); omega⟩
theorem Bd.found (B : Bd T st) {r : Cs} {t : Tk} (h : st.faults.length + 1 ≤ 2 * st.at_) : Bd T (st.found r t) := ⟨B.at_, by show (st.faults ++ [_]).length ≤ 2 * st.at_; simp; omega, B.si, B.mo, B.ro, B.ru, B.pr, B.sp⟩
theorem bd_take (G : GoodT T) (B : Bd T st) {k : Kd} {t : Tk} (h : take T k st = .ok (t, s1)) (hk : k ≠ .fin) : Bd T s1 ∧ s1.faults.length + 2 ≤ 2 * s1.at_ ∧ s1 = st.next ∧ t ∈ T := by
  obtain ⟨rfl, rfl, e⟩ := take_ok h
  have z := B.next1 (G.more B.at_ (by rw [e]; exact hk))
  exact ⟨z.1, z.2, rfl, List.mem_of_getElem? (peek_get B.at_)⟩
theorem bd_word (G : GoodT T) (B : Bd T st) {wd : Cs} {t : Tk} (h : takeWord T wd st = .ok (t, s1)) (hk : wd ≠ []) : Bd T s1 ∧ s1.faults.length + 2 ≤ 2 * s1.at_ ∧ s1 = st.next := by
  obtain ⟨rfl, rfl, e⟩ := takeWord_ok h
  have z := B.next1 (G.more B.at_ fun q => hk (by
    rw [← e]
    exact (G.last _ _ (peek_get B.at_) (G.fin _ _ (peek_get B.at_) q)).2))
  exact ⟨z.1, z.2, rfl⟩
theorem bd_kw (G : GoodT T) (B : Bd T st) {ws : List Cs} {t : Tk} (h : takeKw T ws st = .ok (t, s1)) : Bd T s1 ∧ s1.faults.length + 2 ≤ 2 * s1.at_ ∧ s1 = st.next := by
  obtain ⟨rfl, rfl, e, _⟩ := takeKw_ok h
  have z := B.next1 (G.more B.at_ (by rw [e]; decide))
  exact ⟨z.1, z.2, rfl⟩
theorem bd_number (B : Bd T st) {names : List Cs} {t : Tk} (h : st.faults.length + 1 ≤ 2 * st.at_) : Bd T (numberOf names t st).2 ∧ (numberOf names t st).2.at_ = st.at_ ∧ (numberOf names t st).2.faults.length ≤ st.faults.length + 1 := by
  unfold numberOf
  split
  · exact ⟨B, rfl, Nat.le_succ _⟩
  · exact ⟨B.found h, rfl, by show (st.faults ++ [_]).length ≤ _; simp⟩
theorem bd_tile (G : GoodT T) (B : Bd T st) {tiles n : Nat} (h : tileOf T tiles st = .ok (n, s1)) : Bd T s1 ∧ s1.faults.length + 1 ≤ 2 * s1.at_ ∧ s1.at_ = st.at_ + 1 ∧ s1.robots = st.robots ∧ s1.spots = st.spots := by
  unfold tileOf at h
  split at h
  · cases h
  · rename_i t s2 ht
    obtain ⟨B2, f2, rfl, hm⟩ := bd_take G B ht (by decide)
    cases h
    split
    · exact ⟨B2.found (by omega), by show (st.next.faults ++ [_]).length + 1 ≤ 2 * st.next.at_; simp; omega, rfl, rfl, rfl⟩
    · exact ⟨B2, by omega, rfl, rfl, rfl⟩
theorem more_spec (G : GoodT T) : ∀ (f : Nat) (st : PSt) (acc : List Tk), Bd T st → (∀ t ∈ acc, t.kind = .name) → acc.length + 1 ≤ st.at_ →
    Bd T (moreNames T f st acc).2 ∧ (∀ t ∈ (moreNames T f st acc).1, t.kind = .name) ∧ (moreNames T f st acc).1.length + 1 ≤ (moreNames T f st acc).2.at_ ∧ st.at_ ≤ (moreNames T f st acc).2.at_ ∧
    (moreNames T f st acc).2 = { st with at_ := (moreNames T f st acc).2.at_ } ∧ (moreNames T f st acc).1.length + st.at_ = acc.length + (moreNames T f st acc).2.at_
  | 0, st, acc, B, ha, hl => ⟨B, ha, hl, Nat.le_refl _, rfl, rfl⟩
  | f + 1, st, acc, B, ha, hl => by
    unfold moreNames
    split
    · rename_i hk
      have z := more_spec G f st.next (acc ++ [peek T st]) (B.next (G.more B.at_ (by rw [hk]; decide))) (by
        intro t ht
        rcases List.mem_append.mp ht with q | q
        · exact ha t q
        · have e : t = peek T st := by simpa using q
          rw [e]; exact hk) (by show (acc ++ [_]).length + 1 ≤ st.at_ + 1; simp; omega)
      obtain ⟨z1, z2, z3, z4, z5, z6⟩ := z
      refine ⟨z1, z2, z3, Nat.le_trans (Nat.le_succ _) z4, z5, ?_⟩
      have e : (acc ++ [peek T st]).length = acc.length + 1 := by simp
      have e2 : st.next.at_ = st.at_ + 1 := rfl
      rw [e, e2] at z6
      omega
    · exact ⟨B, ha, hl, Nat.le_refl _, rfl, rfl⟩
theorem add_spec (b : Bool) (st : PSt) (t : Tk) (hn : (st.names b).length ≤ mostOf b) : (addName b st t).at_ = st.at_ ∧ (addName b st t).faults.length ≤ st.faults.length + 1 ∧ ((addName b st t).names b).length ≤ mostOf b ∧
    (addName b st t).robots = st.robots ∧ (addName b st t).rules = st.rules ∧ (addName b st t).pairs = st.pairs ∧ (addName b st t).spots = st.spots ∧ (addName b st t).names (!b) = st.names (!b) := by
  unfold addName
  split
  · refine ⟨rfl, by simp [PSt.found], ?_, rfl, rfl, rfl, rfl, rfl⟩
    exact hn
  · split
    · refine ⟨rfl, by simp [PSt.found], ?_, rfl, rfl, rfl, rfl, rfl⟩
      exact hn
    · rename_i h
      cases b
      · refine ⟨rfl, Nat.le_succ _, ?_, rfl, rfl, rfl, rfl, rfl⟩
        have h2 : st.signs.length ≠ 4 := h
        have h3 : st.signs.length ≤ 4 := hn
        show (st.signs ++ [t.text]).length ≤ 4
        simp
        omega
      · refine ⟨rfl, Nat.le_succ _, ?_, rfl, rfl, rfl, rfl, rfl⟩
        have h2 : st.moods.length ≠ 6 := h
        have h3 : st.moods.length ≤ 6 := hn
        show (st.moods ++ [t.text]).length ≤ 6
        simp
        omega
theorem adds_spec (b : Bool) : ∀ (ts : List Tk) (st : PSt), (st.names b).length ≤ mostOf b → (ts.foldl (addName b) st).at_ = st.at_ ∧ (ts.foldl (addName b) st).faults.length ≤ st.faults.length + ts.length ∧
    ((ts.foldl (addName b) st).names b).length ≤ mostOf b ∧ (ts.foldl (addName b) st).robots = st.robots ∧ (ts.foldl (addName b) st).rules = st.rules ∧ (ts.foldl (addName b) st).pairs = st.pairs ∧
    (ts.foldl (addName b) st).spots = st.spots ∧ (ts.foldl (addName b) st).names (!b) = st.names (!b)
  | [], st, h => ⟨rfl, by simp, h, rfl, rfl, rfl, rfl, rfl⟩
  | t :: ts, st, h => by
    obtain ⟨a1, a2, a3, a4, a5, a6, a7, a8⟩ := add_spec b st t h
    obtain ⟨b1, b2, b3, b4, b5, b6, b7, b8⟩ := adds_spec b ts (addName b st t) a3
    rw [List.foldl_cons]
    refine ⟨b1.trans a1, ?_, b3, b4.trans a4, b5.trans a5, b6.trans a6, b7.trans a7, b8.trans a8⟩
    simp only [List.length_cons]
    omega
theorem wordOf_ne (b : Bool) : wordOf b ≠ [] := by cases b <;> decide
theorem Bd.names (B : Bd T st) (b : Bool) : (st.names b).length ≤ mostOf b := by
  cases b
  · exact B.si
  · exact B.mo
theorem bd_names (G : GoodT T) (B : Bd T st) {b : Bool} (h : parseNames T b st = .ok ((), s1)) : Bd T s1 := by
  unfold parseNames at h
  split at h
  · cases h
  · rename_i t0 s2 h2
    obtain ⟨B2, f2, rfl⟩ := bd_word G B h2 (wordOf_ne b)
    split at h
    · cases h
    · rename_i t s3 h3
      obtain ⟨B3, f3, rfl, _⟩ := bd_take G B2 h3 (by decide)
      have hk : t.kind = .name := (take_ok h3).2.2
      obtain ⟨z1, z2, z3, z4, z5, z6⟩ := more_spec G T.length st.next.next [t] B3 (by simp [hk]) (by show 1 + 1 ≤ st.at_ + 1 + 1; omega)
      split at h
      · cases h
      · rename_i t4 s4 h4
        cases h
        obtain ⟨B4, f4, rfl⟩ := bd_word G z1 h4 (by decide)
        obtain ⟨b1, b2, b3, b4, b5, b6, b7, b8⟩ := adds_spec b (moreNames T T.length st.next.next [t]).1 (moreNames T T.length st.next.next [t]).2.next (B4.names b)
        have e : (moreNames T T.length st.next.next [t]).2.next.at_ = (moreNames T T.length st.next.next [t]).2.at_ + 1 := rfl
        have e5 : (moreNames T T.length st.next.next [t]).2.next.faults = st.faults := by
          show (moreNames T T.length st.next.next [t]).2.faults = st.faults
          rw [z5]
          rfl
        have hf := B.fa
        have e6 : st.next.next.at_ = st.at_ + 2 := rfl
        refine ⟨by rw [b1]; exact B4.at_, ?_, ?_, ?_, by rw [b4, b1]; exact B4.ro, by rw [b5, b1]; exact B4.ru, by rw [b6, b1]; exact B4.pr, by rw [b7, b1]; exact B4.sp⟩
        · rw [b1, e]
          rw [e5] at b2
          rw [e6] at z6
          simp only [List.length_cons, List.length_nil] at z6
          omega
        · cases b
          · exact b3
          · rw [show (List.foldl (addName true) (moreNames T T.length st.next.next [t]).2.next (moreNames T T.length st.next.next [t]).1).signs = _ from b8]
            exact B4.si
        · cases b
          · rw [show (List.foldl (addName false) (moreNames T T.length st.next.next [t]).2.next (moreNames T T.length st.next.next [t]).1).moods = _ from b8]
            exact B4.mo
          · exact b3
theorem putA_len {κ α : Type} [DecidableEq κ] (l : List (κ × α)) (k : κ) (v : α) : (putA l k v).length ≤ l.length + 1 := by
  unfold putA
  split <;> simp
theorem bd_robot (G : GoodT T) (B : Bd T st) {tiles : Nat} (h : parseRobot T tiles st = .ok ((), s1)) : Bd T s1 ∧ st.at_ < s1.at_ := by
  unfold parseRobot at h
  split at h
  · cases h
  · rename_i kw s2 h2
    obtain ⟨B2, f2, rfl⟩ := bd_word G B h2 (by decide)
    have B3 : Bd T (if st.next.robots.length = 3 then st.next.found rRobots kw else st.next) := by
      split
      · exact B2.found (by omega)
      · exact B2
    have a3 : (if st.next.robots.length = 3 then st.next.found rRobots kw else st.next).at_ = st.at_ + 1 := by split <;> rfl
    have r3 : (if st.next.robots.length = 3 then st.next.found rRobots kw else st.next).robots = st.robots := by split <;> rfl
    split at h
    · cases h
    · rename_i n s4 h4
      obtain ⟨B4, f4, a4, r4, _⟩ := bd_tile G B3 h4
      split at h
      · cases h
      · rename_i wy s5 h5
        obtain ⟨B5, f5, rfl⟩ := bd_kw G B4 h5
        split at h
        · cases h
        · rename_i t6 s6 h6
          obtain ⟨B6, f6, rfl⟩ := bd_word G B5 h6 (by decide)
          cases h
          have e : s4.next.next.at_ = s4.at_ + 2 := rfl
          have hr : s4.next.next.robots = st.robots := r4.trans r3
          have hB := B.ro
          refine ⟨⟨B6.at_, B6.fa, B6.si, B6.mo, ?_, B6.ru, B6.pr, B6.sp⟩, ?_⟩
          · show (s4.next.next.robots ++ [_]).length ≤ s4.next.next.at_
            rw [hr, e]
            simp
            omega
          · show st.at_ < s4.next.next.at_
            omega
theorem bd_put (G : GoodT T) (B : Bd T st) {tiles : Nat} (h : parsePut T tiles st = .ok ((), s1)) : Bd T s1 ∧ st.at_ < s1.at_ := by
  unfold parsePut at h
  split at h
  · cases h
  · rename_i kw s2 h2
    obtain ⟨B2, f2, rfl⟩ := bd_word G B h2 (by decide)
    split at h
    · cases h
    · rename_i nm s3 h3
      obtain ⟨B3, f3, rfl, _⟩ := bd_take G B2 h3 (by decide)
      obtain ⟨B4, a4, f4⟩ := bd_number B3 (names := st.next.next.signs) (t := nm) (by omega)
      have sp4 : (numberOf st.next.next.signs nm st.next.next).2.spots = st.spots := by unfold numberOf; split <;> rfl
      split at h
      · cases h
      · rename_i n s5 h5
        obtain ⟨B5, f5, a5, r5, sp5⟩ := bd_tile G B4 h5
        split at h
        · cases h
        · rename_i t6 s6 h6
          obtain ⟨B6, f6, rfl⟩ := bd_word G B5 h6 (by decide)
          cases h
          have e : s5.next.at_ = s5.at_ + 1 := rfl
          have e2 : st.next.next.at_ = st.at_ + 2 := rfl
          have hs : s5.next.spots = st.spots := sp5.trans sp4
          have hB := B.sp
          have B7 : Bd T (if (s5.next.spots.any fun kv => decide (kv.1 = n)) = true then s5.next.found rAgain (peek T (numberOf st.next.next.signs nm st.next.next).2) else s5.next) := by
            split
            · exact B6.found (by omega)
            · exact B6
          have a7 : (if (s5.next.spots.any fun kv => decide (kv.1 = n)) = true then s5.next.found rAgain (peek T (numberOf st.next.next.signs nm st.next.next).2) else s5.next).at_ = s5.at_ + 1 := by split <;> rfl
          have s7 : (if (s5.next.spots.any fun kv => decide (kv.1 = n)) = true then s5.next.found rAgain (peek T (numberOf st.next.next.signs nm st.next.next).2) else s5.next).spots = st.spots := by split <;> exact hs
          refine ⟨⟨B7.at_, B7.fa, B7.si, B7.mo, B7.ro, B7.ru, B7.pr, ?_⟩, ?_⟩
          · refine Nat.le_trans (putA_len _ _ _) ?_
            rw [s7]
            show st.spots.length + 1 ≤ _
            rw [a7]
            omega
          · show st.at_ < _
            rw [a7]
            omega
theorem bd_rule (G : GoodT T) (B : Bd T st) (h : parseRule T st = .ok ((), s1)) : Bd T s1 ∧ st.at_ < s1.at_ := by
  unfold parseRule at h
  split at h
  · cases h
  rename_i kw s2 h2
  obtain ⟨B2, f2, rfl⟩ := bd_word G B h2 (by decide)
  split at h
  · cases h
  rename_i first s3 h3
  obtain ⟨B3, f3, rfl, _⟩ := bd_take G B2 h3 (by decide)
  obtain ⟨B3', a3', f3'⟩ := bd_number B3 (names := st.next.next.moods) (t := first) (by omega)
  have r3 : (numberOf st.next.next.moods first st.next.next).2.rules = st.rules ∧ (numberOf st.next.next.moods first st.next.next).2.pairs = st.pairs := by unfold numberOf; split <;> exact ⟨rfl, rfl⟩
  split at h
  · cases h
  rename_i second s4 h4
  obtain ⟨B4, f4, rfl, _⟩ := bd_take G B3' h4 (by decide)
  generalize hq4 : (numberOf st.next.next.moods first st.next.next).2.next = q4 at *
  have e4 : q4.at_ = st.at_ + 3 := by rw [← hq4]; show (numberOf st.next.next.moods first st.next.next).2.at_ + 1 = _; rw [a3']; rfl
  have r4 : q4.rules = st.rules ∧ q4.pairs = st.pairs := by rw [← hq4]; exact r3
  obtain ⟨B4', a4', f4'⟩ := bd_number B4 (names := q4.signs) (t := second) (by omega)
  have r4' : (numberOf q4.signs second q4).2.rules = st.rules ∧ (numberOf q4.signs second q4).2.pairs = st.pairs := by unfold numberOf; split <;> exact r4
  split at h
  · cases h
  rename_i t5 s5 h5
  obtain ⟨B5, f5, rfl⟩ := bd_word G B4' h5 (by decide)
  generalize hq5 : (numberOf q4.signs second q4).2.next = q5 at *
  have e5 : q5.at_ = st.at_ + 4 := by rw [← hq5]; show (numberOf q4.signs second q4).2.at_ + 1 = _; rw [a4', e4]
  have r5 : q5.rules = st.rules ∧ q5.pairs = st.pairs := by rw [← hq5]; exact r4'
  split at h
  · cases h
  rename_i lf s6 h6
  obtain ⟨B6, f6, rfl, _⟩ := bd_take G B5 h6 (by decide)
  obtain ⟨B6', a6', f6'⟩ := bd_number B6 (names := q5.next.signs) (t := lf) (by omega)
  have r6' : (numberOf q5.next.signs lf q5.next).2.rules = st.rules ∧ (numberOf q5.next.signs lf q5.next).2.pairs = st.pairs := by unfold numberOf; split <;> exact r5
  split at h
  · cases h
  rename_i mv s7 h7
  obtain ⟨B7, f7, rfl⟩ := bd_kw G B6' h7
  generalize hq7 : (numberOf q5.next.signs lf q5.next).2.next = q7 at *
  have e7 : q7.at_ = st.at_ + 6 := by rw [← hq7]; show (numberOf q5.next.signs lf q5.next).2.at_ + 1 = _; rw [a6']; show q5.at_ + 1 + 1 = _; rw [e5]
  have r7 : q7.rules = st.rules ∧ q7.pairs = st.pairs := by rw [← hq7]; exact r6'
  split at h
  · cases h
  rename_i la s8 h8
  obtain ⟨B8, f8, rfl, _⟩ := bd_take G B7 h8 (by decide)
  obtain ⟨B8', a8', f8'⟩ := bd_number B8 (names := q7.next.moods) (t := la) (by omega)
  have r8' : (numberOf q7.next.moods la q7.next).2.rules = st.rules ∧ (numberOf q7.next.moods la q7.next).2.pairs = st.pairs := by unfold numberOf; split <;> exact r7
  split at h
  · cases h
  rename_i t9 s9 h9
  obtain ⟨B9, f9, rfl⟩ := bd_word G B8' h9 (by decide)
  generalize hq9 : (numberOf q7.next.moods la q7.next).2.next = q9 at *
  have e9 : q9.at_ = st.at_ + 8 := by rw [← hq9]; show (numberOf q7.next.moods la q7.next).2.at_ + 1 = _; rw [a8']; show q7.at_ + 1 + 1 = _; rw [e7]
  have r9 : q9.rules = st.rules ∧ q9.pairs = st.pairs := by rw [← hq9]; exact r8'
  cases h
  have hB := B.ru
  have hB2 := B.pr
  generalize hz : (if (first.text, second.text) ∈ q9.pairs then q9.found rTwice kw else q9) = z
  have Bz : Bd T z := by
    rw [← hz]
    split
    · exact B9.found (by omega)
    · exact B9
  have az : z.at_ = st.at_ + 8 := by rw [← hz]; split <;> exact e9
  have rz : z.rules = st.rules ∧ z.pairs = st.pairs := by rw [← hz]; split <;> exact r9
  refine ⟨⟨Bz.at_, Bz.fa, Bz.si, Bz.mo, Bz.ro, ?_, ?_, Bz.sp⟩, by show st.at_ < z.at_; omega⟩
  · refine Nat.le_trans (putA_len _ _ _) ?_
    show z.rules.length + 1 ≤ z.at_
    rw [rz.1, az]
    omega
  · show (if (first.text, second.text) ∈ z.pairs then z.pairs else z.pairs ++ [(first.text, second.text)]).length ≤ z.at_
    rw [az]
    split
    · rw [rz.2]; omega
    · rw [rz.2]; simp; omega
theorem bd_stmt (G : GoodT T) (B : Bd T st) {tiles : Nat} (h : parseStmt T tiles st = .ok ((), s1)) : Bd T s1 ∧ st.at_ < s1.at_ := by
  unfold parseStmt at h
  split at h
  · exact bd_robot G B h
  split at h
  · exact bd_put G B h
  split at h
  · exact bd_rule G B h
  · cases h
end
end Sw

end

section
set_option maxRecDepth 100000
set_option maxHeartbeats 4000000
/-! number_of, tile_of, the names -/
namespace Sw
open PySem PySem.Spec PyProof.Rows L2 SwA
def PLoc.nm (L : PLoc) (b : Bool) : Addr := if b then L.ml else L.sl
theorem idx_spec : ∀ {l : List Cs} {w : Cs}, w ∈ l → l[l.idxOf w]? = some w ∧ ∀ (m : Nat) z, m < l.idxOf w → l[m]? = some z → z ≠ w
  | [], w, h => by cases h
  | a :: r, w, h => by
    by_cases e : a = w
    · subst e
      have z : (a :: r).idxOf a = 0 := by simp [List.idxOf_cons]
      rw [z]
      exact ⟨rfl, fun m z hm => absurd hm (Nat.not_lt_zero m)⟩
    · have z : (a :: r).idxOf w = r.idxOf w + 1 := by
        rw [List.idxOf_cons]
        have : (a == w) = false := by simpa using e
        rw [this]
        rfl
      have hr : w ∈ r := by
        rcases List.mem_cons.mp h with q | q
        · exact absurd q.symm e
        · exact q
      obtain ⟨h1, h2⟩ := idx_spec hr
      rw [z]
      refine ⟨by simpa using h1, fun m y hm hy => ?_⟩
      cases m with
      | zero =>
        have : a = y := by simpa using hy
        rw [← this]
        exact e
      | succ m => exact h2 m y (by omega) (by simpa using hy)
section
variable {K : PySem.W.Frag} {H0 H H' : Hp} {p : Addr} {L : PLoc} {tas : List Addr} {T : List Tk} {st : PSt}
theorem PA.nmH (h : PA K H0 H p L tas T st) (b : Bool) : H (L.nm b) = some (.lst ((st.names b).map sV)) := by
  cases b
  · exact h.si
  · exact h.mo
/-- an object beside the parser is kept in mind -/
theorem PA.frame (h : PA K H0 H p L tas T st) {q : Addr} {o : HO} (hq : H q = some o) (hne : q ∉ [p, L.tl, L.fl, L.sl, L.ml, L.rl, L.rd, L.pd, L.sd]) : PA K (upd H0 q o) H p L tas T st :=
  ⟨fun b u e => by
    by_cases hb : b = q
    · rw [hb, upd_same] at e
      cases e
      rw [hb]
      exact hq
    · rw [upd_ne hb] at e
      exact h.same _ _ e, h.ob, h.tk, h.tks, h.fa, h.si, h.mo, h.ro, h.ru, h.pr, h.sp, h.nd, fun a ha => by
    rw [upd_ne fun z => hne (by rw [← z]; exact ha)]
    exact h.new a ha⟩
theorem PA.unframe {q : Addr} {o : HO} (h : PA K (upd H0 q o) H p L tas T st) (nq : H0 q = none) : PA K H0 H p L tas T st ∧ H q = some o :=
  ⟨⟨(sameUpd (Same.refl H0) nq).trans h.same, h.ob, h.tk, h.tks, h.fa, h.si, h.mo, h.ro, h.ru, h.pr, h.sp, h.nd, fun a ha => (sameUpd (o := o) (Same.refl H0) nq).free (h.new a ha)⟩, h.same _ _ upd_same⟩
theorem PA.notin (h : PA K H0 H p L tas T st) {q : Addr} (hq : H q = none) : q ∉ [p, L.tl, L.fl, L.sl, L.ml, L.rl, L.rd, L.pd, L.sd] := by
  intro z
  simp only [List.mem_cons, List.not_mem_nil, or_false] at z
  obtain ⟨dx, ob⟩ := h.ob
  obtain ⟨fas, hf, _⟩ := h.fa
  obtain ⟨ras, hr, _⟩ := h.ro
  obtain ⟨kvs, hk, _⟩ := h.ru
  rcases z with z | z | z | z | z | z | z | z | z
  · rw [z, ob] at hq; cases hq
  · rw [z, h.tk] at hq; cases hq
  · rw [z, hf] at hq; cases hq
  · rw [z, h.si] at hq; cases hq
  · rw [z, h.mo] at hq; cases hq
  · rw [z, hr] at hq; cases hq
  · rw [z, hk] at hq; cases hq
  · rw [z, h.pr] at hq; cases hq
  · rw [z, h.sp] at hq; cases hq
/-- a list beside the parser is changed -/
theorem PA.updList (h : PA K H0 H p L tas T st) {q : Addr} {xs ys : List V} (hq : H q = some (.lst xs)) (nq : H0 q = none) (hne : q ∉ [p, L.tl, L.fl, L.sl, L.ml, L.rl, L.rd, L.pd, L.sd]) : PA K H0 (upd H q (.lst ys)) p L tas T st := by
  have ne : ∀ a ∈ [p, L.tl, L.fl, L.sl, L.ml, L.rl, L.rd, L.pd, L.sd], a ≠ q := fun a ha z => hne (by rw [← z]; exact ha)
  have kt := keepT (o' := .lst ys) hq (fun xs q => by cases q)
  have kk := keepK (K := K) (o' := .lst ys) hq (fun C d fs q => by cases q)
  exact ⟨sameUpd h.same nq, (let ⟨dx, e⟩ := h.ob; ⟨dx, (upd_ne (ne _ (by simp))).trans e⟩), (upd_ne (ne _ (by simp))).trans h.tk, Paired.mapP h.tks fun a t q => kk a t q,
    (let ⟨fas, e1, e2⟩ := h.fa; ⟨fas, (upd_ne (ne _ (by simp))).trans e1, e2.mono kt⟩), (upd_ne (ne _ (by simp))).trans h.si, (upd_ne (ne _ (by simp))).trans h.mo,
    (let ⟨ras, e1, e2⟩ := h.ro; ⟨ras, (upd_ne (ne _ (by simp))).trans e1, Paired.mapP e2 fun _ _ q => kt _ _ q⟩),
    (let ⟨kvs, e1, e2⟩ := h.ru; ⟨kvs, (upd_ne (ne _ (by simp))).trans e1, Paired.mapP e2 fun _ _ q => q.mono kt⟩), (upd_ne (ne _ (by simp))).trans h.pr, (upd_ne (ne _ (by simp))).trans h.sp, h.nd, h.new⟩
end
theorem lp_no_number_of {L : PLoc} {n : Nat} : (parF L n).lookup ("number_of" : Str) = none := by kernel_rfl
theorem lp_no_tile_of {L : PLoc} {n : Nat} : (parF L n).lookup ("tile_of" : Str) = none := by kernel_rfl
theorem e_unknown : ("unknown" : Str) = sx rUnknown := by decide +kernel
theorem e_tile : ("tile" : Str) = sx rTile := by decide +kernel
theorem e_duplicate : ("duplicate" : Str) = sx rDuplicate := by decide +kernel
theorem e_semi : (";" : Str) = sx wSemi := by decide +kernel
theorem e_robot : ("robot" : Str) = sx wRobot := by decide +kernel
theorem e_robots : ("robots" : Str) = sx rRobots := by decide +kernel
theorem e_right : ("right" : Str) = sx wRight := by decide +kernel
theorem e_put : ("put" : Str) = sx wPut := by decide +kernel
theorem e_again : ("again" : Str) = sx rAgain := by decide +kernel
theorem e_when : ("when" : Str) = sx wWhen := by decide +kernel
theorem e_leave : ("leave" : Str) = sx wLeave := by decide +kernel
theorem e_twice : ("twice" : Str) = sx rTwice := by decide +kernel
theorem e_corridor : ("corridor" : Str) = sx wCorridor := by decide +kernel
theorem e_signs : ("signs" : Str) = sx wSigns := by decide +kernel
theorem e_moods : ("moods" : Str) = sx wMoods := by decide +kernel
section
variable {P : Program} {w : World} {K : PySem.W.Frag} {mg : Str → Option Value} {base : Heap}
def spNumberOf (K : PySem.W.Frag) : Sp := fun vs H Q _ => ∃ (H0 : Hp) (p : Addr) (L : PLoc) (tas : List Addr) (T : List Tk) (st : PSt) (b : Bool) (a : Addr) (t : Tk), vs = [.ref p, .ref (L.nm b), .ref a] ∧ PA K H0 H p L tas T st ∧
  TI tas T a t ∧ st.faults.length ≤ 1000000 ∧ ∀ H', PA K H0 H' p L tas T (numberOf (st.names b) t st).2 → Q (.int (numberOf (st.names b) t st).1) H'
theorem sc_number_of : FnScope ["self", "names", "token"] ["self", "names", "token"] (defScope s_Parser_number_of) := ⟨rfl, rfl, rfl, by decide +kernel, rfl, by decide +kernel, by decide +kernel⟩
theorem ok_number_of (T : ParT K mg) : FnE P w K mg base CX0 2 ("Parser", some "number_of") ["self", "names", "token"] (spNumberOf K) := by
  obtain ⟨fd, F⟩ := T.number_of.d
  obtain ⟨fdF, GF, bF, kF⟩ := ok_found (P := P) (w := w) (base := base) T
  refine ⟨fd, F.ok sc_number_of (fun vs H Q E h => ?_) (fun cdv A outer s H vs Q E hr h => ?_), F.bindsN fun _ _ _ _ _ _ us hl => match us, hl with | [_, _, _], _ => rfl, F.kp⟩
  · obtain ⟨H0, p, L, tas, Ts, st, b, a, t, rfl, _⟩ := h
    rfl
  · obtain ⟨H0, p, L, tas, Ts, st, b, a, t, rfl, hP, hta, hz, k⟩ := h
    refine ⟨_, PSs.nox (pss_cons (ps_if (pt_cmpR op_in_seq (pe_fld (pv 2) rfl) (pv 1) rfl)
        (pss_one (ps_ret (pe_bm PySem.F.plainAttrs_list PySem.F.slot_list_index PySem.F.type_list_index mt_index (pv 1) (pa_cons (pe_fld (pv 2) rfl) pa_nil)))) pss_nil)
      (pss_cons (ps_expr (pe_meth (pv 0) T.par.c T.found.m GF hr bF .nil pass0 (pa_cons pe_str (pa_cons (pv 2) pa_nil)))) (pss_one (ps_ret pe_int)))), ?_⟩
    obtain ⟨dx, ob⟩ := hP.ob
    obtain ⟨dt, ht⟩ := hP.get hta
    have hn := hP.nmH b
    refine ⟨_, rfl, a, _, dt, _, _, rfl, ht, T.l.tok.c, T.l.tok.n _ (by simp), lk_text, _, rfl, L.nm b, _, rfl, .inl (SqL.of hn), rfl, flat_sx _, _, rfl, ?_⟩
    rw [inV_sx]
    refine ite2 (fun h => ?_) (fun h => ?_)
    · have h : t.text ∈ st.names b := of_decide_eq_true h
      obtain ⟨i1, i2⟩ := idx_spec h
      have k1 := k H (by unfold numberOf; rw [if_pos h]; exact hP)
      have e : (numberOf (st.names b) t st).1 = (st.names b).idxOf t.text := by unfold numberOf; rw [if_pos h]
      rw [e] at k1
      refine ⟨_, rfl, .inl ⟨rfl, _, SqL.of hn⟩, _, rfl, a, _, dt, _, _, rfl, ht, T.l.tok.c, T.l.tok.n _ (by simp), lk_text, L.nm b, _, _, (st.names b).idxOf t.text, sV t.text, rfl, rfl, SqL.of hn, rfl, flat_sx _, by rw [List.getElem?_map, i1]; rfl, by rw [eq_str_sx]; exact decide_eq_true rfl, fun m z' hm hz' => ?_, k1⟩
      rw [List.getElem?_map] at hz'
      cases q : (st.names b)[m]? with
      | none => rw [q] at hz'; cases hz'
      | some y =>
        rw [q] at hz'
        cases hz'
        rw [eq_str_sx]
        exact decide_eq_false (i2 m y hm q)
    · have h : t.text ∉ st.names b := fun q => h (decide_eq_true q)
      refine ⟨_, rfl, p, dx, _, rfl, ob, lp_no_found, _, rfl, H0, p, L, tas, Ts, st, rUnknown, a, t, by rw [e_unknown]; rfl, hP, hta, hz, fun H' hP' => ?_⟩
      have k1 := k H' (by unfold numberOf; rw [if_neg h]; exact hP')
      have e : (numberOf (st.names b) t st).1 = 0 := by unfold numberOf; rw [if_neg h]
      rw [e] at k1
      exact k1
def spTileOf (K : PySem.W.Frag) : Sp := fun vs H Q E => ∃ (H0 : Hp) (p : Addr) (L : PLoc) (tas : List Addr) (T : List Tk) (st : PSt) (tiles : Nat), vs = [.ref p, .int tiles] ∧ PA K H0 H p L tas T st ∧ GoodT T ∧ st.at_ < T.length ∧ st.faults.length ≤ 1000000 ∧
  Res K H0 p L tas T (tileOf T tiles st) Q E retN
theorem sc_tile_of : FnScope ["self", "tiles", "token"] ["self", "tiles"] (defScope s_Parser_tile_of) := ⟨rfl, rfl, rfl, by decide +kernel, rfl, by decide +kernel, by decide +kernel⟩
theorem TI.mem {tas : List Addr} {T : List Tk} {a : Addr} {t : Tk} (h : TI tas T a t) : t ∈ T := let ⟨_, _, e⟩ := h; List.mem_of_getElem? e
theorem int_sx {w : Cs} (h : w.all isD = true) (h1 : 1 ≤ w.length) (h2 : w.length ≤ 2) : intText? (sx w) = some (numVal w : Int) := by
  have e : (sx w).cps.toList = w := rfl
  have z := PySem.intText_digits (x := sx w) (by
    rw [e]
    intro c hc
    have q := List.all_eq_true.mp h c hc
    unfold isD at q
    rw [Bool.and_eq_true] at q
    exact ⟨Nat.le_of_ble_eq_true q.1, Nat.le_of_ble_eq_true q.2⟩) (by rw [e]; intro q; rw [q] at h1; simp at h1) (by rw [len_sx]; omega)
  rw [e] at z
  exact z
theorem ok_tile_of (T : ParT K mg) : FnE P w K mg base (L2.CX P w) 5 ("Parser", some "tile_of") ["self", "tiles"] (spTileOf K) := by
  obtain ⟨fd, F⟩ := T.tile_of.d
  obtain ⟨fdF, GF, bF, kF⟩ := ok_found (P := P) (w := w) (base := base) T
  obtain ⟨fdT, GT, bT, kT⟩ := ok_take (P := P) (w := w) (base := base) T
  obtain ⟨t1, mNUM⟩ := T.l.NUMBER
  refine ⟨fd, F.ok sc_tile_of (fun vs H Q E h => ?_) (fun cdv A outer s H vs Q E hr h => ?_), F.bindsN fun _ _ _ _ _ _ us hl => match us, hl with | [_, _], _ => rfl, F.kp⟩
  · obtain ⟨H0, p, L, tas, Ts, st, tiles, rfl, _⟩ := h
    rfl
  · obtain ⟨H0, p, L, tas, Ts, st, tiles, rfl, hP, hG, hi, hz, R⟩ := h
    have hr1 : Room 1 _ := hr.mono (by decide)
    refine ⟨_, (pss_cons (ps_set (i := 2) sc_tile_of.nd rfl (.inl rfl) (pe_meth (pv 0) T.par.c T.take.m GT hr bT .nil (passes_call (takes_of rfl rfl rfl rfl) (fun _ _ _ _ h => h)) (pa_cons (pe_glob (v := .str "number") rfl mNUM ⟨_, rfl⟩) pa_nil)))
      (pss_cons (ps_if (pt_cmpR op_ge (pe_callTy call_int_str (by rfl) T.int (by decide +kernel) (pa_cons (pe_fld (pv 2) rfl) pa_nil)) (pv 1) (nomark _))
        (pss_one (ps_expr (pe_meth (pv 0) T.par.c T.found.m GF hr1 bF .nil pass0 (pa_cons pe_str (pa_cons (pv 2) pa_nil))))) pss_nil)
      (pss_one (ps_ret (pe_callTy call_int_str (by rfl) T.int (by decide +kernel) (pa_cons (pe_fld (pv 2) rfl) pa_nil)))))), ?_⟩
    obtain ⟨dx, ob⟩ := hP.ob
    refine ⟨_, rfl, p, dx, _, rfl, ob, lp_no_take, H0, p, L, tas, Ts, st, .number, rfl, hP, hi, ⟨fun t s1 ht v H1 hv hP1 => ?_, fun l c he => R.er l c (by simp only [tileOf, he])⟩⟩
    obtain ⟨a, rfl, hta⟩ := hv
    have hk := (take_ok ht).2.2
    have hs1 := (take_ok ht).1
    obtain ⟨⟨n1, n2⟩, n3⟩ := hG.num t hta.mem hk
    have hint := int_sx n3 n1 n2
    obtain ⟨dt, htk⟩ := hP1.get hta
    obtain ⟨dx1, ob1⟩ := hP1.ob
    refine ⟨_, rfl, a, _, dt, _, _, rfl, htk, T.l.tok.c, T.l.tok.n _ (by simp), lk_text, _, _, rfl, hint, by rw [len_sx]; omega, _, rfl, _, _, rfl, rfl, _, rfl, ?_⟩
    refine ite2 (fun h => ?_) (fun h => ?_)
    · have h := of_decide_eq_true h
      refine ⟨_, rfl, p, dx1, _, rfl, ob1, lp_no_found, _, rfl, H0, p, L, tas, Ts, s1, rTile, a, t, by rw [e_tile]; rfl, hP1, hta, by rw [hs1]; exact hz, fun H2 hP2 => ?_⟩
      obtain ⟨dt2, htk2⟩ := hP2.get hta
      refine ⟨_, rfl, a, _, dt2, _, _, rfl, htk2, T.l.tok.c, T.l.tok.n _ (by simp), lk_text, _, _, rfl, hint, by rw [len_sx]; omega, ?_⟩
      exact R.ok (numVal t.text) _ (by simp only [tileOf, ht, if_pos (show tiles ≤ numVal t.text by omega)]) _ _ rfl hP2
    · have h : ¬ (tiles : Int) ≤ (numVal t.text : Nat) := fun q => h (decide_eq_true q)
      refine ⟨_, rfl, a, _, dt, _, _, rfl, htk, T.l.tok.c, T.l.tok.n _ (by simp), lk_text, _, _, rfl, hint, by rw [len_sx]; omega, ?_⟩
      exact R.ok (numVal t.text) _ (by simp only [tileOf, ht, if_neg (show ¬ tiles ≤ numVal t.text by omega)]) _ _ rfl hP1
end
end Sw

end

section
set_option maxRecDepth 100000
set_option maxHeartbeats 4000000
/-! parse_names -/
namespace Sw
open PySem PySem.Spec PyProof.Rows L2 SwA
theorem Paired_idx {α β : Type} {F : α → β → Prop} : ∀ {l : List α} {m : List β} {i : Nat} {a : α}, Paired F l m → l[i]? = some a → ∃ b, m[i]? = some b ∧ F a b
  | _, _, i, _, .nil, h => by simp at h
  | _, _, 0, _, .cons x r, h => by simp at h; subst h; exact ⟨_, rfl, x⟩
  | _, _, i + 1, _, .cons x r, h => by
    obtain ⟨b, e, f⟩ := Paired_idx r (i := i) (by simpa using h)
    exact ⟨b, by simpa using e, f⟩
section
variable {P : Program} {w : World} {K : PySem.W.Frag} {mg : Str → Option Value} {base : Heap}
def spParseNames (K : PySem.W.Frag) : Sp := fun vs H Q E => ∃ (H0 : Hp) (p : Addr) (L : PLoc) (tas : List Addr) (T : List Tk) (st : PSt) (b : Bool), vs = [.ref p, sV (wordOf b), .ref (L.nm b), .int (mostOf b)] ∧ PA K H0 H p L tas T st ∧ GoodT T ∧ Bd T st ∧
  Res K H0 p L tas T (parseNames T b st) Q E retU
theorem sc_parse_names : FnScope ["self", "word", "names", "most", "tokens", "token"] ["self", "word", "names", "most"] (defScope s_Parser_parse_names) := ⟨rfl, rfl, rfl, by decide +kernel, rfl, by decide +kernel, by decide +kernel⟩
theorem ok_parse_names (T : ParT K mg) : FnE P w K mg base (L2.CX P w) 5 ("Parser", some "parse_names") ["self", "word", "names", "most"] (spParseNames K) := by
  obtain ⟨fd, F⟩ := T.parse_names.d
  obtain ⟨fdP, GP, bP, kP⟩ := ok_peek (P := P) (w := w) (base := base) T
  obtain ⟨fdF, GF, bF, kF⟩ := ok_found (P := P) (w := w) (base := base) T
  obtain ⟨fdT, GT, bT, kT⟩ := ok_take (P := P) (w := w) (base := base) T
  obtain ⟨fdW, GW, bW, kW⟩ := ok_take_word (P := P) (w := w) (base := base) T
  obtain ⟨t1, mNAME⟩ := T.l.NAME
  refine ⟨fd, F.ok sc_parse_names (fun vs H Q E h => ?_) (fun cdv A outer s H vs Q E hr h => ?_), F.bindsN fun _ _ _ _ _ _ us hl => match us, hl with | [_, _, _, _], _ => rfl, F.kp⟩
  · obtain ⟨H0, p, L, tas, Ts, st, b, rfl, _⟩ := h
    rfl
  · obtain ⟨H0, p, L, tas, Ts, st, b, rfl, hP, hG, hB, R⟩ := h
    have hr1 : Room 1 _ := hr.mono (by decide)
    refine ⟨_, (pss_cons (ps_expr (pe_meth (pv 0) T.par.c T.take_word.m GW hr bW .nil (passes_call (takes_of rfl rfl rfl rfl) (fun _ _ _ _ h => h)) (pa_cons (pv 1) pa_nil)))
      (pss_cons (ps_set (i := 4) sc_parse_names.nd rfl (.inl rfl) (pe_lst (pa_cons (pe_meth (pv 0) T.par.c T.take.m GT hr bT .nil (passes_call (takes_of rfl rfl rfl rfl) (fun _ _ _ _ h => h)) (pa_cons (pe_glob (v := .str "name") rfl mNAME ⟨_, rfl⟩) pa_nil)) pa_nil)))
      (pss_cons (ps_while (passes_of rfl) (pt_cmpR op_eq (pe_fld (pe_meth0 (pv 0) T.par.c T.peek.m GP hr1 bP .nil pass0) rfl) (pe_glob (v := .str "name") rfl mNAME ⟨_, rfl⟩) (nomark _))
        (pss_one (ps_expr (pe_bm PySem.F.plainAttrs_list PySem.F.slot_list_append PySem.F.type_list_append mt_append (pv 4) (pa_cons (pe_meth (pv 0) T.par.c T.take.m GT hr bT .nil (passes_call (takes_of rfl rfl rfl rfl) (fun _ _ _ _ h => h)) (pa_cons (pe_glob (v := .str "name") rfl mNAME ⟨_, rfl⟩) pa_nil)) pa_nil)))))
      (pss_cons (ps_expr (pe_meth (pv 0) T.par.c T.take_word.m GW hr bW .nil (passes_call (takes_of rfl rfl rfl rfl) (fun _ _ _ _ h => h)) (pa_cons pe_str pa_nil)))
      (pss_one (ps_for (passes_of rfl) rfl (pi_list (pv 4)) (pg_name (i := 5) sc_parse_names.nd rfl (.inl rfl))
        (pss_one (ps_if (pt_cmpR op_in_seq (pe_fld (pv 5) rfl) (pv 2) rfl)
          (pss_one (ps_expr (pe_meth (pv 0) T.par.c T.found.m GF hr1 bF .nil pass0 (pa_cons pe_str (pa_cons (pv 5) pa_nil)))))
          (pss_one (ps_if (pt_cmpR op_eq (pe_callB call_len_seq (by rfl) T.l.len boot_len (pa_cons (pv 2) pa_nil)) (pv 3) (nomark _))
            (pss_one (ps_expr (pe_meth (pv 0) T.par.c T.found.m GF hr1 bF .nil pass0 (pa_cons (pv 1) (pa_cons (pv 5) pa_nil)))))
            (pss_one (ps_expr (pe_bm PySem.F.plainAttrs_list PySem.F.slot_list_append PySem.F.type_list_append mt_append (pv 2) (pa_cons (pe_fld (pv 5) rfl) pa_nil)))))))))))))), ?_⟩
    obtain ⟨dx, ob⟩ := hP.ob
    refine ⟨_, rfl, p, dx, _, rfl, ob, lp_no_take_word, _, rfl, H0, p, L, tas, Ts, st, wordOf b, rfl, hP, hB.at_, ⟨fun t0 s1 h1 v H1 hv hP1 => ?_, fun l c he => R.er l c (by simp only [parseNames, he])⟩⟩
    clear hv
    obtain ⟨B1, f1, e1⟩ := bd_word hG hB h1 (wordOf_ne b)
    obtain ⟨dx1, ob1⟩ := hP1.ob
    refine ⟨_, rfl, p, dx1, _, rfl, ob1, lp_no_take, H0, p, L, tas, Ts, s1, .name, rfl, hP1, B1.at_, ⟨fun t s2 h2 v H2 hv hP2 => ?_, fun l c he => R.er l c (by simp only [parseNames, h1, he])⟩⟩
    obtain ⟨a, rfl, hta⟩ := hv
    obtain ⟨B2, f2, e2, _⟩ := bd_take hG B1 h2 (by decide)
    have hk2 := (take_ok h2).2.2
    refine ⟨(by show 1 ≤ sizeLine; decide), fun q nq => ?_⟩
    have hne := hP2.notin nq
    have nq0 : H0 q = none := hP2.same.free nq
    have hP2' := hP2.mono (sameUpd (o := .lst [.ref a]) (Same.refl H2) nq)
    have as2 : 2 ≤ s2.at_ := by
      rw [e2, e1]
      show 2 ≤ st.at_ + 1 + 1
      omega
    refine ⟨fun m σ H => ∃ (f : Nat) (acc : List Tk) (aas : List Addr) (s : PSt), m + s.at_ = Ts.length ∧ σ = [some (.ref p), some (sV (wordOf b)), some (.ref (L.nm b)), some (.int (mostOf b)), some (.ref q), none] ∧
      H q = some (.lst (aas.map V.ref)) ∧ Paired (TI tas Ts) aas acc ∧ PA K H0 H p L tas Ts s ∧ Bd Ts s ∧ Ts.length ≤ f + s.at_ ∧ moreNames Ts Ts.length s2 [t] = moreNames Ts f s acc ∧ acc.length + 1 ≤ s.at_,
      ⟨Ts.length - s2.at_, Ts.length, [t], [a], s2, Nat.sub_add_cancel (Nat.le_of_lt B2.at_), rfl, upd_same, .cons hta .nil, hP2', B2, Nat.le_add_right _ _, rfl, as2⟩, ?_⟩
    rintro m σ H3 ⟨f, acc, aas, s, hm, rfl, hq, hpa, hP3, B3, hf, hmn, hac⟩
    obtain ⟨dx3, ob3⟩ := hP3.ob
    have hlen := hG.len
    have B3at := B3.at_
    refine ⟨_, rfl, p, dx3, _, rfl, ob3, lp_no_peek, H0, p, L, tas, Ts, s, rfl, hP3, B3.at_, fun a3 hta3 => ?_⟩
    obtain ⟨dt3, ht3⟩ := hP3.get hta3
    refine ⟨a3, _, dt3, _, _, rfl, ht3, T.l.tok.c, T.l.tok.n _ (by simp), lk_kind, rfl, _, rfl, ?_⟩
    obtain ⟨f', rfl⟩ : ∃ f', f = f' + 1 := ⟨f - 1, by omega⟩
    refine ite2 (fun h => ?_) (fun h => ?_)
    · have h : (peek Ts s).kind = .name := kd_inj (b := .name) (V.str.inj (of_decide_eq_true h))
      refine ⟨_, fun _ _ n => n, ?_⟩
      refine ⟨_, rfl, .inl ⟨rfl, _, SqL.of hq⟩, _, rfl, p, dx3, _, rfl, ob3, lp_no_take, upd H0 q (.lst (aas.map V.ref)), p, L, tas, Ts, s, .name, rfl, hP3.frame hq hne, B3.at_, ⟨fun t' s' h' v H' hv hP' => ?_, fun l c he => ?_⟩⟩
      · obtain ⟨a', rfl, hta'⟩ := hv
        obtain ⟨hP'', hq'⟩ := hP'.unframe nq0
        obtain ⟨B', f'', e', _⟩ := bd_take hG B3 h' (by decide)
        have ht' := (take_ok h').2.1
        have hlt : (aas.map V.ref).length < sizeLine := by
          rw [List.length_map, hpa.length, sizeLine_eq]
          omega
        have ea : s'.at_ = s.at_ + 1 := by rw [e']; rfl
        refine ⟨q, _, _, rfl, rfl, hq', hlt, m - 1, by omega, f', acc ++ [t'], aas ++ [a'], s', by omega, rfl, by rw [upd_same, List.map_append]; rfl, Paired_snoc hpa hta', hP''.updList hq' nq0 hne, B', by omega, ?_, by simp; omega⟩
        rw [hmn]
        conv => lhs; unfold moreNames
        rw [if_pos h, e', ht']
      · exfalso
        unfold take at he
        rw [if_pos h] at he
        cases he
    · have h : ¬ (peek Ts s).kind = .name := fun q => h (decide_eq_true (by rw [q]; rfl))
      have hmn2 : moreNames Ts Ts.length s2 [t] = (acc, s) := by
        rw [hmn]
        unfold moreNames
        rw [if_neg h]
      have em1 : (moreNames Ts Ts.length s2 [t]).1 = acc := by rw [hmn2]
      have em2 : (moreNames Ts Ts.length s2 [t]).2 = s := by rw [hmn2]
      refine ⟨_, rfl, p, dx3, _, rfl, ob3, lp_no_take_word, upd H0 q (.lst (aas.map V.ref)), p, L, tas, Ts, s, wSemi, by rw [e_semi]; rfl, hP3.frame hq hne, B3.at_, ⟨fun t4 s4 h4 v H4 hv hP4 => ?_, fun l c he => ?_⟩⟩
      · clear hv
        obtain ⟨hP4', hq4⟩ := hP4.unframe nq0
        obtain ⟨B4, f4, e4⟩ := bd_word hG B3 h4 (by decide)
        have hfin : parseNames Ts b st = .ok ((), acc.foldl (addName b) s4) := by
          simp only [parseNames, h1, h2, em1, em2, h4]
        refine ⟨_, rfl, q, rfl, ⟨_, SqL.of hq4⟩, for_list (K := K) (a := q) (xs := aas.map V.ref) (fun i σ H => ∃ o5 : Option V, σ = [some (.ref p), some (sV (wordOf b)), some (.ref (L.nm b)), some (.int (mostOf b)), some (.ref q), o5] ∧
          H q = some (.lst (aas.map V.ref)) ∧ PA K H0 H p L tas Ts ((acc.take i).foldl (addName b) s4)) ⟨none, rfl, hq4, hP4'⟩ (fun i σ H _ hh => ?_) ?_ ?_⟩
        · obtain ⟨o5, rfl, hq5, _⟩ := hh
          exact SqL.of hq5
        · rintro i x σ H5 hx ⟨o5, rfl, hq5, hP5⟩
          rw [List.getElem?_map] at hx
          cases hai : aas[i]? with
          | none => rw [hai] at hx; cases hx
          | some ai =>
            rw [hai] at hx
            cases hx
            obtain ⟨ti, hti, hTI⟩ := Paired_idx hpa hai
            have hstep : (acc.take (i + 1)).foldl (addName b) s4 = addName b ((acc.take i).foldl (addName b) s4) ti := by
              rw [List.take_succ, hti, List.foldl_append]
              rfl
            rw [hstep]
            obtain ⟨c1, c2, c3, _⟩ := adds_spec b (acc.take i) s4 (B4.names b)
            generalize hs5 : (acc.take i).foldl (addName b) s4 = s5 at *
            have hfl : s5.faults.length ≤ 1000000 := by
              have z1 := B4.fa
              have z2 := B4.at_
              have z3 : (acc.take i).length ≤ acc.length := by rw [List.length_take]; omega
              omega
            obtain ⟨dx5, ob5⟩ := hP5.ob
            obtain ⟨dt5, ht5⟩ := hP5.get hTI
            have hn5 := hP5.nmH b
            refine ⟨_, rfl, ai, _, dt5, _, _, rfl, ht5, T.l.tok.c, T.l.tok.n _ (by simp), lk_text, _, rfl, L.nm b, _, rfl, .inl (SqL.of hn5), rfl, flat_sx _, _, rfl, ?_⟩
            rw [inV_sx]
            refine ite2 (fun h => ?_) (fun h => ?_)
            · have h : ti.text ∈ s5.names b := of_decide_eq_true h
              refine ⟨_, rfl, p, dx5, _, rfl, ob5, lp_no_found, _, rfl, upd H0 q (.lst (aas.map V.ref)), p, L, tas, Ts, s5, rDuplicate, ai, ti, by rw [e_duplicate]; rfl, hP5.frame hq5 hne, hTI, hfl, fun H6 hP6 => ?_⟩
              obtain ⟨hP6', hq6⟩ := hP6.unframe nq0
              refine ⟨_, rfl, hq6, ?_⟩
              unfold addName
              rw [if_pos h]
              exact hP6'
            · have h : ti.text ∉ s5.names b := fun q => h (decide_eq_true q)
              refine ⟨_, rfl, L.nm b, _, rfl, .inl (SqL.of hn5), _, rfl, rfl, _, rfl, ?_⟩
              rw [List.length_map]
              refine ite2 (fun h2 => ?_) (fun h2 => ?_)
              · have h2 : (s5.names b).length = mostOf b := by
                  have z := V.int.inj (of_decide_eq_true h2)
                  exact Int.ofNat_inj.mp z
                refine ⟨_, rfl, p, dx5, _, rfl, ob5, lp_no_found, _, rfl, _, rfl, upd H0 q (.lst (aas.map V.ref)), p, L, tas, Ts, s5, wordOf b, ai, ti, rfl, hP5.frame hq5 hne, hTI, hfl, fun H6 hP6 => ?_⟩
                obtain ⟨hP6', hq6⟩ := hP6.unframe nq0
                refine ⟨_, rfl, hq6, ?_⟩
                unfold addName
                rw [if_neg h, if_pos h2]
                exact hP6'
              · have h2 : ¬ (s5.names b).length = mostOf b := fun q => h2 (decide_eq_true (by rw [q]))
                have hlt : ((s5.names b).map sV).length < sizeLine := by
                  rw [List.length_map, sizeLine_eq]
                  have : mostOf b ≤ 6 := by cases b <;> decide
                  omega
                have hqn : q ≠ L.nm b := fun z => hne (by
                  rw [z]
                  cases b
                  · simp [PLoc.nm]
                  · simp [PLoc.nm])
                refine ⟨_, rfl, .inl ⟨rfl, _, SqL.of hn5⟩, _, rfl, ai, _, dt5, _, _, rfl, ht5, T.l.tok.c, T.l.tok.n _ (by simp), lk_text, L.nm b, _, _, rfl, rfl, hn5, hlt, ?_⟩
                have em : ((s5.names b).map sV ++ [sV ti.text]) = (s5.names b ++ [ti.text]).map sV := by rw [List.map_append]; rfl
                refine ⟨_, rfl, by rw [upd_ne hqn]; exact hq5, ?_⟩
                rw [em]
                unfold addName
                rw [if_neg h, if_neg h2]
                cases b
                · exact hP5.set_sl hn5 trivial
                · exact hP5.set_ml hn5 trivial
        · rintro σ H6 ⟨o5, rfl, hq6, hP6⟩
          rw [List.length_map] at hP6
          have ea : aas.length = acc.length := hpa.length
          rw [ea, List.take_length] at hP6
          exact R.ok () _ hfin _ _ rfl hP6
      · refine (R.er l c ?_).mono (sameUpd (Same.refl H0) nq0)
        simp only [parseNames, h1, h2, em2, he]
end
end Sw

end

section
set_option maxRecDepth 100000
set_option maxHeartbeats 4000000
/-! parse_robot, parse_put, parse_rule -/
namespace Sw
open PySem PySem.Spec PyProof.Rows L2 SwA
/-! ### the dicts -/
theorem key_inl {a b : Nat} : ((.inl (a : Int) : Key) = .inl (b : Int)) ↔ a = b := ⟨fun h => by injection h with h; omega, fun h => by rw [h]⟩
theorem keyT_inj {a b : Nat × Nat} : keyT a = keyT b ↔ a = b := by
  constructor
  · intro h
    unfold keyT at h
    injection h with h1 h2
    injection h2 with h2 _
    have e1 := key_inl.mp h1
    have e2 := key_inl.mp h2
    exact Prod.ext e1 e2
  · intro h; rw [h]
theorem pairK_inj {a b : Cs × Cs} : (pairK a).1 = (pairK b).1 ↔ a = b := by
  constructor
  · intro h
    unfold pairK at h
    injection h with h1 h2
    injection h2 with h2 _
    injection h1 with h1
    injection h2 with h2
    exact Prod.ext (sx_inj h1) (sx_inj h2)
  · intro h; rw [h]
theorem spots_any (l : List (Nat × Nat)) (n : Nat) : (valV (l.map spotK) (.inl (n : Int) : Key)).isSome = l.any fun kv => decide (kv.1 = n) := by
  rw [← valV_any]
  rw [List.any_map]
  congr 1
  funext kv
  show decide ((.inl (kv.1 : Int) : Key) = .inl (n : Int)) = decide (kv.1 = n)
  rw [Bool.eq_iff_iff, decide_eq_true_iff, decide_eq_true_iff, key_inl]
theorem spots_put (l : List (Nat × Nat)) (n v : Nat) : putK (l.map spotK) (.inl (n : Int) : Key) (.int v) = (putA l n v).map spotK := by
  unfold putK putA
  rw [valV_any, spots_any]
  split
  · rw [List.map_map, List.map_map]
    refine List.map_congr_left fun kv _ => ?_
    show (if (spotK kv).1 = .inl (n : Int) then ((spotK kv).1, V.int v) else spotK kv) = spotK (if kv.1 = n then (kv.1, v) else kv)
    by_cases e : kv.1 = n
    · rw [if_pos e, if_pos (by show (.inl (kv.1 : Int) : Key) = _; rw [e])]
      rfl
    · rw [if_neg e, if_neg (show ¬ (spotK kv).1 = .inl (n : Int) from fun q => e (key_inl.mp q))]
  · rw [List.map_append]
    rfl
theorem pairs_some (l : List (Cs × Cs)) (q : Cs × Cs) : (valV (l.map pairK) (pairK q).1).isSome = decide (q ∈ l) := by
  rw [← valV_any, List.any_map]
  rw [Bool.eq_iff_iff, List.any_eq_true, decide_eq_true_iff]
  constructor
  · rintro ⟨x, hx, e⟩
    have e := of_decide_eq_true e
    have e2 : (pairK x).1 = (pairK q).1 := e
    rw [pairK_inj] at e2
    rw [← e2]
    exact hx
  · intro h
    exact ⟨q, h, decide_eq_true rfl⟩
theorem pairs_put (l : List (Cs × Cs)) (q : Cs × Cs) : putK (l.map pairK) (pairK q).1 (.bl true) = (if q ∈ l then l else l ++ [q]).map pairK := by
  unfold putK
  rw [valV_any, pairs_some]
  by_cases h : q ∈ l
  · rw [if_pos (decide_eq_true h), if_pos h, List.map_map]
    refine List.map_congr_left fun x _ => ?_
    show (if (pairK x).1 = (pairK q).1 then ((pairK x).1, V.bl true) else pairK x) = pairK x
    split <;> rfl
  · rw [if_neg (fun z => h (of_decide_eq_true z)), if_neg h, List.map_append]
    rfl
theorem rules_any {H : Hp} {k : Nat × Nat} : ∀ {rs : List ((Nat × Nat) × Rule)} {kvs : List (List Key × V)}, Paired (RuleAt H) rs kvs → (kvs.any fun kv => decide (kv.1 = keyT k)) = rs.any fun kv => decide (kv.1 = k)
  | _, _, .nil => rfl
  | _, _, .cons (a := r) (b := kv) h t => by
    rw [List.any_cons, List.any_cons, rules_any t]
    congr 1
    rw [h.1, Bool.eq_iff_iff, decide_eq_true_iff, decide_eq_true_iff, keyT_inj]
theorem rules_put {H : Hp} {k : Nat × Nat} {r : Rule} {t : Addr} (ht : H t = some (.tup [.int r.left, sV r.move, .int r.later])) {rs : List ((Nat × Nat) × Rule)} {kvs : List (List Key × V)} (h : Paired (RuleAt H) rs kvs) :
    Paired (RuleAt H) (putA rs k r) (putK kvs (keyT k) (.ref t)) := by
  unfold putA putK
  rw [rules_any h]
  split
  · rename_i hany
    clear hany
    induction h with
    | nil => exact .nil
    | @cons r0 kv l m h t ih =>
      refine .cons ?_ ih
      dsimp only
      by_cases e : r0.1 = k
      · rw [if_pos e, if_pos (by rw [h.1, e])]
        exact ⟨h.1, _, rfl, ht⟩
      · rw [if_neg e, if_neg (by rw [h.1]; exact fun q => e (keyT_inj.mp q))]
        exact h
  · exact Paired_snoc h ⟨rfl, t, rfl, ht⟩
theorem Paired_len {α β : Type} {F : α → β → Prop} {l : List α} {m : List β} (h : Paired F l m) : l.length = m.length := h.length
theorem lp_no_parse_names {L : PLoc} {n : Nat} : (parF L n).lookup ("parse_names" : Str) = none := by kernel_rfl
theorem lp_no_parse_robot {L : PLoc} {n : Nat} : (parF L n).lookup ("parse_robot" : Str) = none := by kernel_rfl
theorem lp_no_parse_put {L : PLoc} {n : Nat} : (parF L n).lookup ("parse_put" : Str) = none := by kernel_rfl
theorem lp_no_parse_rule {L : PLoc} {n : Nat} : (parF L n).lookup ("parse_rule" : Str) = none := by kernel_rfl
theorem lp_no_parse_plan {L : PLoc} {n : Nat} : (parF L n).lookup ("parse_plan" : Str) = none := by kernel_rfl
section
variable {P : Program} {w : World} {K : PySem.W.Frag} {mg : Str → Option Value} {base : Heap}
def spParseRobot (K : PySem.W.Frag) : Sp := fun vs H Q E => ∃ (H0 : Hp) (p : Addr) (L : PLoc) (tas : List Addr) (T : List Tk) (st : PSt) (tiles : Nat), vs = [.ref p, .int tiles] ∧ PA K H0 H p L tas T st ∧ GoodT T ∧ Bd T st ∧
  Res K H0 p L tas T (parseRobot T tiles st) Q E retU
theorem sc_parse_robot : FnScope ["self", "tiles", "keyword", "tile", "way"] ["self", "tiles"] (defScope s_Parser_parse_robot) := ⟨rfl, rfl, rfl, by decide +kernel, rfl, by decide +kernel, by decide +kernel⟩
theorem ok_parse_robot (T : ParT K mg) : FnE P w K mg base (L2.CX P w) 6 ("Parser", some "parse_robot") ["self", "tiles"] (spParseRobot K) := by
  obtain ⟨fd, F⟩ := T.parse_robot.d
  obtain ⟨fdF, GF, bF, kF⟩ := ok_found (P := P) (w := w) (base := base) T
  obtain ⟨fdT, GT, bT, kT⟩ := ok_tile_of (P := P) (w := w) (base := base) T
  obtain ⟨fdW, GW, bW, kW⟩ := ok_take_word (P := P) (w := w) (base := base) T
  obtain ⟨fdK, GK, bK, kK⟩ := ok_take_keyword (P := P) (w := w) (base := base) T
  obtain ⟨t1, mMAX⟩ := T.MAX_ROBOTS
  refine ⟨fd, F.ok sc_parse_robot (fun vs H Q E h => ?_) (fun cdv A outer s H vs Q E hr h => ?_), F.bindsN fun _ _ _ _ _ _ us hl => match us, hl with | [_, _], _ => rfl, F.kp⟩
  · obtain ⟨H0, p, L, tas, Ts, st, tiles, rfl, _⟩ := h
    rfl
  · obtain ⟨H0, p, L, tas, Ts, st, tiles, rfl, hP, hG, hB, R⟩ := h
    have hr1 : Room 1 _ := hr.mono (by decide)
    have hr4 : Room 4 _ := hr.mono (by decide)
    refine ⟨_, (pss_cons (ps_set (i := 2) sc_parse_robot.nd rfl (.inl rfl) (pe_meth (pv 0) T.par.c T.take_word.m GW hr4 bW .nil (passes_call (takes_of rfl rfl rfl rfl) (fun _ _ _ _ h => h)) (pa_cons pe_str pa_nil)))
      (C8.pss_cut (ps_if (pt_cmpR op_eq (pe_callB call_len_seq (by rfl) T.l.len boot_len (pa_cons (pe_fld (pv 0) rfl) pa_nil)) (pe_glob (v := .int 3) rfl mMAX ⟨_, rfl⟩) (nomark _))
        (pss_one (ps_expr (pe_meth (pv 0) T.par.c T.found.m GF hr1 bF .nil pass0 (pa_cons pe_str (pa_cons (pv 2) pa_nil))))) pss_nil)
      (pss_cons (ps_set (i := 3) sc_parse_robot.nd rfl (.inl rfl) (pe_meth (pv 0) T.par.c T.tile_of.m GT hr bT .nil (passes_call (takes_of rfl rfl rfl rfl) (fun _ _ _ _ h => h)) (pa_cons (pv 1) pa_nil)))
      (pss_cons (ps_set (i := 4) sc_parse_robot.nd rfl (.inl rfl) (pe_meth (pv 0) T.par.c T.take_keyword.m GK hr4 bK .nil (passes_call (takes_of rfl rfl rfl rfl) (fun _ _ _ _ h => h)) (pa_cons (pe_glob (v := .ref (He.ga K nWays)) rfl T.WAYS rfl) pa_nil)))
      (pss_cons (ps_expr (pe_meth (pv 0) T.par.c T.take_word.m GW hr4 bW .nil (passes_call (takes_of rfl rfl rfl rfl) (fun _ _ _ _ h => h)) (pa_cons pe_str pa_nil)))
      (pss_one (ps_expr (pe_bm PySem.F.plainAttrs_list PySem.F.slot_list_append PySem.F.type_list_append mt_append (pe_fld (pv 0) rfl)
        (pa_cons (pe_tup (pa_cons (pv 3) (pa_cons (pe_cmpR op_eq (pe_fld (pv 4) rfl) pe_str (nomark _)) pa_nil))) pa_nil))))))))), ?_⟩
    obtain ⟨dx, ob⟩ := hP.ob
    refine ⟨_, rfl, p, dx, _, rfl, ob, lp_no_take_word, H0, p, L, tas, Ts, st, wRobot, by rw [e_robot]; rfl, hP, hB.at_, ⟨fun kw s1 h1 v H1 hv hP1 => ?_, fun l c he => R.er l c (by simp only [parseRobot, he])⟩⟩
    obtain ⟨a1, rfl, hta1⟩ := hv
    obtain ⟨B1, f1, e1⟩ := bd_word hG hB h1 (by decide)
    have hlen := hG.len
    have hat := B1.at_
    have hB1f := B1.fa
    obtain ⟨ras, hra, hras⟩ := hP1.ro
    obtain ⟨dx1, ob1⟩ := hP1.ob
    have B2 : Bd Ts (if s1.robots.length = 3 then s1.found rRobots kw else s1) := by
      split
      · exact B1.found (by omega)
      · exact B1
    refine ⟨fun σ' H' => σ' = [some (.ref p), some (.int tiles), some (.ref a1), none, none] ∧ PA K H0 H' p L tas Ts (if s1.robots.length = 3 then s1.found rRobots kw else s1), ?_, ?_⟩
    · refine ⟨_, rfl, p, _, dx1, _, _, rfl, ob1, T.par.c, T.par.n _ (by simp), lp_robots, L.rl, _, rfl, .inl (SqL.of hra), rfl, _, rfl, ?_⟩
      rw [List.length_map, hras.length]
      refine ite2 (fun h => ?_) (fun h => ?_)
      · have h : s1.robots.length = 3 := Int.ofNat_inj.mp (V.int.inj (of_decide_eq_true h))
        refine ⟨_, rfl, p, dx1, _, rfl, ob1, lp_no_found, _, rfl, H0, p, L, tas, Ts, s1, rRobots, a1, kw, by rw [e_robots]; rfl, hP1, hta1, by omega, fun H2 hP2 => ⟨rfl, ?_⟩⟩
        rw [if_pos h]
        exact hP2
      · have h : ¬ s1.robots.length = 3 := fun q => h (decide_eq_true (by rw [q]; rfl))
        refine ⟨rfl, ?_⟩
        rw [if_neg h]
        exact hP1
    · rintro σ' H2 ⟨rfl, hP2⟩
      generalize hs2 : (if s1.robots.length = 3 then s1.found rRobots kw else s1) = s2 at *
      obtain ⟨dx2, ob2⟩ := hP2.ob
      have B2f := B2.fa
      have B2a := B2.at_
      refine ⟨_, rfl, p, dx2, _, rfl, ob2, lp_no_tile_of, _, rfl, H0, p, L, tas, Ts, s2, tiles, rfl, hP2, hG, B2.at_, by omega, ⟨fun n s3 h3 v H3 hv hP3 => ?_, fun l c he => R.er l c (by simp only [parseRobot, h1, hs2, he])⟩⟩
      obtain rfl : v = .int n := hv
      obtain ⟨B3, f3, a3, r3, _⟩ := bd_tile hG B2 h3
      obtain ⟨dx3, ob3⟩ := hP3.ob
      refine ⟨_, rfl, p, dx3, _, rfl, ob3, lp_no_take_keyword, H0, p, L, tas, Ts, s3, He.ga K nWays, ways, rfl, hP3, B3.at_, T.ways H3, ⟨fun wy s4 h4 v H4 hv hP4 => ?_, fun l c he => R.er l c (by simp only [parseRobot, h1, hs2, h3, he])⟩⟩
      obtain ⟨a4, rfl, hta4⟩ := hv
      obtain ⟨B4, f4, e4⟩ := bd_kw hG B3 h4
      obtain ⟨dx4, ob4⟩ := hP4.ob
      refine ⟨_, rfl, p, dx4, _, rfl, ob4, lp_no_take_word, H0, p, L, tas, Ts, s4, wSemi, by rw [e_semi]; rfl, hP4, B4.at_, ⟨fun t5 s5 h5 v H5 hv hP5 => ?_, fun l c he => R.er l c (by simp only [parseRobot, h1, hs2, h3, h4, he])⟩⟩
      clear hv
      obtain ⟨B5, f5, e5⟩ := bd_word hG B4 h5 (by decide)
      obtain ⟨dx5, ob5⟩ := hP5.ob
      obtain ⟨dt, ht⟩ := hP5.get hta4
      obtain ⟨ras5, hra5, hras5⟩ := hP5.ro
      have B5r := B5.ro
      have B5a := B5.at_
      refine ⟨_, rfl, p, _, dx5, _, _, rfl, ob5, T.par.c, T.par.n _ (by simp), lp_robots, .inl ⟨rfl, _, SqL.of hra5⟩, _, rfl, _, rfl, a4, _, dt, _, _, rfl, ht, T.l.tok.c, T.l.tok.n _ (by simp), lk_text, rfl, (by show 2 ≤ sizeLine; decide), fun tu ntu => ?_⟩
      have nrl : L.rl ≠ tu := ne_of_none hra5 ntu
      have ed : decide (V.str (sx wy.text) = V.str "right") = decide (wy.text = wRight) := by
        rw [e_right, Bool.eq_iff_iff, decide_eq_true_iff, decide_eq_true_iff]
        exact ⟨fun q => sx_inj (V.str.inj q), fun q => by rw [q]⟩
      rw [ed]
      refine ⟨L.rl, _, _, rfl, rfl, by rw [upd_ne nrl]; exact hra5, by rw [List.length_map, hras5.length, sizeLine_eq]; omega, ?_⟩
      have sm := sameUpd (o := .tup [.int n, .bl (decide (wy.text = wRight))]) (Same.refl H5) ntu
      have hP6 := hP5.mono sm
      have em : (ras5.map V.ref ++ [V.ref tu]) = (ras5 ++ [tu]).map V.ref := by rw [List.map_append]; rfl
      rw [em]
      have hP7 := hP6.set_rl (ras := ras5 ++ [tu]) (rs := s5.robots ++ [(n, decide (wy.text = wRight))]) (sm _ _ hra5) (Paired_snoc (Paired.mapP hras5 fun a r q => keepT (sm _ _ hra5) (fun xs q => by cases q) _ _ (sm _ _ q)) (by
        show (upd _ L.rl _) tu = _
        rw [upd_ne (Ne.symm nrl), upd_same]))
      exact R.ok () _ (by simp only [parseRobot, h1, hs2, h3, h4, h5]) _ _ rfl hP7
end
end Sw

end

section
set_option maxRecDepth 100000
set_option maxHeartbeats 4000000
/-! parse_put, parse_rule -/
namespace Sw
open PySem PySem.Spec PyProof.Rows L2 SwA
section
variable {P : Program} {w : World} {K : PySem.W.Frag} {mg : Str → Option Value} {base : Heap}
def spParsePut (K : PySem.W.Frag) : Sp := fun vs H Q E => ∃ (H0 : Hp) (p : Addr) (L : PLoc) (tas : List Addr) (T : List Tk) (st : PSt) (tiles : Nat), vs = [.ref p, .int tiles] ∧ PA K H0 H p L tas T st ∧ GoodT T ∧ Bd T st ∧
  Res K H0 p L tas T (parsePut T tiles st) Q E retU
theorem sc_parse_put : FnScope ["self", "tiles", "sign", "token", "tile"] ["self", "tiles"] (defScope s_Parser_parse_put) := ⟨rfl, rfl, rfl, by decide +kernel, rfl, by decide +kernel, by decide +kernel⟩
theorem ok_parse_put (T : ParT K mg) : FnE P w K mg base (L2.CX P w) 6 ("Parser", some "parse_put") ["self", "tiles"] (spParsePut K) := by
  obtain ⟨fd, F⟩ := T.parse_put.d
  obtain ⟨fdP, GP, bP, kP⟩ := ok_peek (P := P) (w := w) (base := base) T
  obtain ⟨fdF, GF, bF, kF⟩ := ok_found (P := P) (w := w) (base := base) T
  obtain ⟨fdN, GN, bN, kN⟩ := ok_number_of (P := P) (w := w) (base := base) T
  obtain ⟨fdA, GA, bA, kA⟩ := ok_take (P := P) (w := w) (base := base) T
  obtain ⟨fdT, GT, bT, kT⟩ := ok_tile_of (P := P) (w := w) (base := base) T
  obtain ⟨fdW, GW, bW, kW⟩ := ok_take_word (P := P) (w := w) (base := base) T
  obtain ⟨t1, mNAME⟩ := T.l.NAME
  refine ⟨fd, F.ok sc_parse_put (fun vs H Q E h => ?_) (fun cdv A outer s H vs Q E hr h => ?_), F.bindsN fun _ _ _ _ _ _ us hl => match us, hl with | [_, _], _ => rfl, F.kp⟩
  · obtain ⟨H0, p, L, tas, Ts, st, tiles, rfl, _⟩ := h
    rfl
  · obtain ⟨H0, p, L, tas, Ts, st, tiles, rfl, hP, hG, hB, R⟩ := h
    have hr1 : Room 1 _ := hr.mono (by decide)
    have hr2 : Room 2 _ := hr.mono (by decide)
    have hr4 : Room 4 _ := hr.mono (by decide)
    have hu := hu_of hr
    refine ⟨_, (pss_cons (ps_expr (pe_meth (pv 0) T.par.c T.take_word.m GW hr4 bW .nil (passes_call (takes_of rfl rfl rfl rfl) (fun _ _ _ _ h => h)) (pa_cons pe_str pa_nil)))
      (pss_cons (ps_set (i := 2) sc_parse_put.nd rfl (.inl rfl) (pe_meth (pv 0) T.par.c T.number_of.m GN hr2 bN .nil pass0 (pa_cons (pe_fld (pv 0) rfl)
        (pa_cons (pe_meth (pv 0) T.par.c T.take.m GA hr4 bA .nil (passes_call (takes_of rfl rfl rfl rfl) (fun _ _ _ _ h => h)) (pa_cons (pe_glob (v := .str "name") rfl mNAME ⟨_, rfl⟩) pa_nil)) pa_nil))))
      (pss_cons (ps_set (i := 3) sc_parse_put.nd rfl (.inl rfl) (pe_meth0 (pv 0) T.par.c T.peek.m GP hr1 bP .nil pass0))
      (pss_cons (ps_set (i := 4) sc_parse_put.nd rfl (.inl rfl) (pe_meth (pv 0) T.par.c T.tile_of.m GT hr bT .nil (passes_call (takes_of rfl rfl rfl rfl) (fun _ _ _ _ h => h)) (pa_cons (pv 1) pa_nil)))
      (pss_cons (ps_expr (pe_meth (pv 0) T.par.c T.take_word.m GW hr4 bW .nil (passes_call (takes_of rfl rfl rfl rfl) (fun _ _ _ _ h => h)) (pa_cons pe_str pa_nil)))
      (C8.pss_cut (ps_if (pt_cmp (pc_din hu (pv 4) (pe_fld (pv 0) rfl)))
        (pss_one (ps_expr (pe_meth (pv 0) T.par.c T.found.m GF hr1 bF .nil pass0 (pa_cons pe_str (pa_cons (pv 3) pa_nil))))) pss_nil)
      (pss_one (ps_dput hu (pe_fld (pv 0) rfl) (pv 4) (pv 2) rfl)))))))), ?_⟩
    obtain ⟨dx, ob⟩ := hP.ob
    have hlen := hG.len
    refine ⟨_, rfl, p, dx, _, rfl, ob, lp_no_take_word, H0, p, L, tas, Ts, st, wPut, by rw [e_put]; rfl, hP, hB.at_, ⟨fun kw s1 h1 v H1 hv hP1 => ?_, fun l c he => R.er l c (by simp only [parsePut, he])⟩⟩
    clear hv
    obtain ⟨B1, f1, e1⟩ := bd_word hG hB h1 (by decide)
    obtain ⟨dx1, ob1⟩ := hP1.ob
    have B1a := B1.at_
    refine ⟨_, rfl, p, dx1, _, rfl, ob1, lp_no_number_of, _, rfl, p, _, dx1, _, _, rfl, ob1, T.par.c, T.par.n _ (by simp), lp_signs, _, rfl, p, dx1, _, rfl, ob1, lp_no_take, H0, p, L, tas, Ts, s1, .name, rfl, hP1, B1.at_,
      ⟨fun nm s2 h2 v H2 hv hP2 => ?_, fun l c he => R.er l c (by simp only [parsePut, h1, he])⟩⟩
    obtain ⟨a2, rfl, hta2⟩ := hv
    obtain ⟨B2, f2, e2, _⟩ := bd_take hG B1 h2 (by decide)
    have B2f := B2.fa
    have B2a := B2.at_
    refine ⟨H0, p, L, tas, Ts, s2, false, a2, nm, rfl, hP2, hta2, by omega, fun H3 hP3 => ?_⟩
    have en : (s2.names false) = s2.signs := rfl
    rw [en] at hP3
    rw [en]
    obtain ⟨B3, a3, f3⟩ := bd_number B2 (names := s2.signs) (t := nm) (by omega)
    generalize hs3 : (numberOf s2.signs nm s2).2 = s3 at *
    generalize hn3 : (numberOf s2.signs nm s2).1 = n3 at *
    obtain ⟨dx3, ob3⟩ := hP3.ob
    refine ⟨_, rfl, p, dx3, _, rfl, ob3, lp_no_peek, H0, p, L, tas, Ts, s3, rfl, hP3, B3.at_, fun a4 hta4 => ?_⟩
    have B3f := B3.fa
    have B3a := B3.at_
    refine ⟨_, rfl, p, dx3, _, rfl, ob3, lp_no_tile_of, _, rfl, H0, p, L, tas, Ts, s3, tiles, rfl, hP3, hG, B3.at_, by omega, ⟨fun n s5 h5 v H5 hv hP5 => ?_, fun l c he => R.er l c (by simp only [parsePut, h1, h2, hs3, he])⟩⟩
    obtain rfl : v = .int n := hv
    obtain ⟨B5, f5, a5, r5, sp5⟩ := bd_tile hG B3 h5
    obtain ⟨dx5, ob5⟩ := hP5.ob
    refine ⟨_, rfl, p, dx5, _, rfl, ob5, lp_no_take_word, H0, p, L, tas, Ts, s5, wSemi, by rw [e_semi]; rfl, hP5, B5.at_, ⟨fun t6 s6 h6 v H6 hv hP6 => ?_, fun l c he => R.er l c (by simp only [parsePut, h1, h2, hs3, h5, he])⟩⟩
    clear hv
    obtain ⟨B6, f6, e6⟩ := bd_word hG B5 h6 (by decide)
    obtain ⟨dx6, ob6⟩ := hP6.ob
    have B6f := B6.fa
    have B6a := B6.at_
    have hfin : parsePut Ts tiles st = .ok ((), { (if (s6.spots.any fun kv => decide (kv.1 = n)) = true then s6.found rAgain (peek Ts s3) else s6) with
        spots := putA (if (s6.spots.any fun kv => decide (kv.1 = n)) = true then s6.found rAgain (peek Ts s3) else s6).spots n n3 }) := by
      simp only [parsePut, h1, h2, hs3, h5, h6, hn3]
    refine ⟨fun σ' H' => σ' = [some (.ref p), some (.int tiles), some (.int n3), some (.ref a4), some (.int n)] ∧ PA K H0 H' p L tas Ts (if (s6.spots.any fun kv => decide (kv.1 = n)) = true then s6.found rAgain (peek Ts s3) else s6), ?_, ?_⟩
    · refine ⟨_, rfl, _, rfl, p, _, dx6, _, _, rfl, ob6, T.par.c, T.par.n _ (by simp), lp_spots, L.sd, _, rfl, DGet.k (k := Sum.inl (n : Int)) hP6.sp, _, rfl, ?_⟩
      rw [spots_any]
      refine ite2 (fun h => ?_) (fun h => ?_)
      · refine ⟨_, rfl, p, dx6, _, rfl, ob6, lp_no_found, _, rfl, H0, p, L, tas, Ts, s6, rAgain, a4, _, by rw [e_again]; rfl, hP6, hta4, by omega, fun H7 hP7 => ⟨rfl, ?_⟩⟩
        rw [if_pos h]
        exact hP7
      · refine ⟨rfl, ?_⟩
        rw [if_neg h]
        exact hP6
    · rintro σ' H7 ⟨rfl, hP7⟩
      have hsp : (if (s6.spots.any fun kv => decide (kv.1 = n)) = true then s6.found rAgain (peek Ts s3) else s6).spots = s6.spots := by split <;> rfl
      generalize hs7 : (if (s6.spots.any fun kv => decide (kv.1 = n)) = true then s6.found rAgain (peek Ts s3) else s6) = s7 at *
      obtain ⟨dx7, ob7⟩ := hP7.ob
      have B6s := B6.sp
      refine ⟨_, rfl, _, rfl, p, _, dx7, _, _, rfl, ob7, T.par.c, T.par.n _ (by simp), lp_spots, _, rfl, L.sd, _, rfl, DPut.k (k := Sum.inl (n : Int)) hP7.sp (by rw [List.length_map, hsp, sizeLine_eq]; omega), ?_⟩
      rw [spots_put]
      exact R.ok () _ hfin _ _ rfl (hP7.set_sd hP7.sp trivial)
def spParseRule (K : PySem.W.Frag) : Sp := fun vs H Q E => ∃ (H0 : Hp) (p : Addr) (L : PLoc) (tas : List Addr) (T : List Tk) (st : PSt), vs = [.ref p] ∧ PA K H0 H p L tas T st ∧ GoodT T ∧ Bd T st ∧
  Res K H0 p L tas T (parseRule T st) Q E retU
theorem sc_parse_rule : FnScope ["self", "keyword", "first", "mood", "second", "sign", "left", "move", "later"] ["self"] (defScope s_Parser_parse_rule) := ⟨rfl, rfl, rfl, by decide +kernel, rfl, by decide +kernel, by decide +kernel⟩
theorem ok_parse_rule (T : ParT K mg) : FnE P w K mg base (L2.CX P w) 6 ("Parser", some "parse_rule") ["self"] (spParseRule K) := by
  obtain ⟨fd, F⟩ := T.parse_rule.d
  obtain ⟨fdF, GF, bF, kF⟩ := ok_found (P := P) (w := w) (base := base) T
  obtain ⟨fdN, GN, bN, kN⟩ := ok_number_of (P := P) (w := w) (base := base) T
  obtain ⟨fdA, GA, bA, kA⟩ := ok_take (P := P) (w := w) (base := base) T
  obtain ⟨fdW, GW, bW, kW⟩ := ok_take_word (P := P) (w := w) (base := base) T
  obtain ⟨fdK, GK, bK, kK⟩ := ok_take_keyword (P := P) (w := w) (base := base) T
  obtain ⟨t1, mNAME⟩ := T.l.NAME
  refine ⟨fd, F.ok sc_parse_rule (fun vs H Q E h => ?_) (fun cdv A outer s H vs Q E hr h => ?_), F.bindsN fun _ _ _ _ _ _ us hl => match us, hl with | [_], _ => rfl, F.kp⟩
  · obtain ⟨H0, p, L, tas, Ts, st, rfl, _⟩ := h
    rfl
  · obtain ⟨H0, p, L, tas, Ts, st, rfl, hP, hG, hB, R⟩ := h
    have hr1 : Room 1 _ := hr.mono (by decide)
    have hr2 : Room 2 _ := hr.mono (by decide)
    have hr4 : Room 4 _ := hr.mono (by decide)
    have hu := hu_of hr
    refine ⟨_, (pss_cons (ps_set (i := 1) sc_parse_rule.nd rfl (.inl rfl) (pe_meth (pv 0) T.par.c T.take_word.m GW hr4 bW .nil (passes_call (takes_of rfl rfl rfl rfl) (fun _ _ _ _ h => h)) (pa_cons pe_str pa_nil)))
      (pss_cons (ps_set (i := 2) sc_parse_rule.nd rfl (.inl rfl) (pe_meth (pv 0) T.par.c T.take.m GA hr4 bA .nil (passes_call (takes_of rfl rfl rfl rfl) (fun _ _ _ _ h => h)) (pa_cons (pe_glob (v := .str "name") rfl mNAME ⟨_, rfl⟩) pa_nil)))
      (pss_cons (ps_set (i := 3) sc_parse_rule.nd rfl (.inl rfl) (pe_meth (pv 0) T.par.c T.number_of.m GN hr2 bN .nil pass0 (pa_cons (pe_fld (pv 0) rfl) (pa_cons (pv 2) pa_nil))))
      (pss_cons (ps_set (i := 4) sc_parse_rule.nd rfl (.inl rfl) (pe_meth (pv 0) T.par.c T.take.m GA hr4 bA .nil (passes_call (takes_of rfl rfl rfl rfl) (fun _ _ _ _ h => h)) (pa_cons (pe_glob (v := .str "name") rfl mNAME ⟨_, rfl⟩) pa_nil)))
      (pss_cons (ps_set (i := 5) sc_parse_rule.nd rfl (.inl rfl) (pe_meth (pv 0) T.par.c T.number_of.m GN hr2 bN .nil pass0 (pa_cons (pe_fld (pv 0) rfl) (pa_cons (pv 4) pa_nil))))
      (pss_cons (ps_expr (pe_meth (pv 0) T.par.c T.take_word.m GW hr4 bW .nil (passes_call (takes_of rfl rfl rfl rfl) (fun _ _ _ _ h => h)) (pa_cons pe_str pa_nil)))
      (pss_cons (ps_set (i := 6) sc_parse_rule.nd rfl (.inl rfl) (pe_meth (pv 0) T.par.c T.number_of.m GN hr2 bN .nil pass0 (pa_cons (pe_fld (pv 0) rfl)
        (pa_cons (pe_meth (pv 0) T.par.c T.take.m GA hr4 bA .nil (passes_call (takes_of rfl rfl rfl rfl) (fun _ _ _ _ h => h)) (pa_cons (pe_glob (v := .str "name") rfl mNAME ⟨_, rfl⟩) pa_nil)) pa_nil))))
      (pss_cons (ps_set (i := 7) sc_parse_rule.nd rfl (.inl rfl) (pe_meth (pv 0) T.par.c T.take_keyword.m GK hr4 bK .nil (passes_call (takes_of rfl rfl rfl rfl) (fun _ _ _ _ h => h)) (pa_cons (pe_glob (v := .ref (He.ga K "MOVES")) rfl T.MOVES rfl) pa_nil)))
      (pss_cons (ps_set (i := 8) sc_parse_rule.nd rfl (.inl rfl) (pe_meth (pv 0) T.par.c T.number_of.m GN hr2 bN .nil pass0 (pa_cons (pe_fld (pv 0) rfl)
        (pa_cons (pe_meth (pv 0) T.par.c T.take.m GA hr4 bA .nil (passes_call (takes_of rfl rfl rfl rfl) (fun _ _ _ _ h => h)) (pa_cons (pe_glob (v := .str "name") rfl mNAME ⟨_, rfl⟩) pa_nil)) pa_nil))))
      (pss_cons (ps_expr (pe_meth (pv 0) T.par.c T.take_word.m GW hr4 bW .nil (passes_call (takes_of rfl rfl rfl rfl) (fun _ _ _ _ h => h)) (pa_cons pe_str pa_nil)))
      (C8.pss_cut (ps_if (pt_cmp (pc_din hu (pe_tup (pa_cons (pe_fld (pv 2) rfl) (pa_cons (pe_fld (pv 4) rfl) pa_nil))) (pe_fld (pv 0) rfl)))
        (pss_one (ps_expr (pe_meth (pv 0) T.par.c T.found.m GF hr1 bF .nil pass0 (pa_cons pe_str (pa_cons (pv 1) pa_nil))))) pss_nil)
      (pss_cons (ps_dput hu (pe_fld (pv 0) rfl) (pe_tup (pa_cons (pe_fld (pv 2) rfl) (pa_cons (pe_fld (pv 4) rfl) pa_nil))) pe_bl rfl)
      (pss_one (ps_dput hu (pe_fld (pv 0) rfl) (pe_tup (pa_cons (pv 3) (pa_cons (pv 5) pa_nil))) (pe_tup (pa_cons (pv 6) (pa_cons (pe_fld (pv 7) rfl) (pa_cons (pv 8) pa_nil)))) rfl)))))))))))))), ?_⟩
    obtain ⟨dx, ob⟩ := hP.ob
    have hlen := hG.len
    refine ⟨_, rfl, p, dx, _, rfl, ob, lp_no_take_word, H0, p, L, tas, Ts, st, wWhen, by rw [e_when]; rfl, hP, hB.at_, ⟨fun kw s1 h1 v H1 hv hP1 => ?_, fun l c he => R.er l c (by simp only [parseRule, he])⟩⟩
    obtain ⟨akw, rfl, htakw⟩ := hv
    obtain ⟨B1, f1, e1⟩ := bd_word hG hB h1 (by decide)
    obtain ⟨dx1, ob1⟩ := hP1.ob
    refine ⟨_, rfl, p, dx1, _, rfl, ob1, lp_no_take, H0, p, L, tas, Ts, s1, .name, rfl, hP1, B1.at_, ⟨fun first s2 h2 v H2 hv hP2 => ?_, fun l c he => R.er l c (by simp only [parseRule, h1, he])⟩⟩
    obtain ⟨af, rfl, htaf⟩ := hv
    obtain ⟨B2, f2, e2, _⟩ := bd_take hG B1 h2 (by decide)
    obtain ⟨dx2, ob2⟩ := hP2.ob
    have B2f := B2.fa
    have B2a := B2.at_
    refine ⟨_, rfl, p, dx2, _, rfl, ob2, lp_no_number_of, _, rfl, p, _, dx2, _, _, rfl, ob2, T.par.c, T.par.n _ (by simp), lp_moods, _, rfl, H0, p, L, tas, Ts, s2, true, af, first, rfl, hP2, htaf, by omega, fun H3 hP3 => ?_⟩
    have en2 : (s2.names true) = s2.moods := rfl
    rw [en2] at hP3
    rw [en2]
    obtain ⟨B3, a3, f3⟩ := bd_number B2 (names := s2.moods) (t := first) (by omega)
    generalize hs3 : (numberOf s2.moods first s2).2 = s3 at *
    generalize hmood : (numberOf s2.moods first s2).1 = mood at *
    obtain ⟨dx3, ob3⟩ := hP3.ob
    refine ⟨_, rfl, p, dx3, _, rfl, ob3, lp_no_take, H0, p, L, tas, Ts, s3, .name, rfl, hP3, B3.at_, ⟨fun second s4 h4 v H4 hv hP4 => ?_, fun l c he => R.er l c (by simp only [parseRule, h1, h2, hs3, he])⟩⟩
    obtain ⟨as, rfl, htas⟩ := hv
    obtain ⟨B4, f4, e4, _⟩ := bd_take hG B3 h4 (by decide)
    obtain ⟨dx4, ob4⟩ := hP4.ob
    have B4f := B4.fa
    have B4a := B4.at_
    refine ⟨_, rfl, p, dx4, _, rfl, ob4, lp_no_number_of, _, rfl, p, _, dx4, _, _, rfl, ob4, T.par.c, T.par.n _ (by simp), lp_signs, _, rfl, H0, p, L, tas, Ts, s4, false, as, second, rfl, hP4, htas, by omega, fun H5 hP5 => ?_⟩
    have en4 : (s4.names false) = s4.signs := rfl
    rw [en4] at hP5
    rw [en4]
    obtain ⟨B5, a5, f5⟩ := bd_number B4 (names := s4.signs) (t := second) (by omega)
    generalize hs5 : (numberOf s4.signs second s4).2 = s5 at *
    generalize hsign : (numberOf s4.signs second s4).1 = sign at *
    obtain ⟨dx5, ob5⟩ := hP5.ob
    refine ⟨_, rfl, p, dx5, _, rfl, ob5, lp_no_take_word, H0, p, L, tas, Ts, s5, wLeave, by rw [e_leave]; rfl, hP5, B5.at_, ⟨fun t6 s6 h6 v H6 hv hP6 => ?_, fun l c he => R.er l c (by simp only [parseRule, h1, h2, hs3, h4, hs5, he])⟩⟩
    clear hv
    obtain ⟨B6, f6, e6⟩ := bd_word hG B5 h6 (by decide)
    obtain ⟨dx6, ob6⟩ := hP6.ob
    refine ⟨_, rfl, p, dx6, _, rfl, ob6, lp_no_number_of, _, rfl, p, _, dx6, _, _, rfl, ob6, T.par.c, T.par.n _ (by simp), lp_signs, _, rfl, p, dx6, _, rfl, ob6, lp_no_take, H0, p, L, tas, Ts, s6, .name, rfl, hP6, B6.at_,
      ⟨fun lf s7 h7 v H7 hv hP7 => ?_, fun l c he => R.er l c (by simp only [parseRule, h1, h2, hs3, h4, hs5, h6, he])⟩⟩
    obtain ⟨alf, rfl, htalf⟩ := hv
    obtain ⟨B7, f7, e7, _⟩ := bd_take hG B6 h7 (by decide)
    have B7f := B7.fa
    have B7a := B7.at_
    refine ⟨H0, p, L, tas, Ts, s7, false, alf, lf, rfl, hP7, htalf, by omega, fun H8 hP8 => ?_⟩
    have en7 : (s7.names false) = s7.signs := rfl
    rw [en7] at hP8
    rw [en7]
    obtain ⟨B8, a8, f8⟩ := bd_number B7 (names := s7.signs) (t := lf) (by omega)
    generalize hs8 : (numberOf s7.signs lf s7).2 = s8 at *
    generalize hleft : (numberOf s7.signs lf s7).1 = left at *
    obtain ⟨dx8, ob8⟩ := hP8.ob
    refine ⟨_, rfl, p, dx8, _, rfl, ob8, lp_no_take_keyword, H0, p, L, tas, Ts, s8, He.ga K "MOVES", moves, rfl, hP8, B8.at_, T.moves H8, ⟨fun mv s9 h9 v H9 hv hP9 => ?_, fun l c he => R.er l c (by simp only [parseRule, h1, h2, hs3, h4, hs5, h6, h7, hs8, he])⟩⟩
    obtain ⟨amv, rfl, htamv⟩ := hv
    obtain ⟨B9, f9, e9⟩ := bd_kw hG B8 h9
    obtain ⟨dx9, ob9⟩ := hP9.ob
    refine ⟨_, rfl, p, dx9, _, rfl, ob9, lp_no_number_of, _, rfl, p, _, dx9, _, _, rfl, ob9, T.par.c, T.par.n _ (by simp), lp_moods, _, rfl, p, dx9, _, rfl, ob9, lp_no_take, H0, p, L, tas, Ts, s9, .name, rfl, hP9, B9.at_,
      ⟨fun la s10 h10 v H10 hv hP10 => ?_, fun l c he => R.er l c (by simp only [parseRule, h1, h2, hs3, h4, hs5, h6, h7, hs8, h9, he])⟩⟩
    obtain ⟨ala, rfl, htala⟩ := hv
    obtain ⟨B10, f10, e10, _⟩ := bd_take hG B9 h10 (by decide)
    have B10f := B10.fa
    have B10a := B10.at_
    refine ⟨H0, p, L, tas, Ts, s10, true, ala, la, rfl, hP10, htala, by omega, fun H11 hP11 => ?_⟩
    have en10 : (s10.names true) = s10.moods := rfl
    rw [en10] at hP11
    rw [en10]
    obtain ⟨B11, a11, f11⟩ := bd_number B10 (names := s10.moods) (t := la) (by omega)
    generalize hs11 : (numberOf s10.moods la s10).2 = s11 at *
    generalize hlater : (numberOf s10.moods la s10).1 = later at *
    obtain ⟨dx11, ob11⟩ := hP11.ob
    refine ⟨_, rfl, p, dx11, _, rfl, ob11, lp_no_take_word, H0, p, L, tas, Ts, s11, wSemi, by rw [e_semi]; rfl, hP11, B11.at_, ⟨fun t12 s12 h12 v H12 hv hP12 => ?_, fun l c he => R.er l c (by simp only [parseRule, h1, h2, hs3, h4, hs5, h6, h7, hs8, h9, h10, hs11, he])⟩⟩
    clear hv
    obtain ⟨B12, f12, e12⟩ := bd_word hG B11 h12 (by decide)
    have B12f := B12.fa
    have B12a := B12.at_
    have B12p := B12.pr
    have B12r := B12.ru
    have hfin := fun (r : PR Unit) (e : parseRule Ts st = r) => e
    obtain ⟨dx12, ob12⟩ := hP12.ob
    obtain ⟨dtf, htf⟩ := hP12.get htaf
    obtain ⟨dts, hts⟩ := hP12.get htas
    generalize hz : (if (first.text, second.text) ∈ s12.pairs then s12.found rTwice kw else s12) = z
    have hfin : parseRule Ts st = .ok ((), { ({ z with pairs := if (first.text, second.text) ∈ z.pairs then z.pairs else z.pairs ++ [(first.text, second.text)] } : PSt) with
        rules := putA z.rules (mood, sign) ⟨left, mv.text, later⟩ }) := by
      simp only [parseRule, h1, h2, hs3, h4, hs5, h6, h7, hs8, h9, h10, hs11, h12, hmood, hsign, hleft, hlater, hz]
    have zp : z.pairs = s12.pairs ∧ z.rules = s12.rules := by rw [← hz]; split <;> exact ⟨rfl, rfl⟩
    refine ⟨fun σ' H' => σ' = [some (.ref p), some (.ref akw), some (.ref af), some (.int mood), some (.ref as), some (.int sign), some (.int left), some (.ref amv), some (.int later)] ∧ PA K H0 H' p L tas Ts z, ?_, ?_⟩
    · refine ⟨_, rfl, af, _, dtf, _, _, rfl, htf, T.l.tok.c, T.l.tok.n _ (by simp), lk_text, _, rfl, as, _, dts, _, _, rfl, hts, T.l.tok.c, T.l.tok.n _ (by simp), lk_text, (by show 2 ≤ sizeLine; decide), fun tu ntu => ?_⟩
      have sm := sameUpd (o := .tup [sV first.text, sV second.text]) (Same.refl H12) ntu
      have hP13 := hP12.mono sm
      refine ⟨_, rfl, p, _, dx12, _, _, rfl, sm _ _ ob12, T.par.c, T.par.n _ (by simp), lp_pairs, L.pd, _, rfl, DGet.t (k := (pairK (first.text, second.text)).1) hP13.pr upd_same, _, rfl, ?_⟩
      rw [pairs_some]
      refine ite2 (fun h => ?_) (fun h => ?_)
      · have h := of_decide_eq_true h
        refine ⟨_, rfl, p, dx12, _, rfl, sm _ _ ob12, lp_no_found, _, rfl, H0, p, L, tas, Ts, s12, rTwice, akw, kw, by rw [e_twice]; rfl, hP13, htakw, by omega, fun H14 hP14 => ⟨rfl, ?_⟩⟩
        rw [← hz, if_pos h]
        exact hP14
      · have h : ¬ (first.text, second.text) ∈ s12.pairs := fun q => h (decide_eq_true q)
        refine ⟨rfl, ?_⟩
        rw [← hz, if_neg h]
        exact hP13
    · rintro σ' H13 ⟨rfl, hP13⟩
      obtain ⟨dx13, ob13⟩ := hP13.ob
      obtain ⟨dtf, htf⟩ := hP13.get htaf
      obtain ⟨dts, hts⟩ := hP13.get htas
      refine ⟨_, rfl, p, _, dx13, _, _, rfl, ob13, T.par.c, T.par.n _ (by simp), lp_pairs, _, rfl, af, _, dtf, _, _, rfl, htf, T.l.tok.c, T.l.tok.n _ (by simp), lk_text, _, rfl, as, _, dts, _, _, rfl, hts, T.l.tok.c, T.l.tok.n _ (by simp), lk_text, (by show 2 ≤ sizeLine; decide), fun tu ntu => ?_⟩
      have sm := sameUpd (o := .tup [sV first.text, sV second.text]) (Same.refl H13) ntu
      have hP14 := hP13.mono sm
      refine ⟨L.pd, _, rfl, DPut.t (k := (pairK (first.text, second.text)).1) hP14.pr upd_same (by rw [List.length_map, zp.1, sizeLine_eq]; omega), ?_⟩
      rw [pairs_put]
      have hP15 := hP14.set_pd (ps := if (first.text, second.text) ∈ z.pairs then z.pairs else z.pairs ++ [(first.text, second.text)]) hP14.pr trivial
      generalize hH15 : upd (upd H13 tu (.tup [sV first.text, sV second.text])) L.pd (.dT ((if (first.text, second.text) ∈ z.pairs then z.pairs else z.pairs ++ [(first.text, second.text)]).map pairK)) = H15 at *
      obtain ⟨dx15, ob15⟩ := hP15.ob
      obtain ⟨dtm, htm⟩ := hP15.get htamv
      refine ⟨_, rfl, _, rfl, amv, _, dtm, _, _, rfl, htm, T.l.tok.c, T.l.tok.n _ (by simp), lk_text, _, rfl, (by show 3 ≤ sizeLine; decide), fun tv ntv => ?_⟩
      have sm2 := sameUpd (o := .tup [.int left, sV mv.text, .int later]) (Same.refl H15) ntv
      refine ⟨_, rfl, p, _, dx15, _, _, rfl, sm2 _ _ ob15, T.par.c, T.par.n _ (by simp), lp_rules, _, rfl, _, rfl, (by show 2 ≤ sizeLine; decide), fun tk ntk => ?_⟩
      have sm3 := sm2.trans (sameUpd (o := .tup [.int mood, .int sign]) (Same.refl _) ntk)
      have hP16 := hP15.mono sm3
      obtain ⟨kvs, hkv, hkvs⟩ := hP16.ru
      have htv : (upd (upd H15 tv (.tup [.int left, sV mv.text, .int later])) tk (.tup [.int mood, .int sign])) tv = some (.tup [.int left, sV mv.text, .int later]) := by
        rw [upd_ne (ne_of_none upd_same ntk), upd_same]
      have hkl : z.rules.length = kvs.length := hkvs.length
      refine ⟨L.rd, _, rfl, DPut.t (k := keyT (mood, sign)) hkv upd_same (by rw [← hkl, zp.2, sizeLine_eq]; omega), ?_⟩
      refine R.ok () _ hfin _ _ rfl (hP16.set_rd hkv ?_)
      have z1 := rules_put (k := (mood, sign)) (r := ⟨left, mv.text, later⟩) htv hkvs
      exact Paired.mapP z1 fun r kv q => q.mono (keepT hkv fun xs q => by cases q)
end
end Sw

end

section
set_option maxRecDepth 100000
set_option maxHeartbeats 4000000
/-! Parser.__init__ -/
namespace Sw
open PySem PySem.Spec PyProof.Rows L2 SwA
theorem put_par (L : PLoc) : putF "spots" (.ref L.sd) (putF "pairs" (.ref L.pd) (putF "rules" (.ref L.rd) (putF "robots" (.ref L.rl) (putF "moods" (.ref L.ml) (putF "signs" (.ref L.sl) (putF "faults" (.ref L.fl) (putF "at" (.int 0) (putF "tokens" (.ref L.tl) [])))))))) = parF L 0 := by kernel_rfl
section
variable {P : Program} {w : World} {K : PySem.W.Frag} {mg : Str → Option Value} {base : Heap}
def spParInit (K : PySem.W.Frag) : Sp := fun vs H Q _ => ∃ (H0 : Hp) (p dx tl : Addr) (tas : List Addr) (T : List Tk), vs = [.ref p, .ref tl] ∧ H p = some (.ins (He.ga K "Parser") dx []) ∧ H tl = some (.lst (tas.map V.ref)) ∧ TksAt K H tas T ∧
  Same H0 H ∧ H0 p = none ∧ H0 tl = none ∧ ∀ (L : PLoc) (H' : Hp), PA K H0 H' p L tas T st0 → Q .non H'
theorem sc_par_init : FnScope ["self", "tokens"] ["self", "tokens"] (defScope s_Parser_init) := ⟨rfl, rfl, rfl, by decide +kernel, rfl, by decide +kernel, by decide +kernel⟩
theorem ok_par_init (T : ParT K mg) : FnE P w K mg base CX0 1 ("Parser", some "__init__") ["self", "tokens"] (spParInit K) := by
  obtain ⟨fd, F⟩ := T.init
  refine ⟨fd, F.ok sc_par_init (fun vs H Q E h => ?_) (fun cdv A outer s H vs Q E hr h => ?_), F.bindsN fun _ _ _ _ _ _ us hl => match us, hl with | [_, _], _ => rfl, F.kp⟩
  · obtain ⟨H0, p, dx, tl, tas, Ts, rfl, _⟩ := h
    rfl
  · obtain ⟨H0, p, dx, tl, tas, Ts, rfl, hp, htl, htk, sm, n0p, n0t, k⟩ := h
    refine ⟨_, PSs.nox (pss_cons (ps_fld (pv 0) (pv 1) rfl) (pss_cons (ps_fld (pv 0) pe_int rfl) (pss_cons (ps_fld (pv 0) (pe_lst pa_nil) rfl) (pss_cons (ps_fld (pv 0) (pe_lst pa_nil) rfl) (pss_cons (ps_fld (pv 0) (pe_lst pa_nil) rfl)
      (pss_cons (ps_fld (pv 0) (pe_lst pa_nil) rfl) (pss_cons (ps_fld (pv 0) pe_dnewT rfl) (pss_cons (ps_fld (pv 0) pe_dnewT rfl) (pss_one (ps_fld (pv 0) pe_dnewK rfl)))))))))), ?_⟩
    have kk0 : ∀ (Hc : Hp) (fs fs' : List (Str × V)), Hc p = some (.ins (He.ga K "Parser") dx fs) → TksAt K Hc tas Ts → TksAt K (upd Hc p (.ins (He.ga K "Parser") dx fs')) tas Ts := fun Hc fs fs' e h => Paired.mapP h fun a t q => keepK (K := K) e (fun C d gs z => by cases z; exact T.ne) a t q
    have ptl : tl ≠ p := ne_of htl hp (by intro z; cases z)
    refine ⟨_, rfl, _, rfl, p, _, dx, _, rfl, hp, T.par.c, T.par.n _ (by simp), lnZ ln0, ?_⟩
    refine ⟨_, rfl, p, _, dx, _, rfl, upd_same, T.par.c, T.par.n _ (by simp), lnZ (lnS ln0), ?_⟩
    rw [upd_upd]
    have at_p := @upd_same H p (.ins (He.ga K "Parser") dx (putF "at" (.int 0) (putF "tokens" (.ref tl) [])))
    have at_tl : (upd H p (.ins (He.ga K "Parser") dx (putF "at" (.int 0) (putF "tokens" (.ref tl) [])))) tl = some (.lst (tas.map V.ref)) := by rw [upd_ne ptl]; exact htl
    have tks := kk0 H _ (putF "at" (.int 0) (putF "tokens" (.ref tl) [])) hp htk
    have sm1 : Same H0 (upd H p (.ins (He.ga K "Parser") dx (putF "at" (.int 0) (putF "tokens" (.ref tl) [])))) := sameUpd sm n0p
    generalize upd H p (.ins (He.ga K "Parser") dx (putF "at" (.int 0) (putF "tokens" (.ref tl) []))) = H2 at *
    refine ⟨(by show 0 ≤ sizeLine; decide), fun fl n_fl => ?_⟩
    have n0_fl : H0 fl = none := sm1.free n_fl
    have p_fl : p ≠ fl := ne_of_none at_p n_fl
    have tl_fl : tl ≠ fl := ne_of_none at_tl n_fl
    refine ⟨_, rfl, p, _, dx, _, rfl, (upd_ne p_fl).trans at_p, T.par.c, T.par.n _ (by simp), lnZ (lnS (lnS ln0)), ?_⟩
    replace tks := kk0 _ _ (putF "faults" (.ref fl) (putF "at" (.int 0) (putF "tokens" (.ref tl) []))) ((upd_ne (o := .lst []) p_fl).trans at_p) (tks.same (sameUpd (o := .lst []) (Same.refl _) n_fl))
    replace at_p := @upd_same (upd H2 fl (.lst [])) p (.ins (He.ga K "Parser") dx (putF "faults" (.ref fl) (putF "at" (.int 0) (putF "tokens" (.ref tl) []))))
    replace at_tl := ((upd_ne (H := upd H2 fl (.lst [])) (o := .ins (He.ga K "Parser") dx (putF "faults" (.ref fl) (putF "at" (.int 0) (putF "tokens" (.ref tl) [])))) ptl).trans (upd_ne (o := .lst []) tl_fl)).trans at_tl
    have at_fl : (upd (upd H2 fl (.lst [])) p (.ins (He.ga K "Parser") dx (putF "faults" (.ref fl) (putF "at" (.int 0) (putF "tokens" (.ref tl) []))))) fl = some (.lst []) := (upd_ne (Ne.symm p_fl)).trans upd_same
    replace sm1 : Same H0 (upd (upd H2 fl (.lst [])) p (.ins (He.ga K "Parser") dx (putF "faults" (.ref fl) (putF "at" (.int 0) (putF "tokens" (.ref tl) []))))) := sameUpd (sameUpd sm1 n0_fl) n0p
    generalize upd (upd H2 fl (.lst [])) p (.ins (He.ga K "Parser") dx (putF "faults" (.ref fl) (putF "at" (.int 0) (putF "tokens" (.ref tl) [])))) = H3 at *
    refine ⟨(by show 0 ≤ sizeLine; decide), fun sl n_sl => ?_⟩
    have n0_sl : H0 sl = none := sm1.free n_sl
    have p_sl : p ≠ sl := ne_of_none at_p n_sl
    have tl_sl : tl ≠ sl := ne_of_none at_tl n_sl
    have fl_sl : fl ≠ sl := ne_of_none at_fl n_sl
    refine ⟨_, rfl, p, _, dx, _, rfl, (upd_ne p_sl).trans at_p, T.par.c, T.par.n _ (by simp), lnZ (lnS (lnS (lnS ln0))), ?_⟩
    replace tks := kk0 _ _ (putF "signs" (.ref sl) (putF "faults" (.ref fl) (putF "at" (.int 0) (putF "tokens" (.ref tl) [])))) ((upd_ne (o := .lst []) p_sl).trans at_p) (tks.same (sameUpd (o := .lst []) (Same.refl _) n_sl))
    replace at_p := @upd_same (upd H3 sl (.lst [])) p (.ins (He.ga K "Parser") dx (putF "signs" (.ref sl) (putF "faults" (.ref fl) (putF "at" (.int 0) (putF "tokens" (.ref tl) [])))))
    replace at_tl := ((upd_ne (H := upd H3 sl (.lst [])) (o := .ins (He.ga K "Parser") dx (putF "signs" (.ref sl) (putF "faults" (.ref fl) (putF "at" (.int 0) (putF "tokens" (.ref tl) []))))) ptl).trans (upd_ne (o := .lst []) tl_sl)).trans at_tl
    replace at_fl := ((upd_ne (H := upd H3 sl (.lst [])) (o := .ins (He.ga K "Parser") dx (putF "signs" (.ref sl) (putF "faults" (.ref fl) (putF "at" (.int 0) (putF "tokens" (.ref tl) []))))) (Ne.symm p_fl)).trans (upd_ne (o := .lst []) fl_sl)).trans at_fl
    have at_sl : (upd (upd H3 sl (.lst [])) p (.ins (He.ga K "Parser") dx (putF "signs" (.ref sl) (putF "faults" (.ref fl) (putF "at" (.int 0) (putF "tokens" (.ref tl) [])))))) sl = some (.lst []) := (upd_ne (Ne.symm p_sl)).trans upd_same
    replace sm1 : Same H0 (upd (upd H3 sl (.lst [])) p (.ins (He.ga K "Parser") dx (putF "signs" (.ref sl) (putF "faults" (.ref fl) (putF "at" (.int 0) (putF "tokens" (.ref tl) [])))))) := sameUpd (sameUpd sm1 n0_sl) n0p
    generalize upd (upd H3 sl (.lst [])) p (.ins (He.ga K "Parser") dx (putF "signs" (.ref sl) (putF "faults" (.ref fl) (putF "at" (.int 0) (putF "tokens" (.ref tl) []))))) = H4 at *
    refine ⟨(by show 0 ≤ sizeLine; decide), fun ml n_ml => ?_⟩
    have n0_ml : H0 ml = none := sm1.free n_ml
    have p_ml : p ≠ ml := ne_of_none at_p n_ml
    have tl_ml : tl ≠ ml := ne_of_none at_tl n_ml
    have fl_ml : fl ≠ ml := ne_of_none at_fl n_ml
    have sl_ml : sl ≠ ml := ne_of_none at_sl n_ml
    refine ⟨_, rfl, p, _, dx, _, rfl, (upd_ne p_ml).trans at_p, T.par.c, T.par.n _ (by simp), lnZ (lnS (lnS (lnS (lnS ln0)))), ?_⟩
    replace tks := kk0 _ _ (putF "moods" (.ref ml) (putF "signs" (.ref sl) (putF "faults" (.ref fl) (putF "at" (.int 0) (putF "tokens" (.ref tl) []))))) ((upd_ne (o := .lst []) p_ml).trans at_p) (tks.same (sameUpd (o := .lst []) (Same.refl _) n_ml))
    replace at_p := @upd_same (upd H4 ml (.lst [])) p (.ins (He.ga K "Parser") dx (putF "moods" (.ref ml) (putF "signs" (.ref sl) (putF "faults" (.ref fl) (putF "at" (.int 0) (putF "tokens" (.ref tl) []))))))
    replace at_tl := ((upd_ne (H := upd H4 ml (.lst [])) (o := .ins (He.ga K "Parser") dx (putF "moods" (.ref ml) (putF "signs" (.ref sl) (putF "faults" (.ref fl) (putF "at" (.int 0) (putF "tokens" (.ref tl) [])))))) ptl).trans (upd_ne (o := .lst []) tl_ml)).trans at_tl
    replace at_fl := ((upd_ne (H := upd H4 ml (.lst [])) (o := .ins (He.ga K "Parser") dx (putF "moods" (.ref ml) (putF "signs" (.ref sl) (putF "faults" (.ref fl) (putF "at" (.int 0) (putF "tokens" (.ref tl) [])))))) (Ne.symm p_fl)).trans (upd_ne (o := .lst []) fl_ml)).trans at_fl
    replace at_sl := ((upd_ne (H := upd H4 ml (.lst [])) (o := .ins (He.ga K "Parser") dx (putF "moods" (.ref ml) (putF "signs" (.ref sl) (putF "faults" (.ref fl) (putF "at" (.int 0) (putF "tokens" (.ref tl) [])))))) (Ne.symm p_sl)).trans (upd_ne (o := .lst []) sl_ml)).trans at_sl
    have at_ml : (upd (upd H4 ml (.lst [])) p (.ins (He.ga K "Parser") dx (putF "moods" (.ref ml) (putF "signs" (.ref sl) (putF "faults" (.ref fl) (putF "at" (.int 0) (putF "tokens" (.ref tl) []))))))) ml = some (.lst []) := (upd_ne (Ne.symm p_ml)).trans upd_same
    replace sm1 : Same H0 (upd (upd H4 ml (.lst [])) p (.ins (He.ga K "Parser") dx (putF "moods" (.ref ml) (putF "signs" (.ref sl) (putF "faults" (.ref fl) (putF "at" (.int 0) (putF "tokens" (.ref tl) []))))))) := sameUpd (sameUpd sm1 n0_ml) n0p
    generalize upd (upd H4 ml (.lst [])) p (.ins (He.ga K "Parser") dx (putF "moods" (.ref ml) (putF "signs" (.ref sl) (putF "faults" (.ref fl) (putF "at" (.int 0) (putF "tokens" (.ref tl) [])))))) = H5 at *
    refine ⟨(by show 0 ≤ sizeLine; decide), fun rl n_rl => ?_⟩
    have n0_rl : H0 rl = none := sm1.free n_rl
    have p_rl : p ≠ rl := ne_of_none at_p n_rl
    have tl_rl : tl ≠ rl := ne_of_none at_tl n_rl
    have fl_rl : fl ≠ rl := ne_of_none at_fl n_rl
    have sl_rl : sl ≠ rl := ne_of_none at_sl n_rl
    have ml_rl : ml ≠ rl := ne_of_none at_ml n_rl
    refine ⟨_, rfl, p, _, dx, _, rfl, (upd_ne p_rl).trans at_p, T.par.c, T.par.n _ (by simp), lnZ (lnS (lnS (lnS (lnS (lnS ln0))))), ?_⟩
    replace tks := kk0 _ _ (putF "robots" (.ref rl) (putF "moods" (.ref ml) (putF "signs" (.ref sl) (putF "faults" (.ref fl) (putF "at" (.int 0) (putF "tokens" (.ref tl) [])))))) ((upd_ne (o := .lst []) p_rl).trans at_p) (tks.same (sameUpd (o := .lst []) (Same.refl _) n_rl))
    replace at_p := @upd_same (upd H5 rl (.lst [])) p (.ins (He.ga K "Parser") dx (putF "robots" (.ref rl) (putF "moods" (.ref ml) (putF "signs" (.ref sl) (putF "faults" (.ref fl) (putF "at" (.int 0) (putF "tokens" (.ref tl) [])))))))
    replace at_tl := ((upd_ne (H := upd H5 rl (.lst [])) (o := .ins (He.ga K "Parser") dx (putF "robots" (.ref rl) (putF "moods" (.ref ml) (putF "signs" (.ref sl) (putF "faults" (.ref fl) (putF "at" (.int 0) (putF "tokens" (.ref tl) []))))))) ptl).trans (upd_ne (o := .lst []) tl_rl)).trans at_tl
    replace at_fl := ((upd_ne (H := upd H5 rl (.lst [])) (o := .ins (He.ga K "Parser") dx (putF "robots" (.ref rl) (putF "moods" (.ref ml) (putF "signs" (.ref sl) (putF "faults" (.ref fl) (putF "at" (.int 0) (putF "tokens" (.ref tl) []))))))) (Ne.symm p_fl)).trans (upd_ne (o := .lst []) fl_rl)).trans at_fl
    replace at_sl := ((upd_ne (H := upd H5 rl (.lst [])) (o := .ins (He.ga K "Parser") dx (putF "robots" (.ref rl) (putF "moods" (.ref ml) (putF "signs" (.ref sl) (putF "faults" (.ref fl) (putF "at" (.int 0) (putF "tokens" (.ref tl) []))))))) (Ne.symm p_sl)).trans (upd_ne (o := .lst []) sl_rl)).trans at_sl
    replace at_ml := ((upd_ne (H := upd H5 rl (.lst [])) (o := .ins (He.ga K "Parser") dx (putF "robots" (.ref rl) (putF "moods" (.ref ml) (putF "signs" (.ref sl) (putF "faults" (.ref fl) (putF "at" (.int 0) (putF "tokens" (.ref tl) []))))))) (Ne.symm p_ml)).trans (upd_ne (o := .lst []) ml_rl)).trans at_ml
    have at_rl : (upd (upd H5 rl (.lst [])) p (.ins (He.ga K "Parser") dx (putF "robots" (.ref rl) (putF "moods" (.ref ml) (putF "signs" (.ref sl) (putF "faults" (.ref fl) (putF "at" (.int 0) (putF "tokens" (.ref tl) [])))))))) rl = some (.lst []) := (upd_ne (Ne.symm p_rl)).trans upd_same
    replace sm1 : Same H0 (upd (upd H5 rl (.lst [])) p (.ins (He.ga K "Parser") dx (putF "robots" (.ref rl) (putF "moods" (.ref ml) (putF "signs" (.ref sl) (putF "faults" (.ref fl) (putF "at" (.int 0) (putF "tokens" (.ref tl) [])))))))) := sameUpd (sameUpd sm1 n0_rl) n0p
    generalize upd (upd H5 rl (.lst [])) p (.ins (He.ga K "Parser") dx (putF "robots" (.ref rl) (putF "moods" (.ref ml) (putF "signs" (.ref sl) (putF "faults" (.ref fl) (putF "at" (.int 0) (putF "tokens" (.ref tl) []))))))) = H6 at *
    intro rd n_rd
    have n0_rd : H0 rd = none := sm1.free n_rd
    have p_rd : p ≠ rd := ne_of_none at_p n_rd
    have tl_rd : tl ≠ rd := ne_of_none at_tl n_rd
    have fl_rd : fl ≠ rd := ne_of_none at_fl n_rd
    have sl_rd : sl ≠ rd := ne_of_none at_sl n_rd
    have ml_rd : ml ≠ rd := ne_of_none at_ml n_rd
    have rl_rd : rl ≠ rd := ne_of_none at_rl n_rd
    refine ⟨_, rfl, p, _, dx, _, rfl, (upd_ne p_rd).trans at_p, T.par.c, T.par.n _ (by simp), lnZ (lnS (lnS (lnS (lnS (lnS (lnS ln0)))))), ?_⟩
    replace tks := kk0 _ _ (putF "rules" (.ref rd) (putF "robots" (.ref rl) (putF "moods" (.ref ml) (putF "signs" (.ref sl) (putF "faults" (.ref fl) (putF "at" (.int 0) (putF "tokens" (.ref tl) []))))))) ((upd_ne (o := .dT []) p_rd).trans at_p) (tks.same (sameUpd (o := .dT []) (Same.refl _) n_rd))
    replace at_p := @upd_same (upd H6 rd (.dT [])) p (.ins (He.ga K "Parser") dx (putF "rules" (.ref rd) (putF "robots" (.ref rl) (putF "moods" (.ref ml) (putF "signs" (.ref sl) (putF "faults" (.ref fl) (putF "at" (.int 0) (putF "tokens" (.ref tl) []))))))))
    replace at_tl := ((upd_ne (H := upd H6 rd (.dT [])) (o := .ins (He.ga K "Parser") dx (putF "rules" (.ref rd) (putF "robots" (.ref rl) (putF "moods" (.ref ml) (putF "signs" (.ref sl) (putF "faults" (.ref fl) (putF "at" (.int 0) (putF "tokens" (.ref tl) [])))))))) ptl).trans (upd_ne (o := .dT []) tl_rd)).trans at_tl
    replace at_fl := ((upd_ne (H := upd H6 rd (.dT [])) (o := .ins (He.ga K "Parser") dx (putF "rules" (.ref rd) (putF "robots" (.ref rl) (putF "moods" (.ref ml) (putF "signs" (.ref sl) (putF "faults" (.ref fl) (putF "at" (.int 0) (putF "tokens" (.ref tl) [])))))))) (Ne.symm p_fl)).trans (upd_ne (o := .dT []) fl_rd)).trans at_fl
    replace at_sl := ((upd_ne (H := upd H6 rd (.dT [])) (o := .ins (He.ga K "Parser") dx (putF "rules" (.ref rd) (putF "robots" (.ref rl) (putF "moods" (.ref ml) (putF "signs" (.ref sl) (putF "faults" (.ref fl) (putF "at" (.int 0) (putF "tokens" (.ref tl) [])))))))) (Ne.symm p_sl)).trans (upd_ne (o := .dT []) sl_rd)).trans at_sl
    replace at_ml := ((upd_ne (H := upd H6 rd (.dT [])) (o := .ins (He.ga K "Parser") dx (putF "rules" (.ref rd) (putF "robots" (.ref rl) (putF "moods" (.ref ml) (putF "signs" (.ref sl) (putF "faults" (.ref fl) (putF "at" (.int 0) (putF "tokens" (.ref tl) [])))))))) (Ne.symm p_ml)).trans (upd_ne (o := .dT []) ml_rd)).trans at_ml
    replace at_rl := ((upd_ne (H := upd H6 rd (.dT [])) (o := .ins (He.ga K "Parser") dx (putF "rules" (.ref rd) (putF "robots" (.ref rl) (putF "moods" (.ref ml) (putF "signs" (.ref sl) (putF "faults" (.ref fl) (putF "at" (.int 0) (putF "tokens" (.ref tl) [])))))))) (Ne.symm p_rl)).trans (upd_ne (o := .dT []) rl_rd)).trans at_rl
    have at_rd : (upd (upd H6 rd (.dT [])) p (.ins (He.ga K "Parser") dx (putF "rules" (.ref rd) (putF "robots" (.ref rl) (putF "moods" (.ref ml) (putF "signs" (.ref sl) (putF "faults" (.ref fl) (putF "at" (.int 0) (putF "tokens" (.ref tl) []))))))))) rd = some (.dT []) := (upd_ne (Ne.symm p_rd)).trans upd_same
    replace sm1 : Same H0 (upd (upd H6 rd (.dT [])) p (.ins (He.ga K "Parser") dx (putF "rules" (.ref rd) (putF "robots" (.ref rl) (putF "moods" (.ref ml) (putF "signs" (.ref sl) (putF "faults" (.ref fl) (putF "at" (.int 0) (putF "tokens" (.ref tl) []))))))))) := sameUpd (sameUpd sm1 n0_rd) n0p
    generalize upd (upd H6 rd (.dT [])) p (.ins (He.ga K "Parser") dx (putF "rules" (.ref rd) (putF "robots" (.ref rl) (putF "moods" (.ref ml) (putF "signs" (.ref sl) (putF "faults" (.ref fl) (putF "at" (.int 0) (putF "tokens" (.ref tl) [])))))))) = H7 at *
    intro pd n_pd
    have n0_pd : H0 pd = none := sm1.free n_pd
    have p_pd : p ≠ pd := ne_of_none at_p n_pd
    have tl_pd : tl ≠ pd := ne_of_none at_tl n_pd
    have fl_pd : fl ≠ pd := ne_of_none at_fl n_pd
    have sl_pd : sl ≠ pd := ne_of_none at_sl n_pd
    have ml_pd : ml ≠ pd := ne_of_none at_ml n_pd
    have rl_pd : rl ≠ pd := ne_of_none at_rl n_pd
    have rd_pd : rd ≠ pd := ne_of_none at_rd n_pd
    refine ⟨_, rfl, p, _, dx, _, rfl, (upd_ne p_pd).trans at_p, T.par.c, T.par.n _ (by simp), lnZ (lnS (lnS (lnS (lnS (lnS (lnS (lnS ln0))))))), ?_⟩
    replace tks := kk0 _ _ (putF "pairs" (.ref pd) (putF "rules" (.ref rd) (putF "robots" (.ref rl) (putF "moods" (.ref ml) (putF "signs" (.ref sl) (putF "faults" (.ref fl) (putF "at" (.int 0) (putF "tokens" (.ref tl) [])))))))) ((upd_ne (o := .dT []) p_pd).trans at_p) (tks.same (sameUpd (o := .dT []) (Same.refl _) n_pd))
    replace at_p := @upd_same (upd H7 pd (.dT [])) p (.ins (He.ga K "Parser") dx (putF "pairs" (.ref pd) (putF "rules" (.ref rd) (putF "robots" (.ref rl) (putF "moods" (.ref ml) (putF "signs" (.ref sl) (putF "faults" (.ref fl) (putF "at" (.int 0) (putF "tokens" (.ref tl) [])))))))))
    replace at_tl := ((upd_ne (H := upd H7 pd (.dT [])) (o := .ins (He.ga K "Parser") dx (putF "pairs" (.ref pd) (putF "rules" (.ref rd) (putF "robots" (.ref rl) (putF "moods" (.ref ml) (putF "signs" (.ref sl) (putF "faults" (.ref fl) (putF "at" (.int 0) (putF "tokens" (.ref tl) []))))))))) ptl).trans (upd_ne (o := .dT []) tl_pd)).trans at_tl
    replace at_fl := ((upd_ne (H := upd H7 pd (.dT [])) (o := .ins (He.ga K "Parser") dx (putF "pairs" (.ref pd) (putF "rules" (.ref rd) (putF "robots" (.ref rl) (putF "moods" (.ref ml) (putF "signs" (.ref sl) (putF "faults" (.ref fl) (putF "at" (.int 0) (putF "tokens" (.ref tl) []))))))))) (Ne.symm p_fl)).trans (upd_ne (o := .dT []) fl_pd)).trans at_fl
    replace at_sl := ((upd_ne (H := upd H7 pd (.dT [])) (o := .ins (He.ga K "Parser") dx (putF "pairs" (.ref pd) (putF "rules" (.ref rd) (putF "robots" (.ref rl) (putF "moods" (.ref ml) (putF "signs" (.ref sl) (putF "faults" (.ref fl) (putF "at" (.int 0) (putF "tokens" (.ref tl) []))))))))) (Ne.symm p_sl)).trans (upd_ne (o := .dT []) sl_pd)).trans at_sl
    replace at_ml := ((upd_ne (H := upd H7 pd (.dT [])) (o := .ins (He.ga K "Parser") dx (putF "pairs" (.ref pd) (putF "rules" (.ref rd) (putF "robots" (.ref rl) (putF "moods" (.ref ml) (putF "signs" (.ref sl) (putF "faults" (.ref fl) (putF "at" (.int 0) (putF "tokens" (.ref tl) []))))))))) (Ne.symm p_ml)).trans (upd_ne (o := .dT []) ml_pd)).trans at_ml
    replace at_rl := ((upd_ne (H := upd H7 pd (.dT [])) (o := .ins (He.ga K "Parser") dx (putF "pairs" (.ref pd) (putF "rules" (.ref rd) (putF "robots" (.ref rl) (putF "moods" (.ref ml) (putF "signs" (.ref sl) (putF "faults" (.ref fl) (putF "at" (.int 0) (putF "tokens" (.ref tl) []))))))))) (Ne.symm p_rl)).trans (upd_ne (o := .dT []) rl_pd)).trans at_rl
    replace at_rd := ((upd_ne (H := upd H7 pd (.dT [])) (o := .ins (He.ga K "Parser") dx (putF "pairs" (.ref pd) (putF "rules" (.ref rd) (putF "robots" (.ref rl) (putF "moods" (.ref ml) (putF "signs" (.ref sl) (putF "faults" (.ref fl) (putF "at" (.int 0) (putF "tokens" (.ref tl) []))))))))) (Ne.symm p_rd)).trans (upd_ne (o := .dT []) rd_pd)).trans at_rd
    have at_pd : (upd (upd H7 pd (.dT [])) p (.ins (He.ga K "Parser") dx (putF "pairs" (.ref pd) (putF "rules" (.ref rd) (putF "robots" (.ref rl) (putF "moods" (.ref ml) (putF "signs" (.ref sl) (putF "faults" (.ref fl) (putF "at" (.int 0) (putF "tokens" (.ref tl) [])))))))))) pd = some (.dT []) := (upd_ne (Ne.symm p_pd)).trans upd_same
    replace sm1 : Same H0 (upd (upd H7 pd (.dT [])) p (.ins (He.ga K "Parser") dx (putF "pairs" (.ref pd) (putF "rules" (.ref rd) (putF "robots" (.ref rl) (putF "moods" (.ref ml) (putF "signs" (.ref sl) (putF "faults" (.ref fl) (putF "at" (.int 0) (putF "tokens" (.ref tl) [])))))))))) := sameUpd (sameUpd sm1 n0_pd) n0p
    generalize upd (upd H7 pd (.dT [])) p (.ins (He.ga K "Parser") dx (putF "pairs" (.ref pd) (putF "rules" (.ref rd) (putF "robots" (.ref rl) (putF "moods" (.ref ml) (putF "signs" (.ref sl) (putF "faults" (.ref fl) (putF "at" (.int 0) (putF "tokens" (.ref tl) []))))))))) = H8 at *
    intro sd n_sd
    have n0_sd : H0 sd = none := sm1.free n_sd
    have p_sd : p ≠ sd := ne_of_none at_p n_sd
    have tl_sd : tl ≠ sd := ne_of_none at_tl n_sd
    have fl_sd : fl ≠ sd := ne_of_none at_fl n_sd
    have sl_sd : sl ≠ sd := ne_of_none at_sl n_sd
    have ml_sd : ml ≠ sd := ne_of_none at_ml n_sd
    have rl_sd : rl ≠ sd := ne_of_none at_rl n_sd
    have rd_sd : rd ≠ sd := ne_of_none at_rd n_sd
    have pd_sd : pd ≠ sd := ne_of_none at_pd n_sd
    refine ⟨_, rfl, p, _, dx, _, rfl, (upd_ne p_sd).trans at_p, T.par.c, T.par.n _ (by simp), lnZ (lnS (lnS (lnS (lnS (lnS (lnS (lnS (lnS ln0)))))))), ?_⟩
    replace tks := kk0 _ _ (putF "spots" (.ref sd) (putF "pairs" (.ref pd) (putF "rules" (.ref rd) (putF "robots" (.ref rl) (putF "moods" (.ref ml) (putF "signs" (.ref sl) (putF "faults" (.ref fl) (putF "at" (.int 0) (putF "tokens" (.ref tl) []))))))))) ((upd_ne (o := .dK []) p_sd).trans at_p) (tks.same (sameUpd (o := .dK []) (Same.refl _) n_sd))
    replace at_p := @upd_same (upd H8 sd (.dK [])) p (.ins (He.ga K "Parser") dx (putF "spots" (.ref sd) (putF "pairs" (.ref pd) (putF "rules" (.ref rd) (putF "robots" (.ref rl) (putF "moods" (.ref ml) (putF "signs" (.ref sl) (putF "faults" (.ref fl) (putF "at" (.int 0) (putF "tokens" (.ref tl) []))))))))))
    replace at_tl := ((upd_ne (H := upd H8 sd (.dK [])) (o := .ins (He.ga K "Parser") dx (putF "spots" (.ref sd) (putF "pairs" (.ref pd) (putF "rules" (.ref rd) (putF "robots" (.ref rl) (putF "moods" (.ref ml) (putF "signs" (.ref sl) (putF "faults" (.ref fl) (putF "at" (.int 0) (putF "tokens" (.ref tl) [])))))))))) ptl).trans (upd_ne (o := .dK []) tl_sd)).trans at_tl
    replace at_fl := ((upd_ne (H := upd H8 sd (.dK [])) (o := .ins (He.ga K "Parser") dx (putF "spots" (.ref sd) (putF "pairs" (.ref pd) (putF "rules" (.ref rd) (putF "robots" (.ref rl) (putF "moods" (.ref ml) (putF "signs" (.ref sl) (putF "faults" (.ref fl) (putF "at" (.int 0) (putF "tokens" (.ref tl) [])))))))))) (Ne.symm p_fl)).trans (upd_ne (o := .dK []) fl_sd)).trans at_fl
    replace at_sl := ((upd_ne (H := upd H8 sd (.dK [])) (o := .ins (He.ga K "Parser") dx (putF "spots" (.ref sd) (putF "pairs" (.ref pd) (putF "rules" (.ref rd) (putF "robots" (.ref rl) (putF "moods" (.ref ml) (putF "signs" (.ref sl) (putF "faults" (.ref fl) (putF "at" (.int 0) (putF "tokens" (.ref tl) [])))))))))) (Ne.symm p_sl)).trans (upd_ne (o := .dK []) sl_sd)).trans at_sl
    replace at_ml := ((upd_ne (H := upd H8 sd (.dK [])) (o := .ins (He.ga K "Parser") dx (putF "spots" (.ref sd) (putF "pairs" (.ref pd) (putF "rules" (.ref rd) (putF "robots" (.ref rl) (putF "moods" (.ref ml) (putF "signs" (.ref sl) (putF "faults" (.ref fl) (putF "at" (.int 0) (putF "tokens" (.ref tl) [])))))))))) (Ne.symm p_ml)).trans (upd_ne (o := .dK []) ml_sd)).trans at_ml
    replace at_rl := ((upd_ne (H := upd H8 sd (.dK [])) (o := .ins (He.ga K "Parser") dx (putF "spots" (.ref sd) (putF "pairs" (.ref pd) (putF "rules" (.ref rd) (putF "robots" (.ref rl) (putF "moods" (.ref ml) (putF "signs" (.ref sl) (putF "faults" (.ref fl) (putF "at" (.int 0) (putF "tokens" (.ref tl) [])))))))))) (Ne.symm p_rl)).trans (upd_ne (o := .dK []) rl_sd)).trans at_rl
    replace at_rd := ((upd_ne (H := upd H8 sd (.dK [])) (o := .ins (He.ga K "Parser") dx (putF "spots" (.ref sd) (putF "pairs" (.ref pd) (putF "rules" (.ref rd) (putF "robots" (.ref rl) (putF "moods" (.ref ml) (putF "signs" (.ref sl) (putF "faults" (.ref fl) (putF "at" (.int 0) (putF "tokens" (.ref tl) [])))))))))) (Ne.symm p_rd)).trans (upd_ne (o := .dK []) rd_sd)).trans at_rd
    replace at_pd := ((upd_ne (H := upd H8 sd (.dK [])) (o := .ins (He.ga K "Parser") dx (putF "spots" (.ref sd) (putF "pairs" (.ref pd) (putF "rules" (.ref rd) (putF "robots" (.ref rl) (putF "moods" (.ref ml) (putF "signs" (.ref sl) (putF "faults" (.ref fl) (putF "at" (.int 0) (putF "tokens" (.ref tl) [])))))))))) (Ne.symm p_pd)).trans (upd_ne (o := .dK []) pd_sd)).trans at_pd
    have at_sd : (upd (upd H8 sd (.dK [])) p (.ins (He.ga K "Parser") dx (putF "spots" (.ref sd) (putF "pairs" (.ref pd) (putF "rules" (.ref rd) (putF "robots" (.ref rl) (putF "moods" (.ref ml) (putF "signs" (.ref sl) (putF "faults" (.ref fl) (putF "at" (.int 0) (putF "tokens" (.ref tl) []))))))))))) sd = some (.dK []) := (upd_ne (Ne.symm p_sd)).trans upd_same
    replace sm1 : Same H0 (upd (upd H8 sd (.dK [])) p (.ins (He.ga K "Parser") dx (putF "spots" (.ref sd) (putF "pairs" (.ref pd) (putF "rules" (.ref rd) (putF "robots" (.ref rl) (putF "moods" (.ref ml) (putF "signs" (.ref sl) (putF "faults" (.ref fl) (putF "at" (.int 0) (putF "tokens" (.ref tl) []))))))))))) := sameUpd (sameUpd sm1 n0_sd) n0p
    generalize upd (upd H8 sd (.dK [])) p (.ins (He.ga K "Parser") dx (putF "spots" (.ref sd) (putF "pairs" (.ref pd) (putF "rules" (.ref rd) (putF "robots" (.ref rl) (putF "moods" (.ref ml) (putF "signs" (.ref sl) (putF "faults" (.ref fl) (putF "at" (.int 0) (putF "tokens" (.ref tl) [])))))))))) = H9 at *
    refine k ⟨tl, fl, sl, ml, rl, rd, pd, sd⟩ H9 ⟨sm1, ⟨dx, at_p.trans (congrArg (fun z => some (HO.ins (He.ga K "Parser") dx z)) (put_par ⟨tl, fl, sl, ml, rl, rd, pd, sd⟩))⟩, at_tl, tks, ⟨[], at_fl, trivial⟩, at_sl, at_ml, ⟨[], at_rl, .nil⟩, ⟨[], at_rd, .nil⟩, at_pd, at_sd, ?_, ?_⟩
    · simp only [List.nodup_cons, List.mem_cons, List.not_mem_nil, or_false, not_or]
      exact ⟨⟨Ne.symm ptl, p_fl, p_sl, p_ml, p_rl, p_rd, p_pd, p_sd⟩, ⟨tl_fl, tl_sl, tl_ml, tl_rl, tl_rd, tl_pd, tl_sd⟩, ⟨fl_sl, fl_ml, fl_rl, fl_rd, fl_pd, fl_sd⟩, ⟨sl_ml, sl_rl, sl_rd, sl_pd, sl_sd⟩, ⟨ml_rl, ml_rd, ml_pd, ml_sd⟩, ⟨rl_rd, rl_pd, rl_sd⟩, ⟨rd_pd, rd_sd⟩, pd_sd, not_false, List.nodup_nil⟩
    · intro a ha
      simp only [List.mem_cons, List.not_mem_nil, or_false] at ha
      rcases ha with rfl | rfl | rfl | rfl | rfl | rfl | rfl | rfl | rfl <;> assumption
end
end Sw

end

section
set_option maxRecDepth 100000
set_option maxHeartbeats 4000000
/-! parse_plan, load -/
namespace Sw
open PySem PySem.Spec PyProof.Rows L2 SwA
structure LoadT (K : PySem.W.Frag) (mg : Str → Option Value) : Prop where
  p : ParT K mg
  plan : MkC K mg "Plan" planF
  d_plan : FD K ("Plan", some "__init__") "__init__" "Plan.__init__" s_Plan_init
  d_load : FD K ("load", none) "load" "load" s_load
  g_load : mg "load" = some (.ref (He.ga K "load"))
/-- a plan's object -/
def PlanAt (K : PySem.W.Frag) (H : Hp) (a : Addr) (pl : Plan) : Prop := ∃ (dx sa ma fa ra rd : Addr) (ras : List Addr),
  H a = some (.ins (He.ga K "Plan") dx [("signs", .ref sa), ("moods", .ref ma), ("floor", .ref fa), ("robots", .ref ra), ("rules", .ref rd)]) ∧ TupN H sa (pl.signs.map sV) ∧ TupN H ma (pl.moods.map sV) ∧
  H fa = some (.tup (pl.floor.map fun n : Nat => V.int n)) ∧ H ra = some (.tup (ras.map V.ref)) ∧ Paired (RobAt H) ras pl.robots ∧ RulesAt H rd pl.rules
theorem PlanAt.same {K : PySem.W.Frag} {H H' : Hp} {a : Addr} {pl : Plan} (s : Same H H') (h : PlanAt K H a pl) : PlanAt K H' a pl := by
  obtain ⟨dx, sa, ma, fa, ra, rd, ras, e1, e2, e3, e4, e5, e6, kvs, e7, e8⟩ := h
  exact ⟨dx, sa, ma, fa, ra, rd, ras, s _ _ e1, e2.mono fun _ z => s _ _ z, e3.mono fun _ z => s _ _ z, s _ _ e4, s _ _ e5, Paired.mapP e6 fun _ _ q => s _ _ q, kvs, s _ _ e7, Paired.mapP e8 fun _ _ q => q.mono fun _ _ z => s _ _ z⟩
theorem put_plan (a b c d e : V) : putF "rules" e (putF "robots" d (putF "floor" c (putF "moods" b (putF "signs" a [])))) = ([("signs", a), ("moods", b), ("floor", c), ("robots", d), ("rules", e)] : List (Str × V)) := by kernel_rfl
theorem spots_get (l : List (Nat × Nat)) (i : Nat) : (valV (l.map spotK) (.inl ((0 : Int) + (i : Nat)) : Key)).getD (.int 0) = .int ((getA l i).getD 0 : Nat) := by
  rw [Int.zero_add]
  induction l with
  | nil => rfl
  | cons a r ih =>
    by_cases e : a.1 = i
    · rw [List.map_cons, valV_pos (show (spotK a).1 = .inl (i : Int) by show (.inl (a.1 : Int) : Key) = _; rw [e])]
      unfold getA
      rw [List.find?_cons, decide_eq_true e]
      rfl
    · rw [List.map_cons, valV_neg (show ¬ (spotK a).1 = .inl (i : Int) from fun q => e (key_inl.mp q)), ih]
      unfold getA
      rw [List.find?_cons, decide_eq_false e]
/-! ### the tokens are good -/
theorem mem_tw {p : Nat → Bool} {x : Nat} : ∀ {l : Cs}, x ∈ l.takeWhile p → p x = true
  | [], h => by cases h
  | c :: r, h => by
    cases e : p c with
    | false => rw [List.takeWhile_cons, e] at h; cases h
    | true =>
      rw [List.takeWhile_cons, e] at h
      rcases List.mem_cons.mp h with q | q
      · rw [q]; exact e
      · exact mem_tw q
theorem readTok_kind {line col : Nat} {rest : Cs} {t : Tk} (h : readTok line col rest = some t) : t.kind ≠ .fin ∧ (t.kind = .number → (1 ≤ t.text.length ∧ t.text.length ≤ 2) ∧ t.text.all isD = true) := by
  unfold readTok at h
  split at h
  · cases h
  · rename_i c r
    split at h
    · cases h
      exact ⟨(fun q => by cases q), (fun q => by cases q)⟩
    · split at h
      · rename_i hd
        split at h
        · cases h
        · rename_i hn
          cases h
          refine ⟨(fun q => by cases q), fun _ => ⟨⟨?_, by show ((c :: r).takeWhile isD).length ≤ 2; omega⟩, ?_⟩⟩
          · simp [List.takeWhile_cons, hd]
          · rw [List.all_eq_true]
            intro x hx
            exact mem_tw hx
      · split at h
        · cases h
          exact ⟨(fun q => by cases q), (fun q => by cases q)⟩
        · split at h
          · cases h
            exact ⟨(fun q => by cases q), (fun q => by cases q)⟩
          · cases h
def TkG (t : Tk) : Prop := t.kind ≠ .fin ∧ (t.kind = .number → (1 ≤ t.text.length ∧ t.text.length ≤ 2) ∧ t.text.all isD = true)
theorem lexRow_good (line : Nat) : ∀ (f col : Nat) (rest : Cs) (ts : List Tk), lexRow line f col rest = .ok ts → (∀ t ∈ ts, TkG t) ∧ ts.length ≤ rest.length
  | f, col, [], ts, h => by
    have e : ts = [] := by cases f <;> (injection h with h; exact h.symm)
    subst e
    exact ⟨by simp, Nat.le_refl _⟩
  | 0, col, c :: r, ts, h => by
    injection h with h
    subst h
    exact ⟨by simp, Nat.zero_le _⟩
  | f + 1, col, c :: r, ts, h => by
    unfold lexRow at h
    split at h
    · have z := lexRow_good line f (col + 1) r ts h
      exact ⟨z.1, Nat.le_succ_of_le z.2⟩
    · split at h
      · cases h
      · rename_i t ht
        split at h
        · cases h
        · rename_i us hu
          cases h
          have z := lexRow_good line f _ _ us hu
          have l := readTok_len ht
          rw [List.length_drop] at z
          refine ⟨fun x hx => ?_, ?_⟩
          · rcases List.mem_cons.mp hx with q | q
            · rw [q]; exact readTok_kind ht
            · exact z.1 x q
          · simp only [List.length_cons] at z l ⊢
            omega
theorem lexRows_good : ∀ (rows : List Cs) (line : Nat) (ts : List Tk), lexRows line rows = .ok ts → (∀ t ∈ ts, TkG t) ∧ ts.length ≤ (rows.map List.length).sum
  | [], line, ts, h => by
    injection h with h
    subst h
    exact ⟨by simp, by simp⟩
  | row :: rest, line, ts, h => by
    unfold lexRows at h
    split at h
    · cases h
    · rename_i us hu
      split at h
      · cases h
      · rename_i vs hv
        cases h
        have z1 := lexRow_good line _ _ _ us hu
        have z2 := lexRows_good rest (line + 1) vs hv
        refine ⟨fun x hx => ?_, ?_⟩
        · rcases List.mem_append.mp hx with q | q
          · exact z1.1 x q
          · exact z2.1 x q
        · rw [List.length_append, List.map_cons, List.sum_cons]
          omega
theorem tokenize_good {text : Cs} {T : List Tk} (hl : text.length ≤ 90000) (h : tokenize text = .ok T) : GoodT T := by
  unfold tokenize at h
  split at h
  · cases h
  · rename_i ts ht
    cases h
    obtain ⟨g, gl⟩ := lexRows_good _ _ _ ht
    have gl2 := Nat.le_trans gl (rows_sum text)
    have get : ∀ (i : Nat) t, (ts ++ [(⟨.fin, [], (rowsOf text).length, 0⟩ : Tk)])[i]? = some t → (i < ts.length ∧ t ∈ ts) ∨ (i = ts.length ∧ t = ⟨.fin, [], (rowsOf text).length, 0⟩) := by
      intro i t e
      by_cases hi : i < ts.length
      · rw [List.getElem?_append_left hi] at e
        exact .inl ⟨hi, List.mem_of_getElem? e⟩
      · rw [List.getElem?_append_right (Nat.le_of_not_lt hi)] at e
        cases hd : i - ts.length with
        | zero =>
          rw [hd] at e
          exact .inr ⟨by omega, (Option.some.inj e).symm⟩
        | succ n =>
          rw [hd] at e
          simp at e
    refine ⟨fun i t e hi => ?_, by simp, fun i t e hk => ?_, fun t ht hk => ?_, by simp; omega⟩
    · rw [List.length_append] at hi
      rcases get i t e with q | q
      · have : [(⟨.fin, [], (rowsOf text).length, 0⟩ : Tk)].length = 1 := rfl
        omega
      · rw [q.2]
        exact ⟨rfl, rfl⟩
    · rcases get i t e with q | q
      · exact absurd hk (g t q.2).1
      · rw [q.1, List.length_append]
        rfl
    · rcases List.mem_append.mp ht with q | q
      · exact (g t q).2 hk
      · have e : t = ⟨.fin, [], (rowsOf text).length, 0⟩ := by simpa using q
        rw [e] at hk
        cases hk
theorem numVal_le {w : Cs} (h : w.all isD = true) (h2 : w.length ≤ 2) : numVal w ≤ 99 := by
  have d : ∀ c, isD c = true → c - 48 ≤ 9 := fun c hc => by
    unfold isD at hc
    rw [Bool.and_eq_true] at hc
    have := Nat.le_of_ble_eq_true hc.2
    omega
  match w, h, h2 with
  | [], _, _ => simp [numVal]
  | [a], h, _ =>
    simp only [List.all_cons, List.all_nil, Bool.and_true] at h
    have := d a h
    simp [numVal]
    omega
  | [a, b], h, _ =>
    simp only [List.all_cons, List.all_nil, Bool.and_true, Bool.and_eq_true] at h
    have h1 := d a h.1
    have h2 := d b h.2
    simp [numVal]
    omega
section
variable {P : Program} {w : World} {K : PySem.W.Frag} {mg : Str → Option Value} {base : Heap}
theorem sc_plan : FnScope ["self", "signs", "moods", "floor", "robots", "rules"] ["self", "signs", "moods", "floor", "robots", "rules"] (defScope s_Plan_init) := ⟨rfl, rfl, rfl, by decide +kernel, rfl, by decide +kernel, by decide +kernel⟩
theorem ok_plan (T : LoadT K mg) : FnE P w K mg base CX0 1 ("Plan", some "__init__") ["self", "signs", "moods", "floor", "robots", "rules"] (spInit (He.ga K "Plan") planF) := by
  obtain ⟨fd, F⟩ := T.d_plan
  refine ⟨fd, F.ok sc_plan (fun vs H Q E h => ?_) (fun cdv A outer s H vs Q E hr h => ?_), F.bindsN fun _ _ _ _ _ _ us hl => match us, hl with | [_, _, _, _, _, _], _ => rfl, F.kp⟩
  · obtain ⟨a, dx, args, rfl, e, _⟩ := h
    simp [e]
  · obtain ⟨p, dx, args, rfl, e, hp, k⟩ := h
    obtain ⟨v1, v2, v3, v4, v5, rfl⟩ : ∃ v1 v2 v3 v4 v5, args = [v1, v2, v3, v4, v5] := by
      match args, e with
      | [v1, v2, v3, v4, v5], _ => exact ⟨v1, v2, v3, v4, v5, rfl⟩
    refine ⟨_, PSs.nox (pss_cons (ps_fld (pv 0) (pv 1) rfl) (pss_cons (ps_fld (pv 0) (pv 2) rfl) (pss_cons (ps_fld (pv 0) (pv 3) rfl) (pss_cons (ps_fld (pv 0) (pv 4) rfl) (pss_one (ps_fld (pv 0) (pv 5) rfl)))))), ?_⟩
    refine ⟨_, rfl, _, rfl, p, _, dx, _, rfl, hp, T.plan.c, T.plan.n _ (by simp), lnZ ln0, ?_⟩
    refine ⟨_, rfl, _, rfl, p, _, dx, _, rfl, upd_same, T.plan.c, T.plan.n _ (by simp), lnZ (lnS ln0), ?_⟩
    refine ⟨_, rfl, _, rfl, p, _, dx, _, rfl, upd_same, T.plan.c, T.plan.n _ (by simp), lnZ (lnS (lnS ln0)), ?_⟩
    refine ⟨_, rfl, _, rfl, p, _, dx, _, rfl, upd_same, T.plan.c, T.plan.n _ (by simp), lnZ (lnS (lnS (lnS ln0))), ?_⟩
    refine ⟨_, rfl, _, rfl, p, _, dx, _, rfl, upd_same, T.plan.c, T.plan.n _ (by simp), lnZ (lnS (lnS (lnS (lnS ln0)))), ?_⟩
    refine k _ ?_ fun b hb => by rw [upd_ne hb, upd_ne hb, upd_ne hb, upd_ne hb, upd_ne hb]
    rw [upd_same, put_plan]
    rfl
def spParsePlan (K : PySem.W.Frag) : Sp := fun vs H Q E => ∃ (H0 : Hp) (p : Addr) (L : PLoc) (tas : List Addr) (T : List Tk), vs = [.ref p] ∧ PA K H0 H p L tas T st0 ∧ GoodT T ∧
  (∀ n s, parsePlan T = .ok (n, s) → s.faults = [] ∧ ∀ (a : Addr) (H' : Hp), H0 a = none → Same H0 H' → PlanAt K H' a (planOf n s) → Q (.ref a) H') ∧ (∀ l c, parsePlan T = .error (l, c) → Syn K H0 E l c)
abbrev ppN : List Str := ["self", "token", "tiles", "line", "column", "number", "reason", "floor", "tile"]
theorem sc_parse_plan : FnScope ppN ["self"] (defScope s_Parser_parse_plan) := ⟨rfl, rfl, rfl, by decide +kernel, rfl, by decide +kernel, by decide +kernel⟩
theorem ok_parse_plan (T : LoadT K mg) : FnE P w K mg base (L2.CX P w) 7 ("Parser", some "parse_plan") ["self"] (spParsePlan K) := by
  obtain ⟨fd, F⟩ := T.p.parse_plan.d
  obtain ⟨fdP, GP, bP, kP⟩ := ok_peek (P := P) (w := w) (base := base) T.p
  obtain ⟨fdF, GF, bF, kF⟩ := ok_found (P := P) (w := w) (base := base) T.p
  obtain ⟨fdX, GX, bX, kX⟩ := ok_fail (P := P) (w := w) (base := base) T.p
  obtain ⟨fdA, GA, bA, kA⟩ := ok_take (P := P) (w := w) (base := base) T.p
  obtain ⟨fdW, GW, bW, kW⟩ := ok_take_word (P := P) (w := w) (base := base) T.p
  obtain ⟨fdN, GN, bN, kN⟩ := ok_parse_names (P := P) (w := w) (base := base) T.p
  obtain ⟨fdR, GR, bR, kR⟩ := ok_parse_robot (P := P) (w := w) (base := base) T.p
  obtain ⟨fdU, GU, bU, kU⟩ := ok_parse_put (P := P) (w := w) (base := base) T.p
  obtain ⟨fdL, GL, bL, kL⟩ := ok_parse_rule (P := P) (w := w) (base := base) T.p
  obtain ⟨fdI, GI, bI, kI⟩ := ok_plan (P := P) (w := w) (base := base) T
  obtain ⟨t1, mNUM⟩ := T.p.l.NUMBER
  obtain ⟨t2, mEND⟩ := T.p.l.END
  obtain ⟨t3, mMT⟩ := T.p.MAX_TILES
  obtain ⟨t4, mMS⟩ := T.p.MAX_SIGNS
  obtain ⟨t5, mMM⟩ := T.p.MAX_MOODS
  refine ⟨fd, F.ok sc_parse_plan (fun vs H Q E h => ?_) (fun cdv A outer s H vs Q E hr h => ?_), F.bindsN fun _ _ _ _ _ _ us hl => match us, hl with | [_], _ => rfl, F.kp⟩
  · obtain ⟨H0, p, L, tas, Ts, rfl, _⟩ := h
    rfl
  · obtain ⟨H0, p, L, tas, Ts, rfl, hP, hG, hok, her⟩ := h
    have hr1 : Room 1 _ := hr.mono (by decide)
    have hr2 : Room 2 _ := hr.mono (by decide)
    have hr3 : Room 3 _ := hr.mono (by decide)
    have hr4 : Room 4 _ := hr.mono (by decide)
    have hr5 : Room 5 _ := hr.mono (by decide)
    have hu := hu_of hr
    refine ⟨_, (pss_cons (ps_expr (pe_meth (pv 0) T.p.par.c T.p.take_word.m GW hr4 bW .nil (passes_call (takes_of rfl rfl rfl rfl) (fun _ _ _ _ h => h)) (pa_cons pe_str pa_nil)))
      (pss_cons (ps_set (i := 1) sc_parse_plan.nd rfl (.inl rfl) (pe_meth (pv 0) T.p.par.c T.p.take.m GA hr4 bA .nil (passes_call (takes_of rfl rfl rfl rfl) (fun _ _ _ _ h => h)) (pa_cons (pe_glob (v := .str "number") rfl mNUM ⟨_, rfl⟩) pa_nil)))
      (pss_cons (ps_set (i := 2) sc_parse_plan.nd rfl (.inl rfl) (pe_callTy call_int_str (by rfl) T.p.int (by decide +kernel) (pa_cons (pe_fld (pv 1) rfl) pa_nil)))
      (pss_cons (ps_expr (pe_meth (pv 0) T.p.par.c T.p.take_word.m GW hr4 bW .nil (passes_call (takes_of rfl rfl rfl rfl) (fun _ _ _ _ h => h)) (pa_cons pe_str pa_nil)))
      (C8.pss_cut (ps_if (pt_not (pt_chain op_le op_le pe_int (pv 2) (pe_glob (v := .int 16) rfl mMT ⟨_, rfl⟩)))
        (pss_one (ps_expr (pe_meth (pv 0) T.p.par.c T.p.found.m GF hr1 bF .nil pass0 (pa_cons pe_str (pa_cons (pv 1) pa_nil))))) pss_nil)
      (pss_cons (ps_expr (pe_meth (pv 0) T.p.par.c T.p.parse_names.m GN hr5 bN .nil (passes_call (takes_of rfl rfl rfl rfl) (fun _ _ _ _ h => h)) (pa_cons pe_str (pa_cons (pe_fld (pv 0) rfl) (pa_cons (pe_glob (v := .int 4) rfl mMS ⟨_, rfl⟩) pa_nil)))))
      (pss_cons (ps_expr (pe_meth (pv 0) T.p.par.c T.p.parse_names.m GN hr5 bN .nil (passes_call (takes_of rfl rfl rfl rfl) (fun _ _ _ _ h => h)) (pa_cons pe_str (pa_cons (pe_fld (pv 0) rfl) (pa_cons (pe_glob (v := .int 6) rfl mMM ⟨_, rfl⟩) pa_nil)))))
      (pss_cons (ps_expr (pe_meth (pv 0) T.p.par.c T.p.parse_robot.m GR hr bR .nil (passes_call (takes_of rfl rfl rfl rfl) (fun _ _ _ _ h => h)) (pa_cons (pv 2) pa_nil)))
      (pss_cons (ps_while (passes_of rfl) (pt_cmpR op_ne (pe_fld (pe_meth0 (pv 0) T.p.par.c T.p.peek.m GP hr1 bP .nil pass0) rfl) (pe_glob (v := .str "end") rfl mEND ⟨_, rfl⟩) (nomark _))
        (pss_one (ps_match (pe_fld (pe_meth0 (pv 0) T.p.par.c T.p.peek.m GP hr1 bP .nil pass0) rfl)
          (pms_str (pss_one (ps_expr (pe_meth (pv 0) T.p.par.c T.p.parse_robot.m GR hr bR .nil (passes_call (takes_of rfl rfl rfl rfl) (fun _ _ _ _ h => h)) (pa_cons (pv 2) pa_nil))))
          (pms_str (pss_one (ps_expr (pe_meth (pv 0) T.p.par.c T.p.parse_put.m GU hr bU .nil (passes_call (takes_of rfl rfl rfl rfl) (fun _ _ _ _ h => h)) (pa_cons (pv 2) pa_nil))))
          (pms_str (pss_one (ps_expr (pe_meth0 (pv 0) T.p.par.c T.p.parse_rule.m GL hr bL .nil (passes_call (takes_of rfl rfl rfl rfl) (fun _ _ _ _ h => h)))))
          (pms_any (pss_one (ps_expr (pe_meth0 (pv 0) T.p.par.c T.p.fail.m GX hr3 bX .nil (passes_call (takes_of rfl rfl rfl rfl) (fun _ _ _ _ h => h))))))))))))
      (pss_cons (ps_if (pt_cmpR (op_neD hr.units) (pe_fld (pv 0) rfl) (pe_lst pa_nil) (nomark _)) pss_never pss_nil)
      (pss_cons (ps_set (i := 7) sc_parse_plan.nd rfl (.inl rfl) (pe_callTy call_tuple_of (by rfl) T.p.tuple (by decide +kernel) (pa_cons
        (pe_lc (own := [("tile", 8)]) (g := gName 8) (tt := tYes) (te := tDGet2 (tFld K (tVar 0) "spots") (tVar 8) (tC (.int 0))) rfl sc_parse_plan.nd (pi_range1 (by rfl) T.p.range (pa_cons (pv 2) pa_nil)) (blkOk_by (own := [("tile", 8)]) (N := ppN) (sc := defScope s_Parser_parse_plan) (by decide +kernel))
          (fun _ _ _ _ _ => pg_name (i := 8) sc_parse_plan.nd rfl (Or.inl rfl)) (fun _ _ _ _ _ => pts_nil) (fun _ _ _ _ _ => pe_dget2 hu (pe_fld (pv 0) rfl) (pv 8) pe_int ⟨rfl, rfl, rfl, rfl⟩)) pa_nil)))
      (pss_one (ps_ret (pe_make T.plan.m GI hr2 rfl T.plan.g bI .nil pass0 (pa_cons (pe_tupleOfN (by rfl) T.p.tuple (pe_fld (pv 0) rfl))
        (pa_cons (pe_tupleOfN (by rfl) T.p.tuple (pe_fld (pv 0) rfl)) (pa_cons (pv 7)
        (pa_cons (pe_callTy call_tuple_of (by rfl) T.p.tuple (by decide +kernel) (pa_cons (pe_fld (pv 0) rfl) pa_nil)) (pa_cons (pe_fld (pv 0) rfl) pa_nil))))))))))))))))))), ?_⟩
    obtain ⟨dx, ob⟩ := hP.ob
    have hlen := hG.len
    have hB0 : Bd Ts st0 := ⟨by
      show 0 < Ts.length
      exact List.length_pos_iff.mpr hG.ne, Nat.le_refl _, Nat.zero_le _, Nat.zero_le _, Nat.le_refl _, Nat.le_refl _, Nat.le_refl _, Nat.le_refl _⟩
    refine ⟨_, rfl, p, dx, _, rfl, ob, lp_no_take_word, H0, p, L, tas, Ts, st0, wCorridor, by rw [e_corridor]; rfl, hP, hB0.at_, ⟨fun kw s1 h1 v H1 hv hP1 => ?_, fun l c he => her l c (by simp only [parsePlan, he])⟩⟩
    clear hv
    obtain ⟨B1, f1, e1⟩ := bd_word hG hB0 h1 (by decide)
    obtain ⟨dx1, ob1⟩ := hP1.ob
    refine ⟨_, rfl, p, dx1, _, rfl, ob1, lp_no_take, H0, p, L, tas, Ts, s1, .number, rfl, hP1, B1.at_, ⟨fun tk s2 h2 v H2 hv hP2 => ?_, fun l c he => her l c (by simp only [parsePlan, h1, he])⟩⟩
    obtain ⟨a2, rfl, hta2⟩ := hv
    obtain ⟨B2, f2, e2, _⟩ := bd_take hG B1 h2 (by decide)
    obtain ⟨dx2, ob2⟩ := hP2.ob
    obtain ⟨dt2, ht2⟩ := hP2.get hta2
    obtain ⟨⟨n1, n2⟩, n3⟩ := hG.num tk hta2.mem (take_ok h2).2.2
    have hint := int_sx n3 n1 n2
    have hn99 := numVal_le n3 n2
    refine ⟨_, rfl, a2, _, dt2, _, _, rfl, ht2, T.p.l.tok.c, T.p.l.tok.n _ (by simp), lk_text, _, _, rfl, hint, by rw [len_sx]; omega, ?_⟩
    refine ⟨_, rfl, p, dx2, _, rfl, ob2, lp_no_take_word, H0, p, L, tas, Ts, s2, wSemi, by rw [e_semi]; rfl, hP2, B2.at_, ⟨fun t3 s3 h3 v H3 hv hP3 => ?_, fun l c he => her l c (by simp only [parsePlan, h1, h2, he])⟩⟩
    clear hv
    obtain ⟨B3, f3, e3⟩ := bd_word hG B2 h3 (by decide)
    obtain ⟨dx3, ob3⟩ := hP3.ob
    have B3f := B3.fa
    have B3a := B3.at_
    generalize hq : (if 1 ≤ numVal tk.text ∧ numVal tk.text ≤ 16 then s3 else s3.found wCorridor tk) = q3
    have Bq : Bd Ts q3 := by
      rw [← hq]
      split
      · exact B3
      · exact B3.found (by omega)
    generalize hn : numVal tk.text = n at *
    refine ⟨fun σ' H' => σ' = [some (.ref p), some (.ref a2), some (.int n), none, none, none, none, none, none] ∧ PA K H0 H' p L tas Ts q3, ?_, ?_⟩
    · refine ⟨_, rfl, _, _, rfl, rfl, _, rfl, ?_⟩
      have bad : ¬ (1 ≤ n ∧ n ≤ 16) → tDrop (tMeth (He.ga K "Parser") "found" (spFound K) [] E0 (tVar 0) (tCons (tC (.str "corridor")) (tCons (tVar 1) tNil))) { nx := fun σ' H' => σ' = [some (.ref p), some (.ref a2), some (.int n), none, none, none, none, none, none] ∧ PA K H0 H' p L tas Ts q3, rt := Q } [some (.ref p), some (.ref a2), some (.int n), none, none, none, none, none, none] H3 := fun hb => by
        refine ⟨_, rfl, p, dx3, _, rfl, ob3, lp_no_found, _, rfl, H0, p, L, tas, Ts, s3, wCorridor, a2, tk, by rw [e_corridor]; rfl, hP3, hta2, by omega, fun H4 hP4 => ⟨rfl, ?_⟩⟩
        rw [← hq, if_neg hb]
        exact hP4
      refine ite2 (fun h4 => ?_) (fun h4 => ?_)
      · have h4 := of_decide_eq_true h4
        refine ⟨_, _, rfl, rfl, _, rfl, ?_⟩
        refine ite2 (fun h5 => ?_) (fun h5 => ?_)
        · have h5 : ¬ ((n : Nat) : Int) ≤ 16 := fun z => by
            rw [decide_eq_true z] at h5
            exact absurd h5 (by decide)
          exact bad (by omega)
        · have h5 : ((n : Nat) : Int) ≤ 16 := Decidable.byContradiction fun z => h5 (by rw [decide_eq_false z]; rfl)
          refine ⟨rfl, ?_⟩
          rw [← hq, if_pos (by omega)]
          exact hP3
      · have h4 : ¬ (1 : Int) ≤ ((n : Nat) : Int) := fun z => h4 (decide_eq_true z)
        exact ⟨_, rfl, iteT (bad (by omega))⟩
    · rintro σ' H4 ⟨rfl, hP4⟩
      obtain ⟨dx4, ob4⟩ := hP4.ob
      refine ⟨_, rfl, p, dx4, _, rfl, ob4, lp_no_parse_names, _, rfl, p, _, dx4, _, _, rfl, ob4, T.p.par.c, T.p.par.n _ (by simp), lp_signs, H0, p, L, tas, Ts, q3, false, by rw [e_signs]; rfl, hP4, hG, Bq, ⟨fun u s4 h4 v H5 hv hP5 => ?_, fun l c he => her l c (by simp only [parsePlan, h1, h2, h3, hn, hq, he])⟩⟩
      clear hv
      have B4 := bd_names hG Bq h4
      obtain ⟨dx5, ob5⟩ := hP5.ob
      refine ⟨_, rfl, p, dx5, _, rfl, ob5, lp_no_parse_names, _, rfl, p, _, dx5, _, _, rfl, ob5, T.p.par.c, T.p.par.n _ (by simp), lp_moods, H0, p, L, tas, Ts, s4, true, by rw [e_moods]; rfl, hP5, hG, B4, ⟨fun u5 s5 h5 v H6 hv hP6 => ?_, fun l c he => her l c (by simp only [parsePlan, h1, h2, h3, hn, hq, h4, he])⟩⟩
      clear hv
      have B5 := bd_names hG B4 h5
      obtain ⟨dx6, ob6⟩ := hP6.ob
      refine ⟨_, rfl, p, dx6, _, rfl, ob6, lp_no_parse_robot, _, rfl, H0, p, L, tas, Ts, s5, n, rfl, hP6, hG, B5, ⟨fun u6 s6 h6 v H7 hv hP7 => ?_, fun l c he => her l c (by simp only [parsePlan, h1, h2, h3, hn, hq, h4, h5, he])⟩⟩
      clear hv
      have B6 := (bd_robot hG B5 h6).1
      have hpre : ∀ r, parseStmts Ts n Ts.length s6 = r → parsePlan Ts = (match r with | .error e => .error e | .ok (_, s7) => .ok (n, s7)) := by
        intro r hr
        simp only [parsePlan, h1, h2, h3, hn, hq, h4, h5, h6, hr]
        all_goals (rcases r with _ | ⟨_, _⟩ <;> rfl)
      refine ⟨fun m σ H => ∃ (f : Nat) (s : PSt), m + s.at_ = Ts.length ∧ σ = [some (.ref p), some (.ref a2), some (.int n), none, none, none, none, none, none] ∧ PA K H0 H p L tas Ts s ∧ Bd Ts s ∧ Ts.length ≤ f + s.at_ ∧
        parseStmts Ts n Ts.length s6 = parseStmts Ts n f s, ⟨Ts.length - s6.at_, Ts.length, s6, Nat.sub_add_cancel (Nat.le_of_lt B6.at_), rfl, hP7, B6, Nat.le_add_right _ _, rfl⟩, ?_⟩
      rintro m σ H8 ⟨f, s8, hm, rfl, hP8, B8, hf, hst⟩
      have B8a := B8.at_
      obtain ⟨f', rfl⟩ : ∃ f', f = f' + 1 := ⟨f - 1, by omega⟩
      obtain ⟨dx8, ob8⟩ := hP8.ob
      refine ⟨_, rfl, p, dx8, _, rfl, ob8, lp_no_peek, H0, p, L, tas, Ts, s8, rfl, hP8, B8.at_, fun a8 hta8 => ?_⟩
      obtain ⟨dt8, ht8⟩ := hP8.get hta8
      refine ⟨a8, _, dt8, _, _, rfl, ht8, T.p.l.tok.c, T.p.l.tok.n _ (by simp), lk_kind, rfl, _, rfl, ?_⟩
      refine ite2 (fun h => ?_) (fun h => ?_)
      · have hk : (peek Ts s8).kind ≠ .fin := fun z => by
          rw [decide_eq_true (by rw [z]; rfl)] at h
          exact absurd h (by decide)
        have hstep : ∀ r, parseStmt Ts n s8 = r → parseStmts Ts n (f' + 1) s8 = (match r with | .error e => .error e | .ok (_, s1) => parseStmts Ts n f' s1) := by
          intro r hr
          simp only [parseStmts, if_neg hk, hr]
          all_goals (rcases r with _ | ⟨_, _⟩ <;> rfl)
        refine ⟨_, fun _ _ nn => nn, ?_⟩
        refine ⟨_, rfl, p, dx8, _, rfl, ob8, lp_no_peek, H0, p, L, tas, Ts, s8, rfl, hP8, B8.at_, fun a9 hta9 => ?_⟩
        obtain ⟨dt9, ht9⟩ := hP8.get hta9
        refine ⟨a9, _, dt9, _, _, rfl, ht9, T.p.l.tok.c, T.p.l.tok.n _ (by simp), lk_text, ?_⟩
        have goon : ∀ (s9 : PSt) (H9 : Hp), parseStmt Ts n s8 = .ok ((), s9) → PA K H0 H9 p L tas Ts s9 → ∃ m', m' < m ∧ ∃ (f : Nat) (s : PSt), m' + s.at_ = Ts.length ∧ [some (V.ref p), some (.ref a2), some (.int n), none, none, none, none, none, none] = [some (.ref p), some (.ref a2), some (.int n), none, none, none, none, none, none] ∧ PA K H0 H9 p L tas Ts s ∧ Bd Ts s ∧ Ts.length ≤ f + s.at_ ∧
            parseStmts Ts n Ts.length s6 = parseStmts Ts n f s := fun s9 H9 h9 hP9 => by
          obtain ⟨B9, lt9⟩ := bd_stmt hG B8 h9
          have B9a := B9.at_
          exact ⟨Ts.length - s9.at_, by omega, f', s9, by omega, rfl, hP9, B9, by omega, by rw [hst, hstep _ h9]⟩
        have goer : ∀ l c, parseStmt Ts n s8 = .error (l, c) → Syn K H0 E l c := fun l c he => her l c (by rw [hpre _ (hst.trans (hstep _ he))])
        refine ⟨_, rfl, fun z => ?_, fun z => ?_⟩
        · have z : (peek Ts s8).text = wRobot := sx_inj (by rw [← e_robot]; exact z)
          have hs : parseStmt Ts n s8 = parseRobot Ts n s8 := by simp only [parseStmt, if_pos z]
          refine ⟨_, rfl, p, dx8, _, rfl, ob8, lp_no_parse_robot, _, rfl, H0, p, L, tas, Ts, s8, n, rfl, hP8, hG, B8, ⟨fun u s9 h9 v H9 hv hP9 => goon s9 H9 (by rw [hs]; exact h9) hP9, fun l c he => goer l c (by rw [hs]; exact he)⟩⟩
        · have z1 : ¬ (peek Ts s8).text = wRobot := fun y => z (by rw [y, e_robot])
          refine ⟨_, rfl, fun z => ?_, fun z => ?_⟩
          · have z : (peek Ts s8).text = wPut := sx_inj (by rw [← e_put]; exact z)
            have hs : parseStmt Ts n s8 = parsePut Ts n s8 := by simp only [parseStmt, if_neg z1, if_pos z]
            refine ⟨_, rfl, p, dx8, _, rfl, ob8, lp_no_parse_put, _, rfl, H0, p, L, tas, Ts, s8, n, rfl, hP8, hG, B8, ⟨fun u s9 h9 v H9 hv hP9 => goon s9 H9 (by rw [hs]; exact h9) hP9, fun l c he => goer l c (by rw [hs]; exact he)⟩⟩
          · have z2 : ¬ (peek Ts s8).text = wPut := fun y => z (by rw [y, e_put])
            refine ⟨_, rfl, fun z => ?_, fun z => ?_⟩
            · have z : (peek Ts s8).text = wWhen := sx_inj (by rw [← e_when]; exact z)
              have hs : parseStmt Ts n s8 = parseRule Ts s8 := by simp only [parseStmt, if_neg z1, if_neg z2, if_pos z]
              refine ⟨_, rfl, p, dx8, _, rfl, ob8, lp_no_parse_rule, H0, p, L, tas, Ts, s8, rfl, hP8, hG, B8, ⟨fun u s9 h9 v H9 hv hP9 => goon s9 H9 (by rw [hs]; exact h9) hP9, fun l c he => goer l c (by rw [hs]; exact he)⟩⟩
            · have z3 : ¬ (peek Ts s8).text = wWhen := fun y => z (by rw [y, e_when])
              refine ⟨_, rfl, p, dx8, _, rfl, ob8, lp_no_fail, H0, p, L, tas, Ts, s8, rfl, hP8, B8.at_, goer _ _ ?_⟩
              simp only [parseStmt, if_neg z1, if_neg z2, if_neg z3]
      · have hk : (peek Ts s8).kind = .fin := Decidable.byContradiction fun z => h (by
          show (!decide (V.str (peek Ts s8).kind.str = V.str Kd.fin.str)) = true
          rw [decide_eq_false fun y => z (kd_inj (b := .fin) (V.str.inj y))]
          rfl)
        have hres : parsePlan Ts = .ok (n, s8) := by
          rw [hpre (.ok ((), s8)) (by rw [hst]; simp only [parseStmts, if_pos hk])]
        obtain ⟨hno, hQ⟩ := hok n s8 hres
        obtain ⟨fas, hfa, hfas⟩ := hP8.fa
        rw [hno] at hfas
        have hfas : fas = [] := by
          have := hfas.len
          exact List.length_eq_zero_iff.mp this
        subst hfas
        refine ⟨_, rfl, p, _, dx8, _, _, rfl, ob8, T.p.par.c, T.p.par.n _ (by simp), lp_faults, (by show 0 ≤ sizeLine; decide), fun el nel => ?_⟩
        have smE := sameUpd (o := .lst []) (Same.refl H8) nel
        refine ⟨.list [], .list [], .lst (SqL.of (smE _ _ hfa)) .nil, .lst (SqL.of upd_same) .nil, rfl, rfl, _, rfl, ?_⟩
        refine iteF ?_
        have hP9 := hP8.mono smE
        generalize upd H8 el (.lst []) = H9 at *
        refine ⟨_, rfl, (n : Int), rfl, by omega, by omega, fun D nD => ?_⟩
        obtain ⟨dx9, ob9⟩ := hP9.ob
        refine lc_range (lo := 0) (n := ((n : Nat) : Int).toNat) (vs := [8]) (fun i H => H D = some (.lst (((List.range i).map fun j => (getA s8.spots j).getD 0).map fun m : Nat => V.int m)) ∧ Same H9 H) ⟨upd_same, sameUpd (Same.refl H9) nD⟩ ?_ ?_
        · rintro i H10 hi ⟨hD, sm10⟩
          have hP10 := hP9.mono sm10
          refine ⟨rfl, _, rfl, p, _, dx9, _, _, rfl, sm10 _ _ ob9, T.p.par.c, T.p.par.n _ (by simp), lp_spots, L.sd, rfl, .inl ⟨_, .inl hP10.sp⟩, _, rfl, _, DGet.k (k := Sum.inl ((0 : Int) + (i : Nat))) hP10.sp, _, hD, ?_, ?_, ?_⟩
          · rw [List.length_map, List.length_map, List.length_range, sizeLine_eq]
            omega
          · rw [upd_same, spots_get, List.range_succ, List.map_append, List.map_append]
            rfl
          · exact sameUpd sm10 nD
        · rintro H10 ⟨hD, sm10⟩
          rw [Int.toNat_natCast] at hD
          have hfl : ((List.range n).map fun j => (getA s8.spots j).getD 0) = (planOf n s8).floor := rfl
          rw [hfl] at hD
          refine ⟨D, _, rfl, .inl ⟨SqL.of hD, fun fa nfa => ?_⟩⟩
          have smf := sameUpd (o := .tup ((planOf n s8).floor.map fun m : Nat => V.int m)) (Same.refl H10) nfa
          have hP11 := hP9.mono (sm10.trans smf)
          have atf := @upd_same H10 fa (.tup ((planOf n s8).floor.map fun m : Nat => V.int m))
          generalize upd H10 fa (.tup ((planOf n s8).floor.map fun m : Nat => V.int m)) = H11 at *
          obtain ⟨dx11, ob11⟩ := hP11.ob
          refine ⟨_, rfl, p, _, dx11, _, _, rfl, ob11, T.p.par.c, T.p.par.n _ (by simp), lp_signs, L.sl, _, rfl, SqL.of hP11.si, fun sa osa nsa oc od => ?_⟩
          have sms := sameUpd (o := .frz osa (.tup (s8.signs.map sV))) (Same.refl H11) nsa
          have hP12 := hP11.mono sms
          have ats : TupN (upd H11 sa (.frz osa (.tup (s8.signs.map sV)))) sa (s8.signs.map sV) := ⟨osa, oc, od, upd_same⟩
          generalize upd H11 sa (.frz osa (.tup (s8.signs.map sV))) = H12 at *
          refine ⟨_, rfl, p, _, dx11, _, _, rfl, sms _ _ ob11, T.p.par.c, T.p.par.n _ (by simp), lp_moods, L.ml, _, rfl, SqL.of hP12.mo, fun ma oma nma mc md => ?_⟩
          have smm := sameUpd (o := .frz oma (.tup (s8.moods.map sV))) (Same.refl H12) nma
          have hP13 := hP12.mono smm
          have atm : TupN (upd H12 ma (.frz oma (.tup (s8.moods.map sV)))) ma (s8.moods.map sV) := ⟨oma, mc, md, upd_same⟩
          generalize upd H12 ma (.frz oma (.tup (s8.moods.map sV))) = H13 at *
          obtain ⟨ras, hra, hras⟩ := hP13.ro
          refine ⟨_, rfl, _, rfl, p, _, dx11, _, _, rfl, smm _ _ (sms _ _ ob11), T.p.par.c, T.p.par.n _ (by simp), lp_robots, L.rl, _, rfl, .inl ⟨SqL.of hra, fun ra nra => ?_⟩⟩
          have smr := sameUpd (o := .tup (ras.map V.ref)) (Same.refl H13) nra
          have hP14 := hP13.mono smr
          have atr := @upd_same H13 ra (.tup (ras.map V.ref))
          generalize upd H13 ra (.tup (ras.map V.ref)) = H14 at *
          refine ⟨_, rfl, p, _, dx11, _, _, rfl, smr _ _ (smm _ _ (sms _ _ ob11)), T.p.par.c, T.p.par.n _ (by simp), lp_rules, ?_⟩
          intro x dx0 nx ndx ne0
          refine init_at (names := planF) rfl nx ndx fun H15 sm15 hx => ⟨rfl, ?_⟩
          obtain ⟨dp, hdp⟩ := hx
          have hP15 := hP14.mono sm15
          refine hQ x H15 (hP14.same.free nx) hP15.same ⟨dp, sa, ma, fa, ra, L.rd, ras, hdp, ats.mono fun _ z => sm15 _ _ (smr _ _ (smm _ _ z)), atm.mono fun _ z => sm15 _ _ (smr _ _ z), sm15 _ _ (smr _ _ (smm _ _ (sms _ _ atf))), sm15 _ _ atr, ?_, hP15.ru⟩
          exact Paired.mapP hras fun a r q => sm15 _ _ (smr _ _ q)
end
end Sw

end

section
set_option maxRecDepth 100000
set_option maxHeartbeats 4000000
/-! load -/
namespace Sw
open PySem PySem.Spec PyProof.Rows L2 SwA
section
variable {P : Program} {w : World} {K : PySem.W.Frag} {mg : Str → Option Value} {base : Heap}
def spLoad (K : PySem.W.Frag) : Sp := fun vs H Q E => ∃ text : Cs, vs = [.str (sx text)] ∧ text.length ≤ 90000 ∧
  (∀ n s, loads text = .ok (n, s) → s.faults = [] ∧ ∀ (a : Addr) (H' : Hp), H a = none → Same H H' → PlanAt K H' a (planOf n s) → Q (.ref a) H') ∧ (∀ l c, loads text = .error (l, c) → Syn K H E l c)
theorem sc_load : FnScope ["plan"] ["plan"] (defScope s_load) := ⟨rfl, rfl, rfl, by decide +kernel, rfl, by decide +kernel, by decide +kernel⟩
theorem ok_load (T : LoadT K mg) : FnE P w K mg base (L2.CX P w) 8 ("load", none) ["plan"] (spLoad K) := by
  obtain ⟨fd, F⟩ := T.d_load
  obtain ⟨fdT, GT, bT, kT⟩ := ok_tokenize (P := P) (w := w) (base := base) T.p.l
  obtain ⟨fdI, GI, bI, kI⟩ := ok_par_init (P := P) (w := w) (base := base) T.p
  obtain ⟨fdP, GP, bP, kP⟩ := ok_parse_plan (P := P) (w := w) (base := base) T
  refine ⟨fd, F.ok sc_load (fun vs H Q E h => ?_) (fun cdv A outer s H vs Q E hr h => ?_), F.bindsN fun _ _ _ _ _ _ us hl => match us, hl with | [_], _ => rfl, F.kp⟩
  · obtain ⟨text, rfl, _⟩ := h
    rfl
  · obtain ⟨text, rfl, hl, hok, her⟩ := h
    have hr2 : Room 2 _ := hr.mono (by decide)
    have hr4 : Room 4 _ := hr.mono (by decide)
    refine ⟨_, (pss_one (ps_ret (pe_meth0 (pe_make T.p.par.m GI hr2 rfl T.p.par.g bI .nil pass0 (pa_cons (pe_call GT hr4 rfl T.p.l.g_tokenize kT bT .nil (passes_call (takes_of rfl rfl rfl rfl) (fun _ _ _ _ h => h)) (pa_cons (pv 0) pa_nil)) pa_nil))
      T.p.par.c T.p.parse_plan.m GP hr bP .nil (passes_call (takes_of rfl rfl rfl rfl) (fun _ _ _ _ h => h))))), ?_⟩
    refine ⟨_, rfl, text, rfl, hl, fun ts ht a tas H1 na sm ha htk => ?_, fun l c he => her l c (by simp only [loads, he])⟩
    have hG := tokenize_good hl ht
    intro x dx nx ndx ne
    have xa : a ≠ x := ne_of_none ha nx
    have xd : a ≠ dx := ne_of_none ha ndx
    have s1 : Same H1 (upd (upd H1 dx (.own x)) x (.ins (He.ga K "Parser") dx [])) := sameUpd (sameUpd (Same.refl H1) ndx) nx
    refine ⟨H, x, dx, a, tas, ts, rfl, upd_same, s1 _ _ ha, htk.same s1, sm.trans s1, sm.free nx, na, fun L H2 hPA => ⟨rfl, ?_⟩⟩
    obtain ⟨dx2, ob2⟩ := hPA.ob
    have el : loads text = parsePlan ts := by simp only [loads, ht]
    refine ⟨x, dx2, _, rfl, ob2, lp_no_parse_plan, H, x, L, tas, ts, rfl, hPA, hG, fun n s h => hok n s (by rw [el]; exact h), fun l c h => her l c (by rw [el]; exact h)⟩
end
end Sw

end

section
set_option maxRecDepth 100000
set_option maxHeartbeats 4000000
/-! the mirror of the machine -/
namespace Sw
open PySem
def wRest : Cs := [114, 101, 115, 116]
abbrev Rob := Nat × Bool × Nat
structure MSt where
  floor : List Nat
  robots : List Rob
  deriving DecidableEq
def movedM (tile : Nat) (right : Bool) (tiles : Nat) : Nat × Bool :=
  if right = true then (if tile + 1 < tiles then (tile + 1, true) else (tile, false)) else (if 0 < tile then (tile - 1, false) else (tile, true))
def goM (move : Cs) (tile : Nat) (right : Bool) (tiles : Nat) : Nat × Bool := if move = wOn then movedM tile right tiles else if move = wBack then movedM tile (!right) tiles else (tile, right)
def actM (rules : List ((Nat × Nat) × Rule)) (st : MSt) (k : Nat) : Cs × MSt := match st.robots[k]? with
  | none => (wRest, st)
  | some (tile, right, mood) => match getA rules (mood, st.floor.getD tile 0) with
    | none => (wRest, st)
    | some r => (r.move, ⟨st.floor.set tile r.left, st.robots.set k ((goM r.move tile right st.floor.length).1, (goM r.move tile right st.floor.length).2, r.later)⟩)
/-- the first k robots have acted -/
def actsM (rules : List ((Nat × Nat) × Rule)) (st : MSt) : Nat → List Cs × MSt
  | 0 => ([], st)
  | k + 1 => ((actsM rules st k).1 ++ [(actM rules (actsM rules st k).2 k).1], (actM rules (actsM rules st k).2 k).2)
structure TickM where
  swept : List Nat
  words : List Cs
  state : MSt
def nextM (rules : List ((Nat × Nat) × Rule)) (st : MSt) : TickM := ⟨st.robots.map (·.1), (actsM rules st st.robots.length).1, (actsM rules st st.robots.length).2⟩
def firstM (pl : Plan) : MSt := ⟨pl.floor, pl.robots.map fun r => (r.1, r.2, 0)⟩
/-- a state of n tiles and m robots -/
structure WfM (n m : Nat) (st : MSt) : Prop where
  fl : st.floor.length = n
  ro : st.robots.length = m
  ti : ∀ r ∈ st.robots, r.1 < n
theorem movedM_lt {tile : Nat} {right : Bool} {tiles : Nat} (h : tile < tiles) : (movedM tile right tiles).1 < tiles := by
  unfold movedM
  split
  · split <;> (simp only; omega)
  · split <;> (simp only; omega)
theorem goM_lt {move : Cs} {tile : Nat} {right : Bool} {tiles : Nat} (h : tile < tiles) : (goM move tile right tiles).1 < tiles := by
  unfold goM
  split
  · exact movedM_lt h
  · split
    · exact movedM_lt h
    · exact h
theorem WfM.act {n m : Nat} {rules : List ((Nat × Nat) × Rule)} {st : MSt} {k : Nat} (h : WfM n m st) : WfM n m (actM rules st k).2 := by
  unfold actM
  split
  · exact h
  · rename_i tile right mood e
    split
    · exact h
    · rename_i r hr
      have ht : tile < n := h.ti _ (List.mem_of_getElem? e)
      refine ⟨by simpa using h.fl, by simpa using h.ro, fun q hq => ?_⟩
      rcases List.mem_or_eq_of_mem_set hq with z | z
      · exact h.ti _ z
      · rw [z, h.fl]
        exact goM_lt ht
theorem WfM.acts {n m : Nat} {rules : List ((Nat × Nat) × Rule)} {st : MSt} (h : WfM n m st) : ∀ k, WfM n m (actsM rules st k).2
  | 0 => h
  | k + 1 => (h.acts k).act
theorem WfM.next {n m : Nat} {rules : List ((Nat × Nat) × Rule)} {st : MSt} (h : WfM n m st) : WfM n m (nextM rules st).state := h.acts _
theorem acts_len (rules : List ((Nat × Nat) × Rule)) (st : MSt) : ∀ k, (actsM rules st k).1.length = k
  | 0 => rfl
  | k + 1 => by
    show ((actsM rules st k).1 ++ [_]).length = k + 1
    simp [acts_len rules st k]
end Sw

end

section
set_option maxRecDepth 100000
set_option maxHeartbeats 4000000
/-! is_int_in -/
namespace Sw
open PySem PySem.Spec PyProof.Rows L2 SwA
/-- a def of the module -/
structure DeT (K : PySem.W.Frag) (mg : Str → Option Value) (x : Str) (st : Stmt) : Prop where
  d : FD K (x, none) x x st
  g : mg x = some (.ref (He.ga K x))
inductive ArN (K : PySem.W.Frag) (H : Hp) : V → String → Prop
  | int (i : Int) : ArN K H (.int i) "int"
  | bl (b : Bool) : ArN K H (.bl b) "bool"
  | non : ArN K H .non "NoneType"
  | str (z : Str) : ArN K H (.str z) "str"
  | tup {a : Addr} {xs : List V} (e : H a = some (.tup xs)) : ArN K H (.ref a) "tuple"
  | lst {a : Addr} {xs : List V} (e : H a = some (.lst xs)) : ArN K H (.ref a) "list"
theorem ArN.ty {K : PySem.W.Frag} {H : Hp} {v : V} {n : String} (h : ArN K H v n) : TyX K H v (.type n) := by
  cases h with
  | int i => exact .base (.int i)
  | bl b => exact .base (.bl b)
  | non => exact .base .non
  | str z => exact .base (.str z)
  | tup e => exact .base (.tup e)
  | lst e => exact .base (.lst e)
theorem ArN.same {K : PySem.W.Frag} {H H' : Hp} {v : V} {n : String} (h : ArN K H v n) (s : Same H H') : ArN K H' v n := by
  cases h with
  | int i => exact .int i
  | bl b => exact .bl b
  | non => exact .non
  | str z => exact .str z
  | tup e => exact .tup (s _ _ e)
  | lst e => exact .lst (s _ _ e)
def isIntIn (v : V) (lo hi : Int) : Bool := match v with
  | .int i => decide (lo ≤ i) && decide (i ≤ hi)
  | _ => false
end Sw

end

section
set_option maxRecDepth 100000
set_option maxHeartbeats 4000000
/-! utilities -/
namespace Sw
open PySem PySem.Spec PyProof.Rows L2 SwA
abbrev iV (n : Nat) : V := .int n
abbrev plFs (a b c d e : V) : List (Str × V) := [("signs", a), ("moods", b), ("floor", c), ("robots", d), ("rules", e)]
theorem lpl_signs {a b c d e : V} : List.lookup ("signs" : Str) (plFs a b c d e) = some a := by kernel_rfl
theorem lpl_moods {a b c d e : V} : List.lookup ("moods" : Str) (plFs a b c d e) = some b := by kernel_rfl
theorem lpl_floor {a b c d e : V} : List.lookup ("floor" : Str) (plFs a b c d e) = some c := by kernel_rfl
theorem lpl_robots {a b c d e : V} : List.lookup ("robots" : Str) (plFs a b c d e) = some d := by kernel_rfl
theorem lpl_rules {a b c d e : V} : List.lookup ("rules" : Str) (plFs a b c d e) = some e := by kernel_rfl
theorem walk_enumT {K : PySem.W.Frag} {a : Addr} {xs : List V} : Walk (ItET K a) xs.length (fun H => SqT K H a xs) (YPair (fun i => some (.int (i : Nat))) (fun i => xs[i]?)) := by
  refine ⟨fun i _ hi q => ⟨xs, xs[i], q, by simp [hi]⟩, fun _ q => ⟨xs, q, rfl⟩, fun i H v H' _ q y => ?_⟩
  obtain ⟨T, x, h1, h2, h3, h4⟩ := y
  exact ⟨T, .int (i : Nat), x, h1, h2, h3, rfl, h4 xs q⟩
/-! ### the rules asked -/
theorem rules_get {H : Hp} {k : Nat × Nat} : ∀ {rs : List ((Nat × Nat) × Rule)} {kvs : List (List Key × V)}, Paired (RuleAt H) rs kvs →
    (getA rs k = none → valV kvs (keyT k) = none) ∧ (∀ r, getA rs k = some r → ∃ t, valV kvs (keyT k) = some (.ref t) ∧ H t = some (.tup [.int r.left, sV r.move, .int r.later]))
  | _, _, .nil => ⟨fun _ => rfl, fun r h => by cases h⟩
  | _, _, .cons (a := r0) (b := kv) (l₁ := l) (l₂ := m) h t => by
    have ih := rules_get (k := k) t
    by_cases e : r0.1 = k
    · have e1 : getA (r0 :: l) k = some r0.2 := by unfold getA; rw [List.find?_cons, decide_eq_true e]; rfl
      have e2 : valV (kv :: m) (keyT k) = some kv.2 := valV_pos (by rw [h.1, e])
      refine ⟨(fun z => by rw [e1] at z; cases z), fun r z => ?_⟩
      rw [e1] at z
      cases z
      obtain ⟨_, tt, h2, h3⟩ := h
      exact ⟨tt, by rw [e2, h2], h3⟩
    · have e1 : getA (r0 :: l) k = getA l k := by unfold getA; rw [List.find?_cons, decide_eq_false e]
      have e2 : valV (kv :: m) (keyT k) = valV m (keyT k) := valV_neg (by rw [h.1]; exact fun q => e (keyT_inj.mp q))
      rw [e1, e2]
      exact ih
section
variable {K : PySem.W.Frag} {H H' : Hp}
def cutH (H : Hp) (l : List Addr) : Hp := fun a => if a ∈ l then none else H a
theorem cutH_same {l : List Addr} : Same (cutH H l) H := fun a o e => by
  unfold cutH at e
  split at e
  · cases e
  · exact e
theorem cutH_in {l : List Addr} {a : Addr} (h : a ∈ l) : cutH H l a = none := by
  unfold cutH
  rw [if_pos h]
theorem cutH_out {l : List Addr} {a : Addr} (h : a ∉ l) : cutH H l a = H a := by
  unfold cutH
  rw [if_neg h]
end
end Sw

end

section
set_option maxRecDepth 100000
set_option maxHeartbeats 4000000
/-! the law's own: draws -/
namespace Sw
open PySem PySem.Spec PyProof.Rows L2 SwA
/-- the source of numbers -/
def drawL (s c : Int) (bs : List Int) : HO := .lst (.int s :: .int c :: bs.map V.int)
def DrawAt (H : Hp) (d : Addr) : Prop := ∃ (s c : Int) (bs : List Int), bs.length ≤ 63 ∧ H d = some (drawL s c bs)
/-- all but d stands, d is drawn from -/
structure Drawn (d : Addr) (H H' : Hp) : Prop where
  same : ∀ b o, b ≠ d → H b = some o → H' b = some o
  at_ : DrawAt H' d
theorem Drawn.trans {d : Addr} {H H1 H2 : Hp} (a : Drawn d H H1) (b : Drawn d H1 H2) : Drawn d H H2 := ⟨fun x o h e => b.same x o h (a.same x o h e), b.at_⟩
theorem Drawn.refl {d : Addr} {H : Hp} (h : DrawAt H d) : Drawn d H H := ⟨fun _ _ _ e => e, h⟩
theorem Drawn.of {d : Addr} {H H' : Hp} (h : DrawAt H d) (s : Same H H') : Drawn d H H' := ⟨fun _ _ _ e => s _ _ e, let ⟨a, b, c, l, e⟩ := h; ⟨a, b, c, l, s _ _ e⟩⟩
theorem Drawn.new {d : Addr} {H H' : Hp} {x : Addr} {o : HO} (h : Drawn d H H') (hx : H' x = none) : Drawn d H (upd H' x o) :=
  h.trans (Drawn.of h.at_ (sameUpd (Same.refl _) hx))
theorem Drawn.free {d : Addr} {H H' : Hp} {a : Addr} (h : Drawn d H H') (h0 : ∃ o, H d = some o) (n : H' a = none) : H a = none := by
  cases e : H a with
  | none => rfl
  | some o =>
    by_cases z : a = d
    · obtain ⟨s, c, bs, _, q⟩ := h.at_
      rw [z, q] at n
      cases n
    · rw [h.same a o z e] at n
      cases n
structure LawT (K : PySem.W.Frag) (mg : Str → Option Value) : Prop where
  len : mg "len" = none
  abs : mg "abs" = none
  list : mg "list" = none
  tuple : mg "tuple" = none
  range : mg "range" = none
  random : DeT K mg "_law_random" s__law_random
  below : DeT K mg "_law_below" s__law_below
theorem at1 {x y : V} {xs : List V} : atI (x :: y :: xs) 1 = some y := atI_nat (j := 1) rfl
theorem atz {x : V} {xs : List V} : atI (x :: xs) 0 = some x := atI_nat (j := 0) rfl
theorem ixN1 {x y : V} {xs : List V} : ixN (x :: y :: xs).length 1 = some 1 := by
  unfold ixN
  rw [if_pos (by decide), if_pos (by simp; omega)]
  rfl
theorem ixN0 {x : V} {xs : List V} : ixN (x :: xs).length 0 = some 0 := by
  unfold ixN
  rw [if_pos (by decide), if_pos (by simp only [List.length_cons]; omega)]
  rfl
theorem sIx2 {x y z : V} {xs : List V} : seqIndex? 2 (x :: y :: z :: xs).length = some 2 := by
  have h : ixN (x :: y :: z :: xs).length 2 = some 2 := by
    unfold ixN
    rw [if_pos (by decide), if_pos (by simp; omega)]
    rfl
  exact (ixN_seq h).1
section
variable {P : Program} {w : World} {K : PySem.W.Frag} {mg : Str → Option Value} {base : Heap}
/-! ### _law_below -/
def spBelow : Sp := fun vs H Q _ => ∃ (d : Addr) (n : Nat), vs = [.ref d, .int n] ∧ DrawAt H d ∧ 1 ≤ n ∧ n < 10000000 ∧ ∀ (r : Nat) (s c : Int) (bs : List Int), r < n → bs.length ≤ 63 → Q (.int r) (upd H d (drawL s c bs))
abbrev beN : List Str := ["_law_d", "_law_limit", "_law_result"]
theorem sc_below : FnScope beN ["_law_d", "_law_limit"] (defScope s__law_below) := ⟨rfl, rfl, rfl, by decide +kernel, rfl, by decide +kernel, by decide +kernel⟩
theorem modNat (i : Int) {n : Nat} (h : 1 ≤ n) : ∃ r : Nat, r < n ∧ i % (n : Int) = r := by
  have h1 := Int.emod_nonneg i (show (n : Int) ≠ 0 by omega)
  have h2 := Int.emod_lt_of_pos i (show (0 : Int) < n by omega)
  exact ⟨(i % (n : Int)).toNat, by omega, by omega⟩
theorem ok_below (T : LawT K mg) : FnE P w K mg base CX0 1 ("_law_below", none) ["_law_d", "_law_limit"] spBelow := by
  obtain ⟨fd, F⟩ := T.below.d
  refine ⟨fd, F.ok sc_below (fun vs H Q E h => ?_) (fun cdv A outer s H vs Q E hr h => ?_), F.bindsN fun _ _ _ _ _ _ us hl => match us, hl with | [_, _], _ => rfl, F.kp⟩
  · obtain ⟨d, n, rfl, _⟩ := h
    rfl
  · obtain ⟨d, n, rfl, ⟨sd, cu, bs, hb, hd⟩, h1, h2, k⟩ := h
    refine ⟨_, PSs.nox (C8.pss_cut (ps_if (PW.pt (pw_and (pt_cmpR op_eq (pe_ix ix_list (pv 0) pe_int (fun _ _ => rfl)) pe_int (nomark _)) (pw_and1 (pt_cmpR op_gt (pe_callB call_len_seq (by rfl) T.len boot_len (pa_cons (pv 0) pa_nil)) pe_int (nomark _)))))
        (pss_one (ps_asg (pe_bm PySem.F.plainAttrs_list PySem.F.slot_list_pop PySem.F.type_list_pop mt_popAt (pv 0) (pa_cons pe_int pa_nil)) (pg_sub (pv 0) pe_int set_list (fun _ => rfl)))) pss_nil)
      (pss_cons (ps_if (pt_cmpR op_gt (pe_ix ix_list (pv 0) pe_int (fun _ _ => rfl)) pe_int (nomark _))
        (pss_cons (ps_set (i := 2) sc_below.nd rfl (.inl rfl) (pe_op op_mod (pe_ix ix_list (pv 0) pe_int (fun _ _ => rfl)) (pv 1)))
        (pss_cons (ps_asg (pe_op op_fdiv (pe_ix ix_list (pv 0) pe_int (fun _ _ => rfl)) (pv 1)) (pg_sub (pv 0) pe_int set_list (fun _ => rfl)))
        (pss_one (ps_ret (pv 2))))) pss_nil)
      (pss_cons (ps_asg (pe_op op_mod (pe_op op_add (pe_op op_mul (pe_ix ix_list (pv 0) pe_int (fun _ _ => rfl)) pe_int) pe_int) pe_int) (pg_sub (pv 0) pe_int set_list (fun _ => rfl)))
      (pss_one (ps_ret (pe_op op_mod (pe_op op_fdiv (pe_ix ix_list (pv 0) pe_int (fun _ _ => rfl)) pe_int) (pv 1))))))), ?_⟩
    have hself : H = upd H d (drawL sd cu bs) := by
      funext b
      by_cases e : b = d
      · rw [e, upd_same, hd]
      · rw [upd_ne e]
    refine ⟨fun σ' H' => σ' = [some (.ref d), some (.int n), none] ∧ ∃ (s c : Int) (bs : List Int), bs.length ≤ 63 ∧ H' = upd H d (drawL s c bs), ?_, ?_⟩
    · refine ⟨_, rfl, d, _, _, _, rfl, rfl, SqL.of hd, at1, rfl, _, rfl, ?_⟩
      refine ite2 (fun h => ?_) (fun h => ?_)
      · refine ⟨_, rfl, d, _, rfl, .inl (SqL.of hd), _, _, rfl, rfl, _, rfl, ?_⟩
        refine ite2 (fun h3 => ?_) (fun h3 => ?_)
        · cases bs with
          | nil => exact absurd (of_decide_eq_true h3) (by simp)
          | cons b bs =>
            refine ⟨_, rfl, .inl ⟨rfl, _, SqL.of hd⟩, d, _, 2, 2, .int b, rfl, rfl, hd, by decide, by decide, ?_, rfl, ?_⟩
            · exact sIx2
            · refine ⟨_, rfl, d, _, _, 1, rfl, rfl, upd_same, ?_, ?_⟩
              · exact ixN1
              · refine ⟨rfl, sd, b, bs, by simp at hb; omega, ?_⟩
                rw [upd_upd]
                rfl
        · exact ⟨rfl, sd, cu, bs, hb, hself⟩
      · exact ⟨rfl, sd, cu, bs, hb, hself⟩
    · rintro σ' H' ⟨rfl, s2, c2, bs2, hb2, rfl⟩
      have hd2 : (upd H d (drawL s2 c2 bs2)) d = some (.lst (.int s2 :: .int c2 :: bs2.map V.int)) := upd_same
      refine ⟨_, rfl, d, _, _, _, rfl, rfl, SqL.of hd2, at1, _, _, rfl, rfl, _, rfl, ?_⟩
      refine ite2 (fun h => ?_) (fun h => ?_)
      · obtain ⟨r, hr1, hr2⟩ := modNat c2 h1
        refine ⟨_, rfl, d, _, _, _, rfl, rfl, SqL.of hd2, at1, _, rfl, _, _, rfl, rfl, by omega, ?_⟩
        replace k := k r s2 (c2 / n) bs2 hr1 hb2
        rw [← hr2] at k
        refine ⟨_, rfl, d, _, _, _, rfl, rfl, SqL.of hd2, at1, _, rfl, _, _, rfl, rfl, ⟨by omega, by omega⟩, ?_⟩
        refine ⟨_, rfl, d, _, _, 1, rfl, rfl, hd2, ?_, ?_⟩
        · exact ixN1
        · refine ⟨_, rfl, ?_⟩
          rw [upd_upd]
          exact k
      · refine ⟨_, rfl, d, _, _, _, rfl, rfl, SqL.of hd2, atz, _, _, rfl, rfl, .inr (by decide), _, _, rfl, rfl, _, _, rfl, rfl, (by show (0 : Int) < 2147483647; decide), ?_⟩
        refine ⟨_, rfl, d, _, _, 0, rfl, rfl, hd2, ?_, ?_⟩
        · exact ixN0
        · rw [upd_upd]
          refine ⟨_, rfl, d, _, _, _, rfl, rfl, SqL.of upd_same, atz, _, _, rfl, rfl, ⟨by decide, by decide⟩, _, rfl, _, _, rfl, rfl, by omega, ?_⟩
          obtain ⟨r, hr1, hr2⟩ := modNat ((s2 * 48271 + 11) % 2147483647 / 64) h1
          replace k := k r ((s2 * 48271 + 11) % 2147483647) c2 bs2 hr1 hb2
          rw [← hr2] at k
          exact k
/-! ### _law_random -/
def spRandom (K : PySem.W.Frag) : Sp := fun vs H Q _ => ∃ (sc : Addr) (salt : Int) (ns : List Int), vs = [.ref sc, .int salt] ∧ SqL K H sc (ns.map V.int) ∧ ns.length ≤ 63 ∧
  ∀ (d : Addr) (H' : Hp), H d = none → Same H H' → DrawAt H' d → Q (.ref d) H'
abbrev raN : List Str := ["_law_script", "_law_salt", "_law_seed", "_law_cell"]
theorem sc_random : FnScope raN ["_law_script", "_law_salt"] (defScope s__law_random) := ⟨rfl, rfl, rfl, by decide +kernel, rfl, by decide +kernel, by decide +kernel⟩
theorem sqL_same {H H' : Hp} (s : Same H H') {a : Addr} {xs : List V} (h : SqL K H a xs) : SqL K H' a xs := h.elim (fun q => .inl (q.elim (fun z => .inl (s _ _ z)) fun ⟨o, z⟩ => .inr ⟨o, s _ _ z⟩)) .inr
theorem ok_random (T : LawT K mg) : FnE P w K mg base CX0 1 ("_law_random", none) ["_law_script", "_law_salt"] (spRandom K) := by
  obtain ⟨fd, F⟩ := T.random.d
  refine ⟨fd, F.ok sc_random (fun vs H Q E h => ?_) (fun cdv A outer s H vs Q E hr h => ?_), F.bindsN fun _ _ _ _ _ _ us hl => match us, hl with | [_, _], _ => rfl, F.kp⟩
  · obtain ⟨sc, salt, ns, rfl, _⟩ := h
    rfl
  · obtain ⟨sc, salt, ns, rfl, hs, hl, k⟩ := h
    refine ⟨_, PSs.nox (pss_cons (ps_set (i := 2) sc_random.nd rfl (.inl rfl) (pv 1))
      (pss_cons (ps_for PassesOwn.never rfl (pi_list (pv 0)) (pg_name (i := 3) sc_random.nd rfl (.inl rfl))
        (pss_one (ps_set (i := 2) sc_random.nd rfl (.inl rfl) (pe_op op_mod (pe_op op_add (pe_op op_mul (pv 2) pe_int) (pe_callB call_abs (by rfl) T.abs (by decide +kernel) (pa_cons (pv 3) pa_nil))) pe_int))))
      (pss_one (ps_ret (pe_op op_cat (pe_lst (pa_cons (pv 2) (pa_cons pe_int pa_nil)))
        (pe_lc (own := [("_law_cell", 3)]) (g := gName 3) (te := tVar 3) rfl sc_random.nd (pi_list (pv 0)) (blkOk_by (own := [("_law_cell", 3)]) (N := raN) (sc := defScope s__law_random) (by decide +kernel))
          (fun _ _ _ _ _ => pg_name (i := 3) sc_random.nd rfl (Or.inl rfl)) (fun _ _ _ _ _ => pts_one (pt_cmpR op_ge (pv 3) (pe_op op_pow pe_int pe_int) (nomark _))) (fun _ _ _ _ _ => pv 3))))))), ?_⟩
    refine ⟨_, rfl, ?_⟩
    refine ⟨_, rfl, sc, rfl, ⟨_, hs⟩, ?_⟩
    refine for_list (K := K) (a := sc) (xs := ns.map V.int) (fun i σ H2 => H2 = H ∧ ∃ (z : Int) (o : Option V), σ = [some (.ref sc), some (.int salt), some (.int z), o]) ⟨rfl, salt, none, rfl⟩ (fun i σ H2 _ h => by rw [h.1]; exact hs) ?_ ?_
    · rintro i x σ H2 hx ⟨rfl, z, o, rfl⟩
      rw [List.getElem?_map] at hx
      cases hn : ns[i]? with
      | none => rw [hn] at hx; cases hx
      | some m =>
        rw [hn] at hx
        cases hx
        exact ⟨_, rfl, _, _, rfl, rfl, .inr (by decide), _, rfl, _, rfl, _, _, rfl, rfl, _, _, rfl, rfl, (by show (0 : Int) < 2147483647; decide), rfl, _, _, rfl⟩
    · rintro σ H2 ⟨rfl, z, o, rfl⟩
      refine ⟨_, rfl, (by show 2 ≤ sizeLine; decide), fun l1 nl1 => ?_⟩
      have s1 := sameUpd (o := .lst [.int z, .int 0]) (Same.refl H2) nl1
      have hl1 := @upd_same H2 l1 (.lst [.int z, .int 0])
      generalize upd H2 l1 (.lst [.int z, .int 0]) = H3 at *
      refine ⟨_, rfl, sc, rfl, ⟨_, sqL_same s1 hs⟩, fun D nD => ?_⟩
      refine lc_list (K := K) (a := sc) (xs := ns.map V.int) (vs := [3]) (fun i H4 => ∃ bs : List Int, bs.length ≤ i ∧ H4 D = some (.lst (bs.map V.int)) ∧ Same H3 H4) ⟨[], Nat.le_refl _, upd_same, sameUpd (Same.refl H3) nD⟩ (fun i H4 _ ⟨_, _, _, sm⟩ => sqL_same sm (sqL_same s1 hs)) ?_ ?_
      · rintro i x H4 hx ⟨bs, hb, hD, sm⟩
        rw [List.getElem?_map] at hx
        cases hn : ns[i]? with
        | none => rw [hn] at hx; cases hx
        | some m =>
          rw [hn] at hx
          cases hx
          have hi : i < ns.length := (List.getElem?_eq_some_iff.mp hn).1
          refine ⟨rfl, _, rfl, _, _, rfl, rfl, ⟨by decide, by decide, by decide⟩, _, _, rfl, rfl, _, rfl, ?_⟩
          refine ite2 (fun h => ?_) (fun h => ?_)
          · refine ⟨_, rfl, _, hD, ?_, bs ++ [m], by simp; omega, ?_, sameUpd sm nD⟩
            · rw [List.length_map, sizeLine_eq]
              omega
            · rw [upd_same, List.map_append]
              rfl
          · exact ⟨bs, by omega, hD, sm⟩
      · rintro H4 ⟨bs, hb, hD, sm⟩
        rw [List.length_map] at hb
        refine ⟨l1, D, _, _, rfl, rfl, sm _ _ hl1, hD, ?_, fun d nd => ?_⟩
        · rw [List.length_map, sizeLine_eq]
          simp
          omega
        · have s4 := sameUpd (o := .lst ([.int z, .int 0] ++ bs.map V.int)) (Same.refl H4) nd
          exact k d _ ((s1.trans sm).free nd) ((s1.trans sm).trans s4) ⟨z, 0, bs, by omega, upd_same⟩
end
theorem Drawn.put {d : Addr} {H H' : Hp} {x : Addr} {o : HO} (h : Drawn d H H') (hx : H x = none) (nd : x ≠ d) : Drawn d H (upd H' x o) :=
  ⟨fun b u hb e => by
    rw [upd_ne (ne_of_none e hx)]
    exact h.same b u hb e, let ⟨s, c, bs, hl, e⟩ := h.at_; ⟨s, c, bs, hl, (upd_ne (Ne.symm nd)).trans e⟩⟩
theorem Drawn.draw {d : Addr} {H H' : Hp} {s c : Int} {bs : List Int} (h : Drawn d H H') (hl : bs.length ≤ 63) : Drawn d H (upd H' d (drawL s c bs)) :=
  ⟨fun b u hb e => by
    rw [upd_ne hb]
    exact h.same b u hb e, ⟨s, c, bs, hl, upd_same⟩⟩
end Sw

end

section
set_option maxRecDepth 100000
set_option maxHeartbeats 4000000
/-! texts that are read without a fault: the lexer -/
namespace Sw
open PySem
abbrev KT := Kd × Cs
def kt (t : Tk) : KT := (t.kind, t.text)
def dec (n : Nat) : Cs := if n < 10 then [48 + n] else [48 + n / 10, 48 + n % 10]
/-- a word of letters -/
def Wd (w : Cs) : Prop := (∀ c ∈ w, isL c = true) ∧ 1 ≤ w.length ∧ w.length ≤ 8
/-- digits, at most two, no zero ahead -/
def Nm (w : Cs) : Prop := (∀ c ∈ w, isD c = true) ∧ 1 ≤ w.length ∧ w.length ≤ 2 ∧ (w.length = 1 ∨ w.head? ≠ some 48)
def kdOf (w : Cs) : Kd := match w with
  | [] => .name
  | c :: _ => if isD c = true then .number else if w ∈ kws then .keyword else .name
def ktOf (w : Cs) : KT := (kdOf w, w)
theorem tw_app {p : Nat → Bool} {w : Cs} {r : Cs} (h : ∀ c ∈ w, p c = true) (hr : ∀ c, r.head? = some c → p c = false) : (w ++ r).takeWhile p = w := by
  induction w with
  | nil =>
    cases r with
    | nil => rfl
    | cons c r => simp [hr c rfl]
  | cons a w ih =>
    have ha : p a = true := h a List.mem_cons_self
    simp only [List.cons_append, List.takeWhile_cons, ha, if_true]
    rw [ih fun c hc => h c (List.mem_cons_of_mem _ hc)]
theorem isL_isD {c : Nat} (h : isL c = true) : isD c = false := by
  unfold isL at h
  unfold isD
  rw [Bool.and_eq_true, Nat.ble_eq, Nat.ble_eq] at h
  cases e : (Nat.ble 48 c && Nat.ble c 57) with
  | false => rfl
  | true =>
    rw [Bool.and_eq_true, Nat.ble_eq, Nat.ble_eq] at e
    omega
theorem isL_ne {c : Nat} (h : isL c = true) : c ≠ 59 ∧ isS c = false := by
  unfold isL at h
  rw [Bool.and_eq_true, Nat.ble_eq, Nat.ble_eq] at h
  refine ⟨by omega, ?_⟩
  unfold isS
  have h1 : (c == 32) = false := by simp; omega
  have h2 : (c == 10) = false := by simp; omega
  rw [h1, h2]
  rfl
theorem isD_ne {c : Nat} (h : isD c = true) : c ≠ 59 ∧ isS c = false := by
  unfold isD at h
  rw [Bool.and_eq_true, Nat.ble_eq, Nat.ble_eq] at h
  refine ⟨by omega, ?_⟩
  unfold isS
  have h1 : (c == 32) = false := by simp; omega
  have h2 : (c == 10) = false := by simp; omega
  rw [h1, h2]
  rfl
/-- what may stand behind a word -/
def Brk (r : Cs) : Prop := ∀ c, r.head? = some c → isL c = false ∧ isD c = false
theorem read_word {line col : Nat} {w r : Cs} (hw : Wd w ∨ Nm w) (hr : Brk r) : readTok line col (w ++ r) = some ⟨kdOf w, w, line, col⟩ := by
  rcases hw with ⟨h1, h2, h3⟩ | ⟨h1, h2, h3, h4⟩
  · cases w with
    | nil => simp at h2
    | cons c w =>
      have hc := h1 c List.mem_cons_self
      have tw : ((c :: w) ++ r).takeWhile isL = c :: w := tw_app h1 fun x hx => (hr x hx).1
      have e : (c :: w) ++ r = c :: (w ++ r) := rfl
      rw [e] at tw ⊢
      simp only [readTok, if_neg (isL_ne hc).1, isL_isD hc, tw, kdOf]
      by_cases hk : (c :: w) ∈ kws
      · simp [hk]
      · have hp : 1 ≤ (c :: w).length ∧ (c :: w).length ≤ 8 := ⟨h2, h3⟩
        simp only [hk, hp, if_true, if_false, Bool.false_eq_true, and_self]
  · cases w with
    | nil => simp at h2
    | cons c w =>
      have hc := h1 c List.mem_cons_self
      have tw : ((c :: w) ++ r).takeWhile isD = c :: w := tw_app h1 fun x hx => (hr x hx).2
      have e : (c :: w) ++ r = c :: (w ++ r) := rfl
      rw [e] at tw ⊢
      simp only [readTok, if_neg (isD_ne hc).1, hc, tw, kdOf, if_true]
      rw [if_neg]
      rintro (q | ⟨q1, q2⟩)
      · omega
      · rcases h4 with z | z
        · omega
        · exact z (by rw [q2]; rfl)
theorem lex_word {line col f : Nat} {w r : Cs} {ts : List Tk} (hw : Wd w ∨ Nm w) (hr : Brk r) (h : lexRow line f (col + w.length) r = .ok ts) : lexRow line (f + 1) col (w ++ r) = .ok (⟨kdOf w, w, line, col⟩ :: ts) := by
  have rd := read_word (line := line) (col := col) hw hr
  cases w with
  | nil => rcases hw with ⟨_, q, _⟩ | ⟨_, q, _⟩ <;> simp at q
  | cons c w =>
    have hs : isS c = false := by
      rcases hw with ⟨q, _⟩ | ⟨q, _⟩
      · exact (isL_ne (q c List.mem_cons_self)).2
      · exact (isD_ne (q c List.mem_cons_self)).2
    have e : (c :: w) ++ r = c :: (w ++ r) := rfl
    rw [e] at rd ⊢
    simp only [lexRow, hs, rd]
    have ed : (c :: (w ++ r)).drop (c :: w).length = r := by rw [← e, List.drop_left]
    rw [ed, h]
    rfl
theorem lex_space {line col f c : Nat} {r : Cs} (hs : isS c = true) : lexRow line (f + 1) col (c :: r) = lexRow line f (col + 1) r := by
  simp only [lexRow, hs, if_true]
theorem lex_semi {line col f : Nat} {r : Cs} {ts : List Tk} (h : lexRow line f (col + 1) r = .ok ts) : lexRow line (f + 1) col (59 :: r) = .ok (⟨.sign, [59], line, col⟩ :: ts) := by
  have e : readTok line col (59 :: r) = some ⟨.sign, [59], line, col⟩ := rfl
  have hs : isS 59 = false := rfl
  simp only [lexRow, hs, e]
  show (match lexRow line f (col + 1) r with | .error e => Except.error e | .ok ts => .ok (_ :: ts)) = _
  rw [h]
/-! ### a line: words with a space between, then ; -/
def wordsOf : List Cs → Cs
  | [] => []
  | [w] => w
  | w :: r => w ++ 32 :: wordsOf r
def lineOf (ws : List Cs) : Cs := wordsOf ws ++ [59]
theorem brk_semi {r : Cs} : Brk (59 :: r) := fun c h => by
  cases h
  exact ⟨rfl, rfl⟩
theorem brk_space {r : Cs} : Brk (32 :: r) := fun c h => by
  cases h
  exact ⟨rfl, rfl⟩
theorem lex_line {line : Nat} : ∀ {ws : List Cs} {f col : Nat}, ws ≠ [] → (∀ w ∈ ws, Wd w ∨ Nm w) → (lineOf ws).length ≤ f → ∃ T, lexRow line f col (lineOf ws) = .ok T ∧ T.map kt = ws.map ktOf ++ [(.sign, wSemi)]
  | [], _, _, h, _, _ => absurd rfl h
  | [w], f, col, _, hw, hf => by
    have hw1 := hw w List.mem_cons_self
    have hl : (lineOf [w]).length = w.length + 1 := by simp [lineOf, wordsOf]
    obtain ⟨f', rfl⟩ : ∃ f', f = f' + 1 + 1 := ⟨f - 2, by rcases hw1 with ⟨_, q, _⟩ | ⟨_, q, _⟩ <;> omega⟩
    have e1 : lexRow line (f' + 1) (col + w.length) [59] = .ok [⟨.sign, [59], line, col + w.length⟩] := by
      refine lex_semi ?_
      cases f' <;> rfl
    exact ⟨_, lex_word hw1 brk_semi e1, rfl⟩
  | w :: w2 :: ws, f, col, _, hw, hf => by
    have hw1 := hw w List.mem_cons_self
    have e : lineOf (w :: w2 :: ws) = w ++ 32 :: lineOf (w2 :: ws) := by
      show (w ++ 32 :: wordsOf (w2 :: ws)) ++ [59] = _
      rw [List.append_assoc]
      rfl
    rw [e] at hf ⊢
    rw [List.length_append, List.length_cons] at hf
    obtain ⟨f', rfl⟩ : ∃ f', f = f' + 1 + 1 := ⟨f - 2, by rcases hw1 with ⟨_, q, _⟩ | ⟨_, q, _⟩ <;> omega⟩
    have hf2 : (lineOf (w2 :: ws)).length ≤ f' := by rcases hw1 with ⟨_, q, _⟩ | ⟨_, q, _⟩ <;> omega
    obtain ⟨T, h1, h2⟩ := lex_line (line := line) (ws := w2 :: ws) (f := f') (col := col + w.length + 1) (by simp) (fun x hx => hw x (List.mem_cons_of_mem _ hx)) hf2
    refine ⟨_, lex_word hw1 brk_space (by rw [lex_space rfl]; exact h1), ?_⟩
    rw [List.map_cons, h2]
    rfl
theorem lex_lines : ∀ {lss : List (List Cs)} {line : Nat}, (∀ ws ∈ lss, ws ≠ [] ∧ ∀ w ∈ ws, Wd w ∨ Nm w) → ∃ T, lexRows line (lss.map lineOf) = .ok T ∧ T.map kt = (lss.map fun ws => ws.map ktOf ++ [(.sign, wSemi)]).flatten
  | [], _, _ => ⟨[], rfl, rfl⟩
  | ws :: lss, line, h => by
    obtain ⟨hne, hw⟩ := h ws List.mem_cons_self
    obtain ⟨T, h1, h2⟩ := lex_line (line := line) (col := 0) hne hw (Nat.le_refl _)
    obtain ⟨U, h3, h4⟩ := lex_lines (lss := lss) (line := line + 1) fun x hx => h x (List.mem_cons_of_mem _ hx)
    refine ⟨T ++ U, ?_, ?_⟩
    · show (match lexRow line (lineOf ws).length 0 (lineOf ws) with | .error e => Except.error e | .ok ts => match lexRows (line + 1) (lss.map lineOf) with | .error e => .error e | .ok us => .ok (ts ++ us)) = _
      rw [h1, h3]
    · rw [List.map_append, h2, h4]
      rfl
theorem no10_line : ∀ {ws : List Cs}, (∀ w ∈ ws, Wd w ∨ Nm w) → 10 ∉ lineOf ws := by
  have key : ∀ {ws : List Cs}, (∀ w ∈ ws, Wd w ∨ Nm w) → 10 ∉ wordsOf ws := by
    intro ws
    induction ws with
    | nil => intro _ h; cases h
    | cons w ws ih =>
      intro hw h
      have h10 : 10 ∉ w := fun z => by
        rcases hw w List.mem_cons_self with ⟨q, _⟩ | ⟨q, _⟩
        · exact absurd (q 10 z) (by decide)
        · exact absurd (q 10 z) (by decide)
      cases ws with
      | nil => exact h10 h
      | cons w2 ws =>
        rcases List.mem_append.mp h with z | z
        · exact h10 z
        · rcases List.mem_cons.mp z with y | y
          · exact absurd y (by decide)
          · exact ih (fun x hx => hw x (List.mem_cons_of_mem _ hx)) y
  intro ws hw h
  rcases List.mem_append.mp h with z | z
  · exact key hw z
  · exact absurd (List.mem_singleton.mp z) (by decide)
/-- a text of such lines -/
theorem tokenize_lines {lss : List (List Cs)} (hne : lss ≠ []) (h : ∀ ws ∈ lss, ws ≠ [] ∧ ∀ w ∈ ws, Wd w ∨ Nm w) :
    ∃ T, tokenize (TL.joinL [10] (lss.map lineOf)) = .ok T ∧ T.map kt = (lss.map fun ws => ws.map ktOf ++ [(Kd.sign, wSemi)]).flatten ++ [(.fin, [])] := by
  have hr : rowsOf (TL.joinL [10] (lss.map lineOf)) = lss.map lineOf := TL.spl_join (by simpa using hne) (by
    intro p hp
    obtain ⟨ws, hws, rfl⟩ := List.mem_map.mp hp
    exact no10_line (h ws hws).2)
  obtain ⟨T, h1, h2⟩ := lex_lines (line := 0) h
  refine ⟨T ++ [⟨.fin, [], (lss.map lineOf).length, 0⟩], ?_, ?_⟩
  · unfold tokenize
    rw [hr, h1]
  · rw [List.map_append, h2]
    rfl
end Sw

end

section
set_option maxRecDepth 100000
set_option maxHeartbeats 4000000
/-! texts that are read without a fault: the parser -/
namespace Sw
open PySem
/-- what is still to be read -/
def Rest (T : List Tk) (st : PSt) (l : List KT) : Prop := (T.map kt).drop st.at_ = l
section
variable {T : List Tk} {st : PSt} {k : Kd} {w : Cs} {l : List KT}
theorem Rest.cons (h : Rest T st ((k, w) :: l)) : (peek T st).kind = k ∧ (peek T st).text = w ∧ Rest T st.next l := by
  have e0 : (T.map kt)[st.at_]? = some (k, w) := by
    have := congrArg List.head? h
    rw [List.head?_drop] at this
    exact this
  rw [List.getElem?_map] at e0
  cases ht : T[st.at_]? with
  | none => rw [ht] at e0; cases e0
  | some t =>
    rw [ht] at e0
    have e1 : kt t = (k, w) := Option.some.inj e0
    have ep : peek T st = t := by
      unfold peek
      rw [List.getD_eq_getElem?_getD, ht]
      rfl
    refine ⟨by rw [ep]; exact congrArg Prod.fst e1, by rw [ep]; exact congrArg Prod.snd e1, ?_⟩
    show (T.map kt).drop (st.at_ + 1) = l
    have := congrArg List.tail h
    rw [List.tail_drop] at this
    exact this
theorem Rest.of_at {st2 : PSt} (h : Rest T st l) (e : st2.at_ = st.at_) : Rest T st2 l := by
  unfold Rest at *
  rw [e]
  exact h
theorem take_ok' (h : Rest T st ((k, w) :: l)) : ∃ t, take T k st = .ok (t, st.next) ∧ t.text = w ∧ Rest T st.next l := by
  obtain ⟨h1, h2, h3⟩ := h.cons
  exact ⟨peek T st, by unfold take; rw [if_pos h1], h2, h3⟩
theorem word_ok (h : Rest T st ((k, w) :: l)) : ∃ t, takeWord T w st = .ok (t, st.next) ∧ t.text = w ∧ Rest T st.next l := by
  obtain ⟨h1, h2, h3⟩ := h.cons
  exact ⟨peek T st, by unfold takeWord; rw [if_pos h2], h2, h3⟩
theorem kw_ok {ws : List Cs} (h : Rest T st ((.keyword, w) :: l)) (hw : w ∈ ws) : ∃ t, takeKw T ws st = .ok (t, st.next) ∧ t.text = w ∧ Rest T st.next l := by
  obtain ⟨h1, h2, h3⟩ := h.cons
  exact ⟨peek T st, by unfold takeKw; rw [if_pos ⟨h1, by rw [h2]; exact hw⟩], h2, h3⟩
end
/-- all but the place -/
def PSt.at' (st : PSt) (n : Nat) : PSt := { st with at_ := n }
/-! ### names -/
def pushAll (b : Bool) (ws : List Cs) (st : PSt) : PSt := if b then { st with moods := st.moods ++ ws } else { st with signs := st.signs ++ ws }
theorem more_names {T : List Tk} {k : Kd} {w : Cs} {l : List KT} (hk : k ≠ .name) : ∀ {ws : List Cs} {f : Nat} {st : PSt} {acc : List Tk}, Rest T st (ws.map (fun w => (Kd.name, w)) ++ (k, w) :: l) → ws.length ≤ f →
    ∃ ts : List Tk, moreNames T f st acc = (acc ++ ts, { st with at_ := st.at_ + ws.length }) ∧ ts.map (·.text) = ws
  | [], f, st, acc, h, hf => by
    obtain ⟨h1, _, _⟩ := h.cons
    cases f with
    | zero => exact ⟨[], by simp [moreNames], rfl⟩
    | succ f => exact ⟨[], by simp only [moreNames]; rw [if_neg (by rw [h1]; exact hk)]; simp, rfl⟩
  | x :: ws, f, st, acc, h, hf => by
    obtain ⟨h1, h2, h3⟩ := h.cons
    obtain ⟨f', rfl⟩ : ∃ f', f = f' + 1 := ⟨f - 1, by simp at hf; omega⟩
    obtain ⟨ts, e1, e2⟩ := more_names hk (ws := ws) (f := f') (st := st.next) (acc := acc ++ [peek T st]) h3 (by simpa using hf)
    refine ⟨peek T st :: ts, ?_, by simp [h2, e2]⟩
    simp only [moreNames]
    rw [if_pos h1, e1]
    simp [PSt.next, Nat.add_comm, Nat.add_left_comm]
theorem add_names {b : Bool} : ∀ {ts : List Tk} {st : PSt}, (ts.map (·.text)).Nodup → (∀ w ∈ ts.map (·.text), w ∉ st.names b) → (st.names b).length + ts.length ≤ mostOf b →
    ts.foldl (addName b) st = pushAll b (ts.map (·.text)) st
  | [], st, _, _, _ => by cases b <;> simp [pushAll]
  | t :: ts, st, hn, hm, hl => by
    have h1 : addName b st t = st.push b t.text := by
      unfold addName
      rw [if_neg (hm t.text (by simp)), if_neg (by simp at hl; omega)]
    rw [List.foldl_cons, h1]
    rw [List.map_cons, List.nodup_cons] at hn
    have e2 : (st.push b t.text).names b = st.names b ++ [t.text] := by cases b <;> rfl
    rw [add_names hn.2 (by
      intro w hw
      rw [e2]
      intro z
      rcases List.mem_append.mp z with y | y
      · exact hm w (List.mem_cons_of_mem _ hw) y
      · exact hn.1 (List.mem_singleton.mp y ▸ hw)) (by rw [e2, List.length_append]; simp at hl ⊢; omega)]
    cases b <;> simp [pushAll, PSt.push]
theorem names_ok {T : List Tk} {b : Bool} {st : PSt} {ws : List Cs} {k0 k1 : Kd} {l : List KT} (h : Rest T st ((k0, wordOf b) :: (ws.map (fun w => (Kd.name, w)) ++ (k1, wSemi) :: l))) (hk : k1 ≠ .name) (hne : ws ≠ []) (hT : ws.length ≤ T.length) (hn : ws.Nodup) (hm : (st.names b) = []) (hl : ws.length ≤ mostOf b) :
    ∃ st2, parseNames T b st = .ok ((), st2) ∧ st2 = { pushAll b ws st with at_ := st.at_ + ws.length + 2 } ∧ Rest T st2 l := by
  cases ws with
  | nil => exact absurd rfl hne
  | cons x ws =>
    obtain ⟨t1, e1, _, r1⟩ := word_ok h
    obtain ⟨t2, e2, x2, r2⟩ := take_ok' r1
    obtain ⟨ts, e3, x3⟩ := more_names (T := T) hk (ws := ws) (f := T.length) (st := st.next.next) (acc := [t2]) r2 (by simp at hT; omega)
    have r3 : Rest T { st.next.next with at_ := st.next.next.at_ + ws.length } ((k1, wSemi) :: l) := by
      have r2' : (T.map kt).drop st.next.next.at_ = ws.map (fun w => (Kd.name, w)) ++ (k1, wSemi) :: l := r2
      show (T.map kt).drop (st.next.next.at_ + ws.length) = _
      rw [← List.drop_drop, r2']
      have : ws.length = (ws.map (fun w => (Kd.name, w))).length := by simp
      rw [this, List.drop_left]
    obtain ⟨t4, e4, _, r4⟩ := word_ok r3
    have ets : ([t2] ++ ts).map (·.text) = x :: ws := by simp [x2, x3]
    refine ⟨_, ?_, rfl, ?_⟩
    · unfold parseNames
      simp only [e1, e2, e3, e4]
      rw [add_names (by rw [ets]; exact hn) (by
        intro w _ z
        have : (PSt.next { st.next.next with at_ := st.next.next.at_ + ws.length }).names b = st.names b := by cases b <;> rfl
        rw [this, hm] at z
        cases z) (by
        have : (PSt.next { st.next.next with at_ := st.next.next.at_ + ws.length }).names b = st.names b := by cases b <;> rfl
        rw [this, hm]
        have : ([t2] ++ ts).length = (x :: ws).length := by rw [← ets, List.length_map]
        rw [this]
        simpa using hl), ets]
      cases b <;> simp [pushAll, PSt.next, Nat.add_assoc, Nat.add_comm, Nat.add_left_comm]
    · refine r4.of_at ?_
      simp [PSt.next]
      omega
end Sw

end

section
set_option maxRecDepth 100000
set_option maxHeartbeats 4000000
/-! texts that are read without a fault: the statements -/
namespace Sw
open PySem
inductive Stm
  | robot (t : Nat) (r : Bool)
  | put (g tile : Nat)
  | rule (k : Nat × Nat) (r : Rule)
def wayOf (r : Bool) : Cs := if r then wRight else wLeft
def stmW (signs moods : List Cs) : Stm → List Cs
  | .robot t r => [wRobot, dec t, wayOf r]
  | .put g t => [wPut, signs.getD g [], dec t]
  | .rule k r => [wWhen, moods.getD k.1 [], signs.getD k.2 [], wLeave, signs.getD r.left [], r.move, moods.getD r.later []]
def stmKT (signs moods : List Cs) (s : Stm) : List KT := (stmW signs moods s).map ktOf ++ [(.sign, wSemi)]
/-- a name: a word, no keyword -/
def NameOk (w : Cs) : Prop := Wd w ∧ w ∉ kws
structure NamesOk (ws : List Cs) : Prop where
  nd : ws.Nodup
  ok : ∀ w ∈ ws, NameOk w
theorem kd_name {w : Cs} (h : NameOk w) : kdOf w = .name := by
  obtain ⟨⟨h1, h2, _⟩, h3⟩ := h
  cases w with
  | nil => simp at h2
  | cons c w =>
    have := isL_isD (h1 c List.mem_cons_self)
    simp only [kdOf, this, if_neg h3]
    rfl
theorem dec_nm {n : Nat} (h : n < 100) : Nm (dec n) ∧ kdOf (dec n) = .number ∧ numVal (dec n) = n := by
  have key : ∀ n, n < 100 → ((dec n).all isD && (decide (1 ≤ (dec n).length) && (decide ((dec n).length ≤ 2) && ((decide ((dec n).length = 1) || decide ((dec n).head? ≠ some 48)) && (decide (kdOf (dec n) = .number) && decide (numVal (dec n) = n)))))) = true := by decide +kernel
  have := key n h
  simp only [Bool.and_eq_true, Bool.or_eq_true, decide_eq_true_eq, List.all_eq_true] at this
  exact ⟨⟨this.1, this.2.1, this.2.2.1, this.2.2.2.1⟩, this.2.2.2.2.1, this.2.2.2.2.2⟩
theorem getD_in {ws : List Cs} {g : Nat} (h : g < ws.length) : ws.getD g [] ∈ ws := by
  rw [List.getD_eq_getElem?_getD, List.getElem?_eq_getElem h]
  exact List.getElem_mem h
theorem num_ok {ws : List Cs} {g : Nat} {t : Tk} {st : PSt} (hn : ws.Nodup) (hg : g < ws.length) (ht : t.text = ws.getD g []) : numberOf ws t st = (g, st) := by
  unfold numberOf
  rw [if_pos (by rw [ht]; exact getD_in hg), ht]
  have : ws.getD g [] = ws[g] := by rw [List.getD_eq_getElem?_getD, List.getElem?_eq_getElem hg]; rfl
  rw [this, List.Nodup.idxOf_getElem hn]
def applyS (signs moods : List Cs) (st : PSt) : Stm → PSt
  | .robot t r => { st with robots := st.robots ++ [(t, r)] }
  | .put g t => { st with spots := st.spots ++ [(t, g)] }
  | .rule k r => { st with pairs := st.pairs ++ [(moods.getD k.1 [], signs.getD k.2 [])], rules := st.rules ++ [(k, r)] }
/-- a statement that fits -/
def StmOk (tiles : Nat) (signs moods : List Cs) (st : PSt) : Stm → Prop
  | .robot t _ => t < tiles ∧ st.robots.length < 3
  | .put g t => t < tiles ∧ g < signs.length ∧ ∀ q ∈ st.spots, q.1 ≠ t
  | .rule k r => k.1 < moods.length ∧ k.2 < signs.length ∧ r.left < signs.length ∧ r.later < moods.length ∧ r.move ∈ moves ∧ (moods.getD k.1 [], signs.getD k.2 []) ∉ st.pairs ∧ ∀ q ∈ st.rules, q.1 ≠ k
theorem putA_new {κ α : Type} [DecidableEq κ] {l : List (κ × α)} {k : κ} {v : α} (h : ∀ q ∈ l, q.1 ≠ k) : putA l k v = l ++ [(k, v)] := by
  unfold putA
  rw [if_neg]
  intro z
  obtain ⟨q, hq, e⟩ := List.any_eq_true.mp z
  exact h q hq (of_decide_eq_true e)
theorem move_kd {w : Cs} (h : w ∈ moves) : kdOf w = .keyword := by
  have : ∀ w ∈ moves, kdOf w = .keyword := by decide +kernel
  exact this w h
theorem way_kd (r : Bool) : kdOf (wayOf r) = .keyword ∧ wayOf r ∈ ways ∧ (decide (wayOf r = wRight)) = r := by cases r <;> decide +kernel
section
variable {T : List Tk} {tiles : Nat} {st : PSt} {l : List KT}
theorem tile_ok {t : Nat} (h : Rest T st (ktOf (dec t) :: l)) (ht : t < tiles) (h99 : t < 100) : tileOf T tiles st = .ok (t, st.next) ∧ Rest T st.next l := by
  obtain ⟨_, hk, hv⟩ := dec_nm h99
  have h' : Rest T st ((.number, dec t) :: l) := by rw [← hk]; exact h
  obtain ⟨tk, e1, e2, e3⟩ := take_ok' h'
  refine ⟨?_, e3⟩
  unfold tileOf
  simp only [e1, e2, hv]
  rw [if_neg (by omega)]
theorem robot_ok {signs moods : List Cs} {t : Nat} {r : Bool} (h : Rest T st (stmKT signs moods (.robot t r) ++ l)) (ht : t < tiles) (h16 : tiles ≤ 16) (hr : st.robots.length < 3) :
    ∃ st2, parseRobot T tiles st = .ok ((), st2) ∧ st2 = { applyS signs moods st (.robot t r) with at_ := st.at_ + 4 } ∧ Rest T st2 l := by
  obtain ⟨t1, e1, _, r1⟩ := word_ok (k := kdOf wRobot) (w := wRobot) h
  obtain ⟨e2, r2⟩ := tile_ok (tiles := tiles) (t := t) r1 ht (by omega)
  obtain ⟨w1, w2, w3⟩ := way_kd r
  have r2' : Rest T st.next.next ((.keyword, wayOf r) :: (.sign, wSemi) :: l) := by
    have : ktOf (wayOf r) = (.keyword, wayOf r) := by unfold ktOf; rw [w1]
    rw [← this]
    exact r2
  obtain ⟨t3, e3, x3, r3⟩ := kw_ok r2' w2
  obtain ⟨t4, e4, _, r4⟩ := word_ok r3
  refine ⟨_, ?_, rfl, r4.of_at rfl⟩
  unfold parseRobot
  have hn : ¬ st.next.robots.length = 3 := by
    show ¬ st.robots.length = 3
    omega
  simp only [e1, if_neg hn, e2, e3, e4, x3, w3]
  rfl
theorem put_ok {moods : List Cs} {g t : Nat} (hN : NamesOk st.signs) (h : Rest T st (stmKT st.signs moods (.put g t) ++ l)) (h16 : tiles ≤ 16) (ho : StmOk tiles st.signs moods st (.put g t)) :
    ∃ st2, parsePut T tiles st = .ok ((), st2) ∧ st2 = { applyS st.signs moods st (.put g t) with at_ := st.at_ + 4 } ∧ Rest T st2 l := by
  obtain ⟨ht, hg, hno⟩ := ho
  obtain ⟨t1, e1, _, r1⟩ := word_ok (k := kdOf wPut) (w := wPut) h
  have r1' : Rest T st.next ((.name, st.signs.getD g []) :: ktOf (dec t) :: (.sign, wSemi) :: l) := by
    have : ktOf (st.signs.getD g []) = (.name, st.signs.getD g []) := by unfold ktOf; rw [kd_name (hN.ok _ (getD_in hg))]
    rw [← this]
    exact r1
  obtain ⟨t2, e2, x2, r2⟩ := take_ok' r1'
  have en : ∀ s : PSt, numberOf st.signs t2 s = (g, s) := fun s => num_ok hN.nd hg x2
  obtain ⟨e3, r3⟩ := tile_ok (tiles := tiles) (t := t) r2 ht (by omega)
  obtain ⟨t4, e4, _, r4⟩ := word_ok r3
  refine ⟨_, ?_, rfl, r4.of_at rfl⟩
  unfold parsePut
  simp only [e1, e2]
  have en2 : numberOf st.next.next.signs t2 st.next.next = (g, st.next.next) := en _
  simp only [en2, e3, e4]
  have hany : (st.next.next.next.next.spots.any fun kv => decide (kv.1 = t)) = false := by
    show (st.spots.any fun kv => decide (kv.1 = t)) = false
    rw [List.any_eq_false]
    intro q hq z
    exact hno q hq (of_decide_eq_true z)
  rw [hany]
  have ep : putA st.spots t g = st.spots ++ [(t, g)] := putA_new hno
  simp only [Bool.false_eq_true, if_false]
  show Except.ok ((), { st.next.next.next.next with spots := putA st.spots t g }) = _
  rw [ep]
  rfl
theorem rule_ok {k : Nat × Nat} {r : Rule} (hN : NamesOk st.signs) (hM : NamesOk st.moods) (h : Rest T st (stmKT st.signs st.moods (.rule k r) ++ l)) (ho : StmOk tiles st.signs st.moods st (.rule k r)) :
    ∃ st2, parseRule T st = .ok ((), st2) ∧ st2 = { applyS st.signs st.moods st (.rule k r) with at_ := st.at_ + 8 } ∧ Rest T st2 l := by
  obtain ⟨hk1, hk2, hl, hla, hm, hp, hno⟩ := ho
  have nm : ∀ g, g < st.signs.length → ktOf (st.signs.getD g []) = (.name, st.signs.getD g []) := fun g hg => by unfold ktOf; rw [kd_name (hN.ok _ (getD_in hg))]
  have nm2 : ∀ g, g < st.moods.length → ktOf (st.moods.getD g []) = (.name, st.moods.getD g []) := fun g hg => by unfold ktOf; rw [kd_name (hM.ok _ (getD_in hg))]
  have km : ktOf r.move = (.keyword, r.move) := by unfold ktOf; rw [move_kd hm]
  have h0 : Rest T st (ktOf wWhen :: ktOf (st.moods.getD k.1 []) :: ktOf (st.signs.getD k.2 []) :: ktOf wLeave :: ktOf (st.signs.getD r.left []) :: ktOf r.move :: ktOf (st.moods.getD r.later []) :: (.sign, wSemi) :: l) := h
  rw [nm2 _ hk1, nm _ hk2, nm _ hl, nm2 _ hla, km] at h0
  obtain ⟨t1, e1, _, r1⟩ := word_ok (k := kdOf wWhen) (w := wWhen) h0
  obtain ⟨t2, e2, x2, r2⟩ := take_ok' r1
  have n2 : numberOf st.next.next.moods t2 st.next.next = (k.1, st.next.next) := num_ok hM.nd hk1 x2
  obtain ⟨t3, e3, x3, r3⟩ := take_ok' r2
  have n3 : numberOf st.next.next.next.signs t3 st.next.next.next = (k.2, st.next.next.next) := num_ok hN.nd hk2 x3
  obtain ⟨t4, e4, _, r4⟩ := word_ok (k := kdOf wLeave) (w := wLeave) r3
  obtain ⟨t5, e5, x5, r5⟩ := take_ok' r4
  have n5 : numberOf st.next.next.next.next.next.signs t5 st.next.next.next.next.next = (r.left, st.next.next.next.next.next) := num_ok hN.nd hl x5
  obtain ⟨t6, e6, x6, r6⟩ := kw_ok r5 hm
  obtain ⟨t7, e7, x7, r7⟩ := take_ok' r6
  have n7 : numberOf st.next.next.next.next.next.next.next.moods t7 st.next.next.next.next.next.next.next = (r.later, st.next.next.next.next.next.next.next) := num_ok hM.nd hla x7
  obtain ⟨t8, e8, _, r8⟩ := word_ok r7
  refine ⟨_, ?_, rfl, r8.of_at rfl⟩
  unfold parseRule
  simp only [e1, e2, n2, e3, n3, e4, e5, n5, e6, e7, n7, e8, x2, x3, x6]
  have hp2 : (st.moods.getD k.1 [], st.signs.getD k.2 []) ∉ st.next.next.next.next.next.next.next.next.pairs := hp
  rw [if_neg hp2, if_neg hp2]
  have ep : putA st.rules k r = st.rules ++ [(k, r)] := putA_new hno
  show Except.ok ((), { st.next.next.next.next.next.next.next.next with pairs := st.pairs ++ [(st.moods.getD k.1 [], st.signs.getD k.2 [])], rules := putA st.rules (k.1, k.2) ⟨r.left, r.move, r.later⟩ }) = _
  have e0 : putA st.rules (k.1, k.2) ⟨r.left, r.move, r.later⟩ = putA st.rules k r := rfl
  rw [e0, ep]
  rfl
end
end Sw

end

section
set_option maxRecDepth 100000
set_option maxHeartbeats 4000000
/-! texts that are read without a fault: the whole -/
namespace Sw
open PySem
def Fits (tiles : Nat) (signs moods : List Cs) : PSt → List Stm → Prop
  | _, [] => True
  | st, s :: r => StmOk tiles signs moods st s ∧ Fits tiles signs moods (applyS signs moods st s) r
theorem apply_at {signs moods : List Cs} {st : PSt} {n : Nat} (s : Stm) : applyS signs moods { st with at_ := n } s = { applyS signs moods st s with at_ := n } := by cases s <;> rfl
theorem Fits.at_ {tiles : Nat} {signs moods : List Cs} : ∀ {ss : List Stm} {st : PSt} {n : Nat}, Fits tiles signs moods st ss → Fits tiles signs moods { st with at_ := n } ss
  | [], _, _, _ => trivial
  | s :: r, st, n, h => by
    refine ⟨?_, ?_⟩
    · have := h.1
      cases s <;> exact this
    · rw [apply_at]
      exact Fits.at_ h.2
theorem fold_at {signs moods : List Cs} : ∀ {ss : List Stm} {st : PSt} {n m : Nat}, { ss.foldl (applyS signs moods) { st with at_ := n } with at_ := m } = { ss.foldl (applyS signs moods) st with at_ := m }
  | [], _, _, _ => rfl
  | s :: r, st, n, m => by
    rw [List.foldl_cons, List.foldl_cons, apply_at]
    exact fold_at
theorem apply_si {signs moods : List Cs} {st : PSt} (s : Stm) : (applyS signs moods st s).signs = st.signs ∧ (applyS signs moods st s).moods = st.moods := by cases s <;> exact ⟨rfl, rfl⟩
section
variable {T : List Tk} {tiles : Nat} {signs moods : List Cs}
theorem stm_ok {st : PSt} {l : List KT} (s : Stm) (e1 : st.signs = signs) (e2 : st.moods = moods) (hN : NamesOk signs) (hM : NamesOk moods) (h16 : tiles ≤ 16) (h : Rest T st (stmKT signs moods s ++ l)) (ho : StmOk tiles signs moods st s) :
    ∃ n, parseStmt T tiles st = .ok ((), { applyS signs moods st s with at_ := n }) ∧ (peek T st).kind ≠ .fin ∧ Rest T { applyS signs moods st s with at_ := n } l := by
  subst e1
  subst e2
  cases s with
  | robot t r =>
    obtain ⟨p1, p2, _⟩ := Rest.cons (k := kdOf wRobot) (w := wRobot) h
    obtain ⟨st2, e, rfl, hr⟩ := robot_ok (tiles := tiles) h ho.1 h16 ho.2
    refine ⟨_, ?_, by rw [p1]; decide, hr⟩
    unfold parseStmt
    rw [if_pos p2]
    exact e
  | put g t =>
    obtain ⟨p1, p2, _⟩ := Rest.cons (k := kdOf wPut) (w := wPut) h
    obtain ⟨st2, e, rfl, hr⟩ := put_ok (tiles := tiles) hN h h16 ho
    refine ⟨_, ?_, by rw [p1]; decide, hr⟩
    unfold parseStmt
    rw [if_neg (by rw [p2]; decide), if_pos p2]
    exact e
  | rule k r =>
    obtain ⟨p1, p2, _⟩ := Rest.cons (k := kdOf wWhen) (w := wWhen) h
    obtain ⟨st2, e, rfl, hr⟩ := rule_ok (tiles := tiles) hN hM h ho
    refine ⟨_, ?_, by rw [p1]; decide, hr⟩
    unfold parseStmt
    rw [if_neg (by rw [p2]; decide), if_neg (by rw [p2]; decide), if_pos p2]
    exact e
theorem stmts_ok (hN : NamesOk signs) (hM : NamesOk moods) (h16 : tiles ≤ 16) : ∀ {ss : List Stm} {f : Nat} {st : PSt}, st.signs = signs → st.moods = moods → Rest T st ((ss.map (stmKT signs moods)).flatten ++ [(.fin, [])]) → Fits tiles signs moods st ss → ss.length ≤ f →
    ∃ n, parseStmts T tiles f st = .ok ((), { ss.foldl (applyS signs moods) st with at_ := n })
  | [], f, st, _, _, h, _, _ => by
    obtain ⟨p1, _, _⟩ := Rest.cons (k := .fin) (w := []) h
    cases f with
    | zero => exact ⟨st.at_, rfl⟩
    | succ f => exact ⟨st.at_, by simp only [parseStmts]; rw [if_pos p1]; rfl⟩
  | s :: r, f, st, e1, e2, h, hf, hl => by
    obtain ⟨f', rfl⟩ : ∃ f', f = f' + 1 := ⟨f - 1, by simp at hl; omega⟩
    have h' : Rest T st (stmKT signs moods s ++ ((r.map (stmKT signs moods)).flatten ++ [(.fin, [])])) := by
      rw [← List.append_assoc]
      exact h
    obtain ⟨n, p1, p2, p3⟩ := stm_ok s e1 e2 hN hM h16 h' hf.1
    obtain ⟨m, q⟩ := stmts_ok hN hM h16 (ss := r) (f := f') (st := { applyS signs moods st s with at_ := n }) ((apply_si s).1.trans e1) ((apply_si s).2.trans e2) p3 (Fits.at_ hf.2) (by simpa using hl)
    refine ⟨m, ?_⟩
    simp only [parseStmts]
    rw [if_neg p2, p1]
    show parseStmts T tiles f' { applyS signs moods st s with at_ := n } = _
    rw [q, fold_at]
    rfl
/-- the lines' words of a plan told by statements -/
def headW (tiles : Nat) (signs moods : List Cs) : List (List Cs) := [[wCorridor, dec tiles], wSigns :: signs, wMoods :: moods]
theorem flat_len {l : List (List KT)} (h : ∀ x ∈ l, x ≠ []) : l.length ≤ l.flatten.length := by
  induction l with
  | nil => simp
  | cons a l ih =>
    have h1 := List.length_pos_iff.mpr (h a List.mem_cons_self)
    have h2 := ih fun x hx => h x (List.mem_cons_of_mem _ hx)
    rw [List.flatten_cons, List.length_append, List.length_cons]
    omega
def stN0 (signs moods : List Cs) : PSt := ⟨0, [], signs, moods, [], [], [], []⟩
theorem parse_ok {t0 : Nat} {r0 : Bool} {ss : List Stm} (hN : NamesOk signs) (hM : NamesOk moods) (hs1 : signs ≠ []) (hm1 : moods ≠ []) (hs4 : signs.length ≤ 4) (hm6 : moods.length ≤ 6) (h1 : 1 ≤ tiles) (h16 : tiles ≤ 16)
    (hT : T.map kt = (((headW tiles signs moods ++ (Stm.robot t0 r0 :: ss).map (stmW signs moods)).map fun ws => ws.map ktOf ++ [(Kd.sign, wSemi)]).flatten) ++ [(.fin, [])])
    (hf : Fits tiles signs moods (stN0 signs moods) (.robot t0 r0 :: ss)) :
    ∃ n, parsePlan T = .ok (tiles, { (Stm.robot t0 r0 :: ss).foldl (applyS signs moods) (stN0 signs moods) with at_ := n }) := by
  have nmS : signs.map ktOf = signs.map (fun w => (Kd.name, w)) := List.map_congr_left fun w hw => by unfold ktOf; rw [kd_name (hN.ok w hw)]
  have nmM : moods.map ktOf = moods.map (fun w => (Kd.name, w)) := List.map_congr_left fun w hw => by unfold ktOf; rw [kd_name (hM.ok w hw)]
  obtain ⟨_, dk, dv⟩ := dec_nm (n := tiles) (by omega)
  have hflat : T.map kt = (kdOf wCorridor, wCorridor) :: (.number, dec tiles) :: (.sign, wSemi) :: (kdOf wSigns, wSigns) :: (signs.map (fun w => (Kd.name, w)) ++ (.sign, wSemi) :: ((kdOf wMoods, wMoods) :: (moods.map (fun w => (Kd.name, w)) ++ (.sign, wSemi) ::
      (stmKT signs moods (.robot t0 r0) ++ ((ss.map (stmKT signs moods)).flatten ++ [(.fin, [])]))))) := by
    rw [hT]
    have e0 : ktOf (dec tiles) = (.number, dec tiles) := by unfold ktOf; rw [dk]
    simp only [headW, List.map_append, List.map_cons, List.map_nil, List.flatten_append, List.flatten_cons, List.flatten_nil, List.append_nil, e0, nmS, nmM, List.map_map]
    have es : (ss.map ((fun ws => ws.map ktOf ++ [(Kd.sign, wSemi)]) ∘ stmW signs moods)) = ss.map (stmKT signs moods) := rfl
    rw [es]
    simp [stmKT, ktOf]
  have hlen : T.length = (T.map kt).length := by simp
  have r0' : Rest T st0 (T.map kt) := rfl
  rw [hflat] at r0'
  obtain ⟨t1, e1, _, r1⟩ := word_ok r0'
  obtain ⟨t2, e2, x2, r2⟩ := take_ok' r1
  obtain ⟨t3, e3, _, r3⟩ := word_ok r2
  have lenS : signs.length ≤ T.length := by
    rw [hlen, hflat]
    simp
    omega
  have lenM : moods.length ≤ T.length := by
    rw [hlen, hflat]
    simp
    omega
  have lenF : ss.length ≤ T.length := by
    have := flat_len (l := ss.map (stmKT signs moods)) (by
      intro x hx
      obtain ⟨s, _, rfl⟩ := List.mem_map.mp hx
      simp [stmKT])
    rw [List.length_map] at this
    rw [hlen, hflat]
    simp at this ⊢
    omega
  obtain ⟨s4, e4, x4, r4⟩ := names_ok (b := false) (ws := signs) (k1 := .sign) r3 (by decide) hs1 lenS hN.nd rfl hs4
  have hm0 : s4.names true = [] := by rw [x4]; rfl
  obtain ⟨s5, e5, x5, r5⟩ := names_ok (b := true) (ws := moods) (k1 := .sign) r4 (by decide) hm1 lenM hM.nd hm0 hm6
  have es5 : ∃ n, s5 = { stN0 signs moods with at_ := n } := by
    refine ⟨s5.at_, ?_⟩
    rw [x5, x4]
    simp [pushAll, stN0, PSt.next, st0]
  obtain ⟨n5, es5⟩ := es5
  subst es5
  have hf2 := Fits.at_ (n := n5) hf
  obtain ⟨s6, e6, x6, r6⟩ := robot_ok (tiles := tiles) (signs := signs) (moods := moods) r5 hf2.1.1 h16 hf2.1.2
  obtain ⟨m, e7⟩ := stmts_ok hN hM h16 (ss := ss) (f := T.length) (st := s6) (by rw [x6]; rfl) (by rw [x6]; rfl) r6 (by rw [x6]; exact Fits.at_ hf2.2) lenF
  refine ⟨m, ?_⟩
  unfold parsePlan
  simp only [e1, e2, e3, x2, dv]
  rw [if_pos ⟨h1, h16⟩]
  simp only [e4, e5, e6, e7]
  rw [x6, fold_at, apply_at, fold_at]
  rfl
end
end Sw

end

section
set_option maxRecDepth 100000
set_option maxHeartbeats 4000000
/-! the text of a plan, read again -/
namespace Sw
open PySem
structure RuleOk (g m : Nat) (kv : (Nat × Nat) × Rule) : Prop where
  k1 : kv.1.1 < m
  k2 : kv.1.2 < g
  l : kv.2.left < g
  la : kv.2.later < m
  mv : kv.2.move ∈ moves
/-- a plan that a text can tell -/
structure WfP (pl : Plan) : Prop where
  sN : NamesOk pl.signs
  mN : NamesOk pl.moods
  s1 : pl.signs ≠ []
  s4 : pl.signs.length ≤ 4
  m1 : pl.moods ≠ []
  m6 : pl.moods.length ≤ 6
  n1 : 1 ≤ pl.floor.length
  n16 : pl.floor.length ≤ 16
  fl : ∀ x ∈ pl.floor, x < pl.signs.length
  r1 : pl.robots ≠ []
  r3 : pl.robots.length ≤ 3
  rt : ∀ r ∈ pl.robots, r.1 < pl.floor.length
  rn : (pl.rules.map (·.1)).Nodup
  ru : ∀ kv ∈ pl.rules, RuleOk pl.signs.length pl.moods.length kv
def putsL (floor : List Nat) : List (Nat × Nat) := (List.range floor.length).filterMap fun t => if 0 < floor.getD t 0 then some (t, floor.getD t 0) else none
def robS (r : Nat × Bool) : Stm := .robot r.1 r.2
def putS (q : Nat × Nat) : Stm := .put q.2 q.1
def rulS (kv : (Nat × Nat) × Rule) : Stm := .rule kv.1 kv.2
def stmsOf (pl : Plan) : List Stm := pl.robots.map robS ++ ((putsL pl.floor).map putS ++ pl.rules.map rulS)
def linesW (pl : Plan) : List (List Cs) := headW pl.floor.length pl.signs pl.moods ++ (stmsOf pl).map (stmW pl.signs pl.moods)
def textOf (pl : Plan) : Cs := TL.joinL [10] ((linesW pl).map lineOf)
section
variable {tiles : Nat} {signs moods : List Cs}
theorem fits_app : ∀ {a b : List Stm} {st : PSt}, Fits tiles signs moods st a → Fits tiles signs moods (a.foldl (applyS signs moods) st) b → Fits tiles signs moods st (a ++ b)
  | [], _, _, _, h => h
  | s :: a, b, st, h, h2 => ⟨h.1, fits_app h.2 h2⟩
theorem fold_rob : ∀ {rs : List (Nat × Bool)} {st : PSt}, (rs.map robS).foldl (applyS signs moods) st = { st with robots := st.robots ++ rs }
  | [], st => by simp
  | r :: rs, st => by
    rw [List.map_cons, List.foldl_cons, fold_rob]
    simp [robS, applyS]
theorem fits_rob : ∀ {rs : List (Nat × Bool)} {st : PSt}, (∀ r ∈ rs, r.1 < tiles) → st.robots.length + rs.length ≤ 3 → Fits tiles signs moods st (rs.map robS)
  | [], _, _, _ => trivial
  | r :: rs, st, h, hl => by
    refine ⟨⟨h r List.mem_cons_self, by simp at hl; omega⟩, fits_rob (fun x hx => h x (List.mem_cons_of_mem _ hx)) ?_⟩
    simp [robS, applyS] at hl ⊢
    omega
theorem fold_put : ∀ {ps : List (Nat × Nat)} {st : PSt}, (ps.map putS).foldl (applyS signs moods) st = { st with spots := st.spots ++ ps }
  | [], st => by simp
  | r :: rs, st => by
    rw [List.map_cons, List.foldl_cons, fold_put]
    simp [putS, applyS]
theorem fits_put : ∀ {ps : List (Nat × Nat)} {st : PSt}, (∀ q ∈ ps, q.1 < tiles ∧ q.2 < signs.length) → (ps.map (·.1)).Nodup → (∀ q ∈ ps, ∀ x ∈ st.spots, x.1 ≠ q.1) → Fits tiles signs moods st (ps.map putS)
  | [], _, _, _, _ => trivial
  | q :: ps, st, h, hn, hd => by
    rw [List.map_cons, List.nodup_cons] at hn
    refine ⟨⟨(h q List.mem_cons_self).1, (h q List.mem_cons_self).2, hd q List.mem_cons_self⟩, fits_put (fun x hx => h x (List.mem_cons_of_mem _ hx)) hn.2 ?_⟩
    intro x hx y hy
    rcases List.mem_append.mp hy with z | z
    · exact hd x (List.mem_cons_of_mem _ hx) y z
    · rw [List.mem_singleton.mp z]
      intro e
      exact hn.1 (List.mem_map.mpr ⟨x, hx, e.symm⟩)
theorem fold_rul : ∀ {rs : List ((Nat × Nat) × Rule)} {st : PSt}, (rs.map rulS).foldl (applyS signs moods) st = { st with pairs := st.pairs ++ rs.map (fun kv => (moods.getD kv.1.1 [], signs.getD kv.1.2 [])), rules := st.rules ++ rs }
  | [], st => by simp
  | r :: rs, st => by
    rw [List.map_cons, List.foldl_cons, fold_rul]
    simp [rulS, applyS]
theorem name_inj {ws : List Cs} (hn : ws.Nodup) {a b : Nat} (ha : a < ws.length) (hb : b < ws.length) (e : ws.getD a [] = ws.getD b []) : a = b := by
  rw [List.getD_eq_getElem?_getD, List.getD_eq_getElem?_getD, List.getElem?_eq_getElem ha, List.getElem?_eq_getElem hb] at e
  exact (List.getElem_inj hn).mp e
theorem fits_rul (hN : NamesOk signs) (hM : NamesOk moods) : ∀ {rs done : List ((Nat × Nat) × Rule)} {st : PSt}, (∀ kv ∈ rs, RuleOk signs.length moods.length kv) → (∀ kv ∈ done, RuleOk signs.length moods.length kv) → ((done ++ rs).map (·.1)).Nodup →
    st.rules = done → st.pairs = done.map (fun kv => (moods.getD kv.1.1 [], signs.getD kv.1.2 [])) → Fits tiles signs moods st (rs.map rulS)
  | [], _, _, _, _, _, _, _ => trivial
  | kv :: rs, done, st, h, hd, hn, e1, e2 => by
    have o := h kv List.mem_cons_self
    have nk : ∀ q ∈ done, q.1 ≠ kv.1 := fun q hq z => by
      rw [List.map_append, List.nodup_append] at hn
      exact hn.2.2 q.1 (List.mem_map.mpr ⟨q, hq, rfl⟩) kv.1 (by simp) z
    refine ⟨⟨o.k1, o.k2, o.l, o.la, o.mv, ?_, ?_⟩, fits_rul hN hM (done := done ++ [kv]) (fun x hx => h x (List.mem_cons_of_mem _ hx)) ?_ ?_ ?_ ?_⟩
    · rw [e2]
      intro z
      obtain ⟨q, hq, e⟩ := List.mem_map.mp z
      obtain ⟨ea, eb⟩ := Prod.mk.inj e
      exact nk q hq (Prod.ext (name_inj hM.nd (hd q hq).k1 o.k1 ea) (name_inj hN.nd (hd q hq).k2 o.k2 eb))
    · rw [e1]
      exact nk
    · intro x hx
      rcases List.mem_append.mp hx with z | z
      · exact hd x z
      · rw [List.mem_singleton.mp z]
        exact o
    · rw [List.append_assoc]
      exact hn
    · show st.rules ++ [(kv.1, kv.2)] = _
      rw [e1]
    · show st.pairs ++ [_] = _
      rw [e2, List.map_append]
      rfl
end
theorem puts_mem {floor : List Nat} {q : Nat × Nat} (h : q ∈ putsL floor) : q.1 < floor.length ∧ q.2 = floor.getD q.1 0 ∧ 0 < q.2 := by
  obtain ⟨t, ht, e⟩ := List.mem_filterMap.mp h
  split at e
  · rename_i h0
    cases e
    exact ⟨List.mem_range.mp ht, rfl, h0⟩
  · cases e
theorem puts_nodup (floor : List Nat) : ((putsL floor).map (·.1)).Nodup := by
  have key : ∀ l : List Nat, l.Nodup → ((l.filterMap fun t => if 0 < floor.getD t 0 then some (t, floor.getD t 0) else none).map (·.1)).Nodup ∧ ∀ x ∈ (l.filterMap fun t => if 0 < floor.getD t 0 then some (t, floor.getD t 0) else none).map (·.1), x ∈ l := by
    intro l
    induction l with
    | nil => intro _; exact ⟨List.nodup_nil, fun x hx => by cases hx⟩
    | cons a l ih =>
      intro hn
      rw [List.nodup_cons] at hn
      obtain ⟨i1, i2⟩ := ih hn.2
      rw [List.filterMap_cons]
      by_cases h : 0 < floor.getD a 0
      · rw [if_pos h]
        refine ⟨?_, fun x hx => ?_⟩
        · rw [List.map_cons, List.nodup_cons]
          exact ⟨fun z => hn.1 (i2 _ z), i1⟩
        · rcases List.mem_cons.mp hx with z | z
          · exact z ▸ List.mem_cons_self
          · exact List.mem_cons_of_mem _ (i2 x z)
      · rw [if_neg h]
        exact ⟨i1, fun x hx => List.mem_cons_of_mem _ (i2 x hx)⟩
  exact (key _ List.nodup_range).1
theorem getA_mem {κ α : Type} [DecidableEq κ] {l : List (κ × α)} {k : κ} {v : α} (hn : (l.map (·.1)).Nodup) (h : (k, v) ∈ l) : getA l k = some v := by
  induction l with
  | nil => cases h
  | cons a l ih =>
    unfold getA
    rw [List.find?_cons]
    rw [List.map_cons, List.nodup_cons] at hn
    rcases List.mem_cons.mp h with z | z
    · subst z
      simp
    · have : ¬ a.1 = k := fun e => hn.1 (List.mem_map.mpr ⟨(k, v), z, e.symm⟩)
      rw [decide_eq_false this]
      exact ih hn.2 z
theorem getA_none {κ α : Type} [DecidableEq κ] {l : List (κ × α)} {k : κ} (h : ∀ q ∈ l, q.1 ≠ k) : getA l k = none := by
  unfold getA
  have : l.find? (fun kv => decide (kv.1 = k)) = none := List.find?_eq_none.mpr fun q hq z => h q hq (of_decide_eq_true z)
  rw [this]
  rfl
theorem puts_floor (floor : List Nat) : ((List.range floor.length).map fun i => (getA (putsL floor) i).getD 0) = floor := by
  apply List.ext_getElem?
  intro i
  rw [List.getElem?_map]
  by_cases h : i < floor.length
  · rw [List.getElem?_range h, List.getElem?_eq_getElem h]
    have ef : floor.getD i 0 = floor[i] := by rw [List.getD_eq_getElem?_getD, List.getElem?_eq_getElem h]; rfl
    show some ((getA (putsL floor) i).getD 0) = _
    by_cases h0 : 0 < floor.getD i 0
    · have hm : (i, floor.getD i 0) ∈ putsL floor := List.mem_filterMap.mpr ⟨i, List.mem_range.mpr h, by rw [if_pos h0]⟩
      rw [getA_mem (puts_nodup floor) hm, ef]
      rfl
    · rw [getA_none]
      · show some 0 = some floor[i]
        rw [← ef]
        congr 1
        omega
      · intro q hq z
        obtain ⟨_, h2, h3⟩ := puts_mem hq
        rw [z] at h2
        omega
  · rw [List.getElem?_eq_none (by simpa using h), List.getElem?_eq_none (by simpa using h)]
    rfl
theorem kw_wd : ∀ w ∈ kws, Wd w := by
  have key : ∀ w ∈ kws, (w.all isL && (decide (1 ≤ w.length) && decide (w.length ≤ 8))) = true := by decide +kernel
  intro w hw
  have := key w hw
  simp only [Bool.and_eq_true, decide_eq_true_eq, List.all_eq_true] at this
  exact ⟨this.1, this.2.1, this.2.2⟩
theorem stm_words {pl : Plan} (h : WfP pl) : ∀ s ∈ stmsOf pl, stmW pl.signs pl.moods s ≠ [] ∧ ∀ w ∈ stmW pl.signs pl.moods s, Wd w ∨ Nm w := by
  have kw : ∀ w, w ∈ kws → Wd w ∨ Nm w := fun w hw => .inl (kw_wd w hw)
  have si : ∀ g, g < pl.signs.length → Wd (pl.signs.getD g []) ∨ Nm (pl.signs.getD g []) := fun g hg => .inl (h.sN.ok _ (getD_in hg)).1
  have mo : ∀ g, g < pl.moods.length → Wd (pl.moods.getD g []) ∨ Nm (pl.moods.getD g []) := fun g hg => .inl (h.mN.ok _ (getD_in hg)).1
  have n16 := h.n16
  intro s hs
  rcases List.mem_append.mp hs with z | z
  · obtain ⟨r, hr, rfl⟩ := List.mem_map.mp z
    have := h.rt r hr
    refine ⟨by simp [robS, stmW], fun w hw => ?_⟩
    simp only [robS, stmW, List.mem_cons, List.not_mem_nil, or_false] at hw
    rcases hw with rfl | rfl | rfl
    · exact kw _ (by decide +kernel)
    · exact .inr (dec_nm (by omega)).1
    · refine kw _ ?_
      cases r.2 <;> decide +kernel
  · rcases List.mem_append.mp z with z | z
    · obtain ⟨q, hq, rfl⟩ := List.mem_map.mp z
      obtain ⟨q1, q2, _⟩ := puts_mem hq
      have hg : q.2 < pl.signs.length := by
        rw [q2]
        refine h.fl _ ?_
        rw [List.getD_eq_getElem?_getD, List.getElem?_eq_getElem q1]
        exact List.getElem_mem q1
      refine ⟨by simp [putS, stmW], fun w hw => ?_⟩
      simp only [putS, stmW, List.mem_cons, List.not_mem_nil, or_false] at hw
      rcases hw with rfl | rfl | rfl
      · exact kw _ (by decide +kernel)
      · exact si _ hg
      · exact .inr (dec_nm (by omega)).1
    · obtain ⟨q, hq, rfl⟩ := List.mem_map.mp z
      have o := h.ru q hq
      refine ⟨by simp [rulS, stmW], fun w hw => ?_⟩
      simp only [rulS, stmW, List.mem_cons, List.not_mem_nil, or_false] at hw
      rcases hw with rfl | rfl | rfl | rfl | rfl | rfl | rfl
      · exact kw _ (by decide +kernel)
      · exact mo _ o.k1
      · exact si _ o.k2
      · exact kw _ (by decide +kernel)
      · exact si _ o.l
      · refine kw _ ?_
        have : ∀ w ∈ moves, w ∈ kws := by decide +kernel
        exact this _ o.mv
      · exact mo _ o.la
/-- THE ROUND TRIP -/
theorem loads_text {pl : Plan} (h : WfP pl) : ∃ s, loads (textOf pl) = .ok (pl.floor.length, s) ∧ s.faults = [] ∧ planOf pl.floor.length s = pl := by
  have kw : ∀ w, w ∈ kws → Wd w ∨ Nm w := fun w hw => .inl (kw_wd w hw)
  have n16 := h.n16
  obtain ⟨T, hT, hK⟩ := tokenize_lines (lss := linesW pl) (by simp [linesW, headW]) (by
    intro ws hws
    rcases List.mem_append.mp hws with z | z
    · simp only [headW, List.mem_cons, List.not_mem_nil, or_false] at z
      rcases z with rfl | rfl | rfl
      · refine ⟨by simp, fun w hw => ?_⟩
        simp only [List.mem_cons, List.not_mem_nil, or_false] at hw
        rcases hw with rfl | rfl
        · exact kw _ (by decide +kernel)
        · exact .inr (dec_nm (by omega)).1
      · refine ⟨by simp, fun w hw => ?_⟩
        rcases List.mem_cons.mp hw with rfl | hw
        · exact kw _ (by decide +kernel)
        · exact .inl (h.sN.ok w hw).1
      · refine ⟨by simp, fun w hw => ?_⟩
        rcases List.mem_cons.mp hw with rfl | hw
        · exact kw _ (by decide +kernel)
        · exact .inl (h.mN.ok w hw).1
    · obtain ⟨s, hs, rfl⟩ := List.mem_map.mp z
      exact stm_words h s hs)
  obtain ⟨r0, rs, er⟩ : ∃ r0 rs, pl.robots = r0 :: rs := by
    cases e : pl.robots with
    | nil => exact absurd e h.r1
    | cons a b => exact ⟨a, b, rfl⟩
  have est : stmsOf pl = Stm.robot r0.1 r0.2 :: (rs.map robS ++ ((putsL pl.floor).map putS ++ pl.rules.map rulS)) := by
    unfold stmsOf
    rw [er]
    rfl
  have hfold : (stmsOf pl).foldl (applyS pl.signs pl.moods) (stN0 pl.signs pl.moods) = ⟨0, [], pl.signs, pl.moods, pl.robots, pl.rules, pl.rules.map (fun kv => (pl.moods.getD kv.1.1 [], pl.signs.getD kv.1.2 [])), putsL pl.floor⟩ := by
    unfold stmsOf
    rw [List.foldl_append, List.foldl_append, fold_rob, fold_put, fold_rul]
    simp [stN0]
  have hfit : Fits pl.floor.length pl.signs pl.moods (stN0 pl.signs pl.moods) (stmsOf pl) := by
    refine fits_app (fits_rob h.rt (by simpa [stN0] using h.r3)) (fits_app (fits_put ?_ (puts_nodup _) ?_) (fits_rul (done := []) h.sN h.mN h.ru (by simp) (by simpa using h.rn) ?_ ?_))
    · intro q hq
      obtain ⟨q1, q2, _⟩ := puts_mem hq
      refine ⟨q1, ?_⟩
      rw [q2]
      refine h.fl _ ?_
      rw [List.getD_eq_getElem?_getD, List.getElem?_eq_getElem q1]
      exact List.getElem_mem q1
    · intro q hq x hx
      rw [fold_rob] at hx
      cases hx
    · rw [fold_put, fold_rob]
      rfl
    · rw [fold_put, fold_rob]
      rfl
  rw [est] at hfit
  obtain ⟨n, hp⟩ := parse_ok (T := T) (tiles := pl.floor.length) (signs := pl.signs) (moods := pl.moods) h.sN h.mN h.s1 h.m1 h.s4 h.m6 h.n1 h.n16 (by rw [hK]; unfold linesW; rw [est]) hfit
  rw [← est, hfold] at hp
  refine ⟨_, (by
    unfold loads textOf
    rw [hT]
    exact hp), ?_, ?_⟩
  · rfl
  · unfold planOf
    simp only
    rw [puts_floor]
end Sw

end

section
set_option maxRecDepth 100000
set_option maxHeartbeats 4000000
/-! the law's own: a plan -/
namespace Sw
open PySem PySem.Spec PyProof.Rows L2 SwA
/-- the law's tuple of a plan -/
def PlanV (H : Hp) (a : Addr) (pl : Plan) : Prop := ∃ (sa ma fa ra rd : Addr) (ras : List Addr), H a = some (.tup [.ref sa, .ref ma, .ref fa, .ref ra, .ref rd]) ∧ TupN H sa (pl.signs.map sV) ∧ TupN H ma (pl.moods.map sV) ∧
  H fa = some (.tup (pl.floor.map fun n : Nat => V.int n)) ∧ H ra = some (.tup (ras.map V.ref)) ∧ Paired (RobAt H) ras pl.robots ∧ RulesAt H rd pl.rules
theorem perm_ex {ys zs : List V} (h : ys.Perm zs) : ∀ {base : List Cs}, zs = base.map sV → ∃ bs : List Cs, bs.Perm base ∧ ys = bs.map sV := by
  induction h with
  | nil =>
    intro base e
    cases base with
    | nil => exact ⟨[], .refl _, rfl⟩
    | cons _ _ => cases e
  | @cons x l1 l2 _ ih =>
    intro base e
    cases base with
    | nil => cases e
    | cons b base =>
      injection e with e1 e2
      obtain ⟨bs, p, q⟩ := ih e2
      exact ⟨b :: bs, p.cons b, by rw [e1, q]; rfl⟩
  | @swap x y l =>
    intro base e
    cases base with
    | nil => cases e
    | cons b base =>
      cases base with
      | nil => cases e
      | cons c base =>
        injection e with e1 e2
        injection e2 with e3 e4
        exact ⟨c :: b :: base, .swap b c base, by rw [e1, e3, e4]; rfl⟩
  | @trans l1 l2 l3 _ _ ih1 ih2 =>
    intro base e
    obtain ⟨b2, p2, q2⟩ := ih2 e
    obtain ⟨b1, p1, q1⟩ := ih1 q2
    exact ⟨b1, p1.trans p2, q1⟩
def sBase : List Cs := [txt "no", txt "red", txt "blue", txt "longname", txt "x"]
def mBase : List Cs := [txt "go", txt "calm", txt "red", txt "b", txt "cc", txt "mmmmmmmm", txt "z"]
theorem base_ok {base : List Cs} (h : (base.all fun w => w.all isL && (decide (1 ≤ w.length) && (decide (w.length ≤ 8) && !decide (w ∈ kws)))) = true) (hn : base.Nodup) {bs : List Cs} (hp : bs.Perm base) (n : Nat) : NamesOk (bs.take n) := by
  refine ⟨((hp.nodup_iff).mpr hn).sublist (List.take_sublist n bs), fun w hw => ?_⟩
  have hm : w ∈ base := hp.mem_iff.mp (List.mem_of_mem_take hw)
  have := List.all_eq_true.mp h w hm
  simp only [Bool.and_eq_true, decide_eq_true_eq, List.all_eq_true, Bool.not_eq_true', decide_eq_false_iff_not] at this
  exact ⟨⟨this.1, this.2.1, this.2.2.1⟩, this.2.2.2⟩
theorem cut_take {xs : List V} {n : Nat} (h : n ≤ xs.length) : cutV xs none (some (n : Int)) = xs.take n := by
  show (xs.drop (HT.sIx xs.length 0 none)).take (HT.sIx xs.length xs.length (some (n : Int)) - HT.sIx xs.length 0 none) = xs.take n
  rw [HT.sIx_none, HT.sIx_nat, Nat.min_eq_left h]
  rfl
theorem cutS {Hb H : Hp} {l : List Addr} {x : Addr} {o : HO} (s : Same (cutH Hb l) H) (h : x ∈ l) : Same (cutH Hb l) (upd H x o) := sameUpd s (cutH_in h)
theorem cutN {Hb H : Hp} {l : List Addr} {x : Addr} {o : HO} (s : Same (cutH Hb l) H) (h : H x = none) : Same (cutH Hb l) (upd H x o) := sameUpd s (s.free h)
section
variable {P : Program} {w : World} {K : PySem.W.Frag} {mg : Str → Option Value} {base : Heap}
/-- the keys in order -/
def SortedR (rules : List ((Nat × Nat) × Rule)) : Prop := (rules.map (·.1)).Pairwise fun a b => a.1 < b.1 ∨ (a.1 = b.1 ∧ a.2 < b.2)
end
end Sw

end

section
set_option maxRecDepth 100000
set_option maxHeartbeats 4000000
/-! sorted(d) of a dict whose keys are pairs of ints -/
namespace Sw
open PySem PySem.Spec PyProof.Rows L2 SwA
def PairAt (H : Hp) (b : Addr) (k : Nat × Nat) : Prop := H b = some (.tup [.int k.1, .int k.2])
def LeP (a b : Nat × Nat) : Prop := a.1 < b.1 ∨ (a.1 = b.1 ∧ a.2 ≤ b.2)
def rSortedDT : List V → Hp → VK → Prop := fun vs H Q => ∃ (d : Addr) (kvs : List (List Key × V)) (ks : List (Nat × Nat)), vs = [.ref d] ∧ Rd H d (.dT kvs) ∧ kvs.map (·.1) = ks.map keyT ∧
  ∀ (ys : List (Nat × Nat)) (bs : List Addr) (p : Addr), ys.Perm ks → ys.Pairwise LeP → Paired (PairAt H) bs ys → H p = none → Q (.ref p) (upd H p (.lst (bs.map V.ref)))
/-- what a value is to the order -/
def kOf (H : Hp) : Value → Int × Int
  | .ref t => match H t with
    | some (.tup [.int i, .int j]) => (i, j)
    | _ => (0, 0)
  | _ => (0, 0)
theorem kOf_at {H : Hp} {b : Addr} {k : Nat × Nat} (h : PairAt H b k) : kOf H (Value.ref b) = ((k.1 : Int), (k.2 : Int)) := by
  simp only [kOf, show H b = some (.tup [.int k.1, .int k.2]) from h]
theorem pairedL {α β : Type} {R : α → β → Prop} : ∀ {xs : List α} {ys : List β}, Paired R xs ys → ∀ {j : Nat} {x : α}, xs[j]? = some x → ∃ y, ys[j]? = some y ∧ R x y
  | _, _, .nil, _, _, h => by cases h
  | _, _, .cons r t, 0, _, h => by cases h; exact ⟨_, rfl, r⟩
  | _, _, .cons r t, j + 1, _, h => pairedL t (j := j) (by simpa using h)
theorem pairedR {α β : Type} {R : α → β → Prop} : ∀ {xs : List α} {ys : List β}, Paired R xs ys → ∀ {j : Nat} {y : β}, ys[j]? = some y → ∃ x, xs[j]? = some x ∧ R x y
  | _, _, .nil, _, _, h => by cases h
  | _, _, .cons r t, 0, _, h => by cases h; exact ⟨_, rfl, r⟩
  | _, _, .cons r t, j + 1, _, h => pairedR t (j := j) (by simpa using h)
theorem isKeys_pairs {H : Hp} : ∀ {kvs : List (List Key × V)} {bs : List Addr} {ks : List (Nat × Nat)}, IsKeys H kvs bs → kvs.map (·.1) = ks.map keyT → Paired (PairAt H) bs ks
  | _, _, [], .nil, _ => .nil
  | _, _, [], .cons _ _, e => by cases e
  | _, _, k :: ks, .nil, e => by cases e
  | _, _, k :: ks, .cons h t, e => by
    rw [List.map_cons, List.map_cons] at e
    injection e with e1 e2
    refine .cons ?_ (isKeys_pairs t e2)
    unfold PairAt
    rw [h, e1]
    rfl
theorem paired_perm {α β : Type} {R : α → β → Prop} {xs xs' : List α} (hp : xs'.Perm xs) : ∀ {ys : List β}, Paired R xs ys → ∃ ys', ys'.Perm ys ∧ Paired R xs' ys' := by
  induction hp with
  | nil => intro ys h; exact ⟨ys, .refl _, h⟩
  | @cons x l1 l2 _ ih =>
    intro ys h
    cases h with
    | cons r t =>
      obtain ⟨ys', p, q⟩ := ih t
      exact ⟨_ :: ys', p.cons _, .cons r q⟩
  | @swap x y l =>
    intro ys h
    cases h with
    | cons r t =>
      cases t with
      | cons r2 t2 => exact ⟨_, .swap _ _ _, .cons r2 (.cons r t2)⟩
  | @trans l1 l2 l3 _ _ ih1 ih2 =>
    intro ys h
    obtain ⟨y2, p2, q2⟩ := ih2 h
    obtain ⟨y1, p1, q1⟩ := ih1 q2
    exact ⟨y1, p1.trans p2, q1⟩
theorem pairs_sorted {H : Hp} : ∀ {bs : List Addr} {ys : List (Nat × Nat)}, Paired (PairAt H) bs ys → SrtO.Srtd (fun v u => SrtO.lexB (kOf H v) (kOf H u)) (bs.map Value.ref) → ys.Pairwise LeP
  | [], [], _, _ => .nil
  | b :: bs, y :: ys, .cons h t, hs => by
    obtain ⟨h1, h2⟩ := List.pairwise_cons.mp hs
    refine .cons (fun z hz => ?_) (pairs_sorted t h2)
    obtain ⟨j, hj⟩ := List.getElem?_of_mem hz
    obtain ⟨b2, hb2, hP⟩ := pairedR t hj
    have h3 := h1 (Value.ref b2) (List.mem_map.mpr ⟨b2, List.mem_of_getElem? hb2, rfl⟩)
    have e1 := kOf_at h
    have e2 := kOf_at hP
    simp only [e1, e2] at h3
    have h4 := SrtO.lexB_no.mp h3
    simp only at h4
    unfold LeP
    omega
theorem cr_sortedDT {X : Cx} (hc : X.calm = true) : CallR X (.builtin "sorted") rSortedDT := by
  intro pins s σ H xs us Q I r h
  obtain ⟨d, kvs, kks, rfl, hd, hkk, q⟩ := h
  obtain ⟨u, rfl, rx⟩ := r.one
  cases rx
  obtain ⟨z, hs, ks, pr, o, es, ep, ho, hx, hdt, he, hn⟩ := (show ObjOk X.prog X.w H s.heap d (.dT kvs) from hd.ok I.hok)
  have l1 : es.size = ks.length := size_of_entries he
  have l2 : kvs.length = ks.length := Paired.length pr
  refine Calls.call_function_entry PyProof.Rows.kind_sorted PyProof.Rows.plain_sorted PyProof.Rows.entry_sorted (PyProof.Rows.args_sorted1 _) ?_
  unfold Builtin.«sorted»
  refine wpAny_bind (m := checkCount "sorted" 1 1 _) (wpAny_pure ?_)
  refine wpAny_bind (PySem.W.kdu_collect (A := X.A.in1) (kdl_raw hs hx hdt) (I.ok.hd hc) ho (by omega) fun h' tk acc hk it => ?_)
  have ea : acc.toList = ks.map fun x => Value.ref x.2.1 := by
    have hl : acc.toList.length = ks.length := by rw [Array.length_toList, it.1]; exact l1
    apply List.ext_getElem?
    intro j
    rw [List.getElem?_map]
    cases hj : acc.toList[j]? with
    | none =>
      have h1 := List.getElem?_eq_none_iff.mp hj
      rw [List.getElem?_eq_none (by omega)]
      all_goals rfl
    | some v =>
      obtain ⟨en, hen, hv⟩ := it.2 j v (by rw [← Array.getElem?_toList]; exact hj)
      have qe := entry_at he j
      rw [hen] at qe
      cases hb : ks[j]? with
      | none =>
        rw [hb] at qe
        exact nomatch (show some en = none from qe)
      | some b =>
        rw [hb] at qe
        have e2 : en = entryOfKey (tupleKind (mixKind X.prog X.w)) b := Option.some.inj qe
        rw [hv, e2]
        all_goals rfl
  have eb : acc.toList = (ks.map fun x => x.2.1).map Value.ref := by rw [ea, List.map_map]; all_goals rfl
  have hP := isKeys_pairs (isKeys_of pr) hkk
  generalize (ks.map fun x => x.2.1) = bs0 at eb hP
  have hbl : bs0.length = ks.length := by
    have e := congrArg List.length eb
    rw [List.length_map, Array.length_toList, it.1] at e
    omega
  rw [eb]
  have hzz : (bs0.map Value.ref).length ≤ sizeLine := by rw [List.length_map]; omega
  have I1 : Inv X pins σ H { s with heap := h', toks := tk } := I.kept hk
  refine wpAny_bind (wpAny_newList ?_ hzz)
  have hoL : (h'.push (seqObj "list" (bs0.map Value.ref).toArray 0)).get? h'.objs.size = some (seqObj "list" (bs0.map Value.ref).toArray 0) := Heap.get?_push_size _ rfl
  show wpAny _ _ _ _ _ { s with heap := h'.push (seqObj "list" (bs0.map Value.ref).toArray 0), toks := tk }
  refine wpAny_bind (wpAny_holding (wpAny_call_entry PyProof.Rows.slot_list_sort ⟨_, hoL, rfl⟩ PyProof.Rows.entry_list_sort
    (SrtO.list_sort_ord (s := { s with heap := h'.push (seqObj "list" (bs0.map Value.ref).toArray 0), toks := tk }) (SrtO.swo_lex (kOf H)) hoL hzz (fun h2 => SrtO.pairs_sortableO (by omega) (fun v hv => ?_) (fun o e => ?_)) fun out hs2 hb2 => ⟨_, rfl, ?_⟩)
    (PyProof.Rows.args_list_sort _)))
  · obtain ⟨b, hb, rfl⟩ := List.mem_map.mp hv
    obtain ⟨j, hj⟩ := List.getElem?_of_mem hb
    obtain ⟨k, _, hk2⟩ := pairedL hP hj
    have e1 := kOf_at hk2
    rw [e1]
    obtain ⟨_, its2, r2, o2, ho2, hc2, n2, hd2⟩ := I1.hok _ _ hk2
    obtain ⟨u1, u2, rfl, ri, rj⟩ := vals2 r2
    obtain ⟨t1, rfl⟩ := ri
    obtain ⟨t2, rfl⟩ := rj
    exact ⟨b, o2, t1, t2, n2, rfl, Heap.get?_push_of_some _ ho2, hc2, hd2⟩
  · have e' : some o = some (seqObj "list" (bs0.map Value.ref).toArray 0) := e.symm.trans hoL
    cases e'
    intro c
    exact absurd (Value.type.inj c) (by decide)
  · obtain ⟨e', he'⟩ := PyProof.Rows.sortedHeap_at (vs := bs0.map Value.ref) (out := out.toArray) hoL
    have h3 : ∀ u ∈ out, ∃ a, u = Value.ref a := fun u hu => by
      obtain ⟨b, _, e⟩ := List.mem_map.mp (hb2.perm.mem_iff.mp hu)
      exact ⟨b, e.symm⟩
    obtain ⟨bs, rfl⟩ : ∃ bs : List Addr, out = bs.map Value.ref := by
      clear hs2 hb2 he'
      induction out with
      | nil => exact ⟨[], rfl⟩
      | cons u out ih =>
        obtain ⟨a, rfl⟩ := h3 u List.mem_cons_self
        obtain ⟨bs, rfl⟩ := ih fun v hv => h3 v (List.mem_cons_of_mem _ hv)
        exact ⟨a :: bs, rfl⟩
    have hperm : bs.Perm bs0 := by
      have := hb2.perm.map (fun v : Value => match v with | .ref a => a | _ => 0)
      simpa [List.map_map, Function.comp_def] using this
    obtain ⟨ys, hyp, hyP⟩ := paired_perm hperm hP
    have hlen : (bs.map V.ref).length ≤ sizeLine := by
      rw [List.length_map, hperm.length_eq]
      omega
    refine wpAny_pure ⟨_, rfl, .ref h'.objs.size, upd H h'.objs.size (.lst (bs.map V.ref)), I1.laid (t' := tk) (fun b u e => ?_) (Nat.le_refl _)
      (show ObjOk X.prog X.w _ _ _ (.lst (bs.map V.ref)) from ⟨hlen, bs.map Value.ref, e', vals_refs _, he'⟩), rfl, q ys bs _ hyp (pairs_sorted hyP hs2) hyP (I1.hok.fresh (Nat.le_refl _))⟩
    have hb : b < h'.objs.size := Heap.lt_size e
    rw [PyProof.Rows.sortedHeap_old (Nat.ne_of_lt hb) (by rw [size_push']; exact Nat.lt_succ_of_lt hb)]
    exact Heap.get?_push_of_some _ e
end Sw

end

section
set_option maxRecDepth 100000
set_option maxHeartbeats 4000000
/-! the law's own: the lines of a plan -/
namespace Sw
open PySem PySem.Spec PyProof.Rows L2 SwA
theorem sx_app (a b : Cs) : sx a ++ sx b = sx (a ++ b) := by
  have e : (sx a).cps ++ (sx b).cps = (sx (a ++ b)).cps := by simp [sx]
  exact congrArg Str.mk e
theorem sx_len (a : Cs) : (sx a).length = a.length := by simp [sx, Str.length]
theorem words_join : ∀ ws : List Cs, wordsOf ws = TL.joinL [32] ws
  | [] => rfl
  | [w] => rfl
  | w :: v :: r => by
    show w ++ 32 :: wordsOf (v :: r) = w ++ ([32] ++ TL.joinL [32] (v :: r))
    rw [words_join (v :: r)]
    rfl
theorem join_sx (a : Cs) (ys : List Cs) : Txt.join (sx a) (ys.map sx) = sx (TL.joinL a ys) := SX.join_S a ys
theorem str_dec {n : Nat} (h : n < 100) : (toString (n : Int) : Str) = sx (dec n) := by
  have : ∀ m < 100, (toString ((m : Nat) : Int) : Str) = sx (dec m) := by decide +kernel
  exact this n h
theorem log_small {n : Nat} (h : n < 100) : ((n : Nat) : Int).natAbs.log2 < 1920 := by
  rw [Int.natAbs_natCast]
  by_cases h0 : n = 0
  · subst h0; decide
  · have : n.log2 < 7 := (Nat.log2_lt h0).mpr (by omega)
    omega
theorem joinL_len (S : Cs) : ∀ ws : List Cs, (TL.joinL S ws).length ≤ (ws.map (·.length)).sum + ws.length * S.length
  | [] => by simp [TL.joinL]
  | [w] => by simp [TL.joinL]
  | w :: v :: r => by
    have ih := joinL_len S (v :: r)
    show (w ++ (S ++ TL.joinL S (v :: r))).length ≤ _
    rw [List.length_append, List.length_append]
    rw [List.map_cons, List.sum_cons, List.length_cons (a := w), Nat.add_mul, Nat.one_mul]
    omega
theorem sum_le {ws : List Cs} {b : Nat} (h : ∀ w ∈ ws, w.length ≤ b) : (ws.map (·.length)).sum ≤ ws.length * b := by
  induction ws with
  | nil => simp
  | cons w r ih =>
    have h1 := h w List.mem_cons_self
    have h2 := ih fun v hv => h v (List.mem_cons_of_mem _ hv)
    rw [List.map_cons, List.sum_cons, List.length_cons, Nat.add_mul, Nat.one_mul]
    omega
theorem lens_sx (ws : List Cs) : ((ws.map sx).map (·.length)) = ws.map (·.length) := by
  rw [List.map_map]
  exact List.map_congr_left fun w _ => sx_len w
theorem names_len {ws : List Cs} (h : NamesOk ws) : ∀ w ∈ ws, w.length ≤ 8 := fun w hw => (h.ok w hw).1.2.2
theorem dec_len (n : Nat) : (dec n).length ≤ 2 := by unfold dec; split <;> simp
abbrev lnV (ws : List Cs) : V := sV (lineOf ws)
theorem map_sV (ws : List Cs) : ws.map sV = (ws.map sx).map V.str := by rw [List.map_map]; rfl
theorem lenS {a b : Cs} (hl : a.length + b.length ≤ 10000) : (sx a).length + (sx b).length ≤ sizeLine := by rw [sx_len, sx_len, sizeLine_eq]; omega
theorem lenJ {a : Cs} {ys : List Cs} (hl : (ys.map (·.length)).sum + ys.length * a.length ≤ 100000) : ((ys.map sx).map (·.length)).sum + (ys.map sx).length * (sx a).length ≤ 16777216 := by rw [lens_sx, List.length_map, sx_len]; omega
theorem sqJ {K : PySem.W.Frag} {H : Hp} {p : Addr} {ys : List Cs} (h : SqL K H p (ys.map sV) ∨ SqT K H p (ys.map sV)) : SqL K H p ((ys.map sx).map V.str) ∨ SqT K H p ((ys.map sx).map V.str) := by rw [← map_sV]; exact h
theorem LeP.antisymm {a b : Nat × Nat} (h1 : LeP a b) (h2 : LeP b a) : a = b := by
  unfold LeP at h1 h2
  exact Prod.ext (by omega) (by omega)
theorem perm_sorted : ∀ {ys ks : List (Nat × Nat)}, ys.Perm ks → ys.Pairwise LeP → ks.Pairwise LeP → ys = ks
  | [], ks, hp, _, _ => (List.nil_perm.mp hp).symm
  | y :: ys, [], hp, _, _ => absurd (List.perm_nil.mp hp) (by simp)
  | y :: ys, k :: ks, hp, h1, h2 => by
    obtain ⟨a1, a2⟩ := List.pairwise_cons.mp h1
    obtain ⟨b1, b2⟩ := List.pairwise_cons.mp h2
    have e : y = k := by
      rcases List.mem_cons.mp (hp.mem_iff.mp List.mem_cons_self) with z | z
      · exact z
      · rcases List.mem_cons.mp (hp.mem_iff.mpr (List.mem_cons_self (a := k) (l := ks))) with q | q
        · exact q.symm
        · exact LeP.antisymm (a1 k q) (b1 y z)
    subst e
    rw [perm_sorted (hp.cons_inv) a2 b2]
theorem SortedR.le {rules : List ((Nat × Nat) × Rule)} (h : SortedR rules) : (rules.map (·.1)).Pairwise LeP := List.Pairwise.imp (fun {a b} q => by unfold LeP; omega) h
theorem head_lines {n : Nat} {signs moods : List Cs} (h1 : signs ≠ []) (h2 : moods ≠ []) :
    [V.str (sx (wCorridor ++ [32] ++ dec n ++ [59])), V.str (sx (wSigns ++ [32] ++ TL.joinL [32] signs ++ [59])), V.str (sx (wMoods ++ [32] ++ TL.joinL [32] moods ++ [59]))] = (headW n signs moods).map lnV := by
  obtain ⟨s0, sr, rfl⟩ := List.exists_cons_of_ne_nil h1
  obtain ⟨m0, mr, rfl⟩ := List.exists_cons_of_ne_nil h2
  show _ = [lnV [wCorridor, dec n], lnV (wSigns :: s0 :: sr), lnV (wMoods :: m0 :: mr)]
  unfold lnV lineOf
  rw [words_join, words_join, words_join]
  simp [TL.joinL]
theorem put_range {floor : List Nat} {i : Nat} : (List.range (i + 1)).filterMap (fun t => if 0 < floor.getD t 0 then some (t, floor.getD t 0) else none) = (List.range i).filterMap (fun t => if 0 < floor.getD t 0 then some (t, floor.getD t 0) else none) ++ (if 0 < floor.getD i 0 then [(i, floor.getD i 0)] else []) := by
  rw [List.range_succ, List.filterMap_append]
  congr 1
  by_cases h : 0 < floor.getD i 0
  · simp only [List.filterMap_cons, List.filterMap_nil, if_pos h]
  · simp only [List.filterMap_cons, List.filterMap_nil, if_neg h]
theorem snoc_ln {A B : List (List Cs)} {x : List Cs} {v : V} (h : lnV x = v) : (A ++ B).map lnV ++ [v] = (A ++ (B ++ [x])).map lnV := by
  rw [← h]
  simp
theorem snoc_lf {α : Type} {A : List (List Cs)} {L : List α} {f : α → List Cs} {q : α} {v : V} (h : lnV (f q) = v) : (A ++ L.map f).map lnV ++ [v] = (A ++ (L ++ [q]).map f).map lnV := by
  rw [← h]
  simp
theorem inc_len {n : Nat} : ∀ {l : List Nat} {lo : Nat}, l.Pairwise (· < ·) → (∀ x ∈ l, lo ≤ x ∧ x < n) → l.length ≤ n - lo
  | [], _, _, _ => Nat.zero_le _
  | x :: r, lo, hp, h => by
    obtain ⟨h1, h2⟩ := List.pairwise_cons.mp hp
    have hx := h x List.mem_cons_self
    have ih := inc_len (lo := x + 1) h2 fun y hy => ⟨h1 y hy, (h y (List.mem_cons_of_mem _ hy)).2⟩
    rw [List.length_cons]
    omega
theorem rules_few {pl : Plan} (wf : WfP pl) (so : SortedR pl.rules) : pl.rules.length ≤ 24 := by
  have h4 := wf.s4
  have h6 := wf.m6
  have := inc_len (n := 24) (lo := 0) (l := pl.rules.map fun kv => kv.1.1 * 4 + kv.1.2) ?_ ?_
  · rw [List.length_map] at this
    exact this
  · rw [List.pairwise_map]
    unfold SortedR at so
    rw [List.pairwise_map] at so
    refine List.Pairwise.imp_of_mem (fun {a b} ha hb q => ?_) so
    have := (wf.ru a ha).k2
    have := (wf.ru b hb).k2
    omega
  · intro x hx
    obtain ⟨kv, hk, rfl⟩ := List.mem_map.mp hx
    have := (wf.ru kv hk).k2
    have := (wf.ru kv hk).k1
    omega
theorem rules_keys {H : Hp} : ∀ {rs : List ((Nat × Nat) × Rule)} {kvs : List (List Key × V)}, Paired (RuleAt H) rs kvs → kvs.map (·.1) = (rs.map (·.1)).map keyT
  | _, _, .nil => rfl
  | _, _, .cons h t => by rw [List.map_cons, List.map_cons, List.map_cons, rules_keys t, h.1]
theorem nm_get {ws : List Cs} {g : Nat} (h : g < ws.length) : (ws.map sV)[g]? = some (sV (ws.getD g [])) := by
  rw [List.getElem?_map, List.getD_eq_getElem?_getD, List.getElem?_eq_getElem h]
  rfl
theorem line_len {pl : Plan} (wf : WfP pl) : ∀ ws ∈ linesW pl, (lineOf ws).length ≤ 100 := by
  have key : ∀ (ws : List Cs), ws.length ≤ 7 → (∀ w ∈ ws, w.length ≤ 8) → (lineOf ws).length ≤ 100 := by
    intro ws h7 h8
    have h1 := joinL_len [32] ws
    have h2 := sum_le h8
    have h3 : ws.length * 8 ≤ 7 * 8 := Nat.mul_le_mul_right 8 h7
    simp only [List.length_singleton, Nat.mul_one] at h1
    unfold lineOf
    rw [words_join, List.length_append, List.length_singleton]
    omega
  have h4 := wf.s4
  have h6 := wf.m6
  intro ws hws
  rcases List.mem_append.mp hws with h | h
  · simp only [headW, List.mem_cons, List.not_mem_nil, or_false] at h
    rcases h with z | z | z <;> rw [z]
    · refine key _ (by simp) fun w hw => ?_
      simp only [List.mem_cons, List.not_mem_nil, or_false] at hw
      rcases hw with q | q <;> rw [q]
      · decide
      · exact Nat.le_trans (dec_len _) (by decide)
    · refine key _ (by simp; omega) fun w hw => ?_
      rcases List.mem_cons.mp hw with q | q
      · rw [q]; decide
      · exact names_len wf.sN w q
    · refine key _ (by simp; omega) fun w hw => ?_
      rcases List.mem_cons.mp hw with q | q
      · rw [q]; decide
      · exact names_len wf.mN w q
  · obtain ⟨st, hst, rfl⟩ := List.mem_map.mp h
    obtain ⟨_, hw⟩ := stm_words wf st hst
    refine key _ (by cases st <;> simp [stmW]) fun w hw2 => ?_
    rcases hw w hw2 with q | q
    · exact q.2.2
    · exact Nat.le_trans q.2.2.1 (by decide)
theorem lines_few {pl : Plan} (wf : WfP pl) (so : SortedR pl.rules) : (linesW pl).length ≤ 50 := by
  have h1 := rules_few wf so
  have h2 := List.length_filterMap_le (fun t => if 0 < pl.floor.getD t 0 then some (t, pl.floor.getD t 0) else none) (List.range pl.floor.length)
  rw [List.length_range] at h2
  have h3 := wf.r3
  have h4 := wf.n16
  unfold linesW stmsOf putsL
  simp only [List.length_append, List.length_map, headW, List.length_cons, List.length_nil]
  omega
theorem text_len {pl : Plan} (wf : WfP pl) (so : SortedR pl.rules) : (((linesW pl).map lineOf).map (·.length)).sum + (linesW pl).length ≤ 5100 ∧ (textOf pl).length ≤ 6000 := by
  have h1 : (((linesW pl).map lineOf).map (·.length)).sum ≤ ((linesW pl).map lineOf).length * 100 := sum_le fun w hw => by
    obtain ⟨ws, h, rfl⟩ := List.mem_map.mp hw
    exact line_len wf ws h
  have h2 := lines_few wf so
  have h3 := joinL_len [10] ((linesW pl).map lineOf)
  rw [List.length_map] at h1 h3
  simp only [List.length_singleton] at h3
  unfold textOf
  omega
end Sw

end

section
set_option maxRecDepth 100000
set_option maxHeartbeats 4000000
/-! data: what may be compared -/
namespace Sw
open PySem PySem.Spec PyProof.Rows L2 SwA
def ShD (n : Nat) (d : PyData) : Prop := d.canLay0 = true ∧ d.depth ≤ n
theorem ShD.mono {n m : Nat} {d : PyData} (h : ShD n d) (hl : n ≤ m) : ShD m d := ⟨h.1, Nat.le_trans h.2 hl⟩
theorem shd_all {n : Nat} : ∀ {ds : List PyData}, (∀ d ∈ ds, ShD n d) → PyData.canLayAll0 ds = true ∧ PyData.depthAll ds ≤ n
  | [], _ => ⟨rfl, by simp [PyData.depthAll]⟩
  | d :: ds, h => by
    have h1 := h d List.mem_cons_self
    have h2 := shd_all (ds := ds) fun x hx => h x (List.mem_cons_of_mem _ hx)
    refine ⟨?_, ?_⟩
    · rw [PyData.canLayAll0, h1.1, h2.1]; rfl
    · rw [PyData.depthAll]
      have := h1.2
      have := h2.2
      omega
theorem shd_list {n : Nat} {ds : List PyData} (h : ∀ d ∈ ds, ShD n d) : ShD (n + 1) (.list ds) := by
  have h2 := shd_all h
  refine ⟨by rw [PyData.canLay0]; exact h2.1, ?_⟩
  rw [PyData.depth]
  have := h2.2
  omega
theorem shd_tuple {n : Nat} {ds : List PyData} (h : ∀ d ∈ ds, ShD n d) : ShD (n + 1) (.tuple ds) := by
  have h2 := shd_all h
  refine ⟨by rw [PyData.canLay0]; exact h2.1, ?_⟩
  rw [PyData.depth]
  have := h2.2
  omega
theorem shd_int (i : Int) : ShD 1 (.int i) := ⟨by rw [PyData.canLay0], by rw [PyData.depth]; decide⟩
theorem shd_bool (i : Bool) : ShD 1 (.bool i) := ⟨by rw [PyData.canLay0], by rw [PyData.depth]; decide⟩
theorem shd_none : ShD 1 .none := ⟨by rw [PyData.canLay0], by rw [PyData.depth]; decide⟩
theorem shd_str {x : Str} (h : x.cps.all (· < 0x110000) = true) : ShD 1 (.str x) := ⟨by rw [PyData.canLay0]; exact h, by rw [PyData.depth]; decide⟩
theorem shd_sx {cs : Cs} (h : ∀ c ∈ cs, c < 0x110000) : ShD 1 (.str (sx cs)) := shd_str (by
  rw [← Array.all_toList]
  simpa [sx] using h)
theorem shd_nm {cs : Cs} (h : ∀ c ∈ cs, isL c = true) : ShD 1 (.str (sx cs)) := shd_sx fun c hc => by
  have := h c hc
  unfold isL at this
  rw [Bool.and_eq_true, Nat.ble_eq, Nat.ble_eq] at this
  omega
theorem ShD.shaped {n : Nat} {d : PyData} (h : ShD n d) (hn : n ≤ 64) : SeqAt.shaped d = true := Bool.and_eq_true_iff.mpr ⟨h.1, decide_eq_true (Nat.le_trans h.2 hn)⟩
theorem ShD.eqv {n : Nat} {d : PyData} (h : ShD n d) : PyData.eqv d d = true := SeqAt.eqv_refl _ h.1
end Sw

end

section
set_option maxRecDepth 100000
set_option maxHeartbeats 4000000
/-! tuples and lists of numbers and of names, as data -/
namespace Sw
open PySem PySem.Spec PyProof.Rows L2 SwA
/-- a number or None -/
abbrev oV (r : Option Nat) : V := match r with
  | some u => .int u
  | none => .non
abbrev natsD (l : List Nat) : List PyData := l.map fun n : Nat => PyData.int n
abbrev strsD (l : List Cs) : List PyData := l.map fun z => PyData.str (sx z)
theorem dpa_nats {K : PySem.W.Frag} {H : Hp} : ∀ l : List Nat, DpAll K H (l.map fun n : Nat => V.int n) (natsD l)
  | [] => .nil
  | _ :: l => .cons (.int _) (dpa_nats l)
theorem dpa_strs {K : PySem.W.Frag} {H : Hp} : ∀ l : List Cs, DpAll K H (l.map sV) (strsD l)
  | [] => .nil
  | _ :: l => .cons (.str _) (dpa_strs l)
theorem sh_nats (l : List Nat) : ShD 2 (.tuple (natsD l)) := shd_tuple fun d hd => by
  obtain ⟨n, _, rfl⟩ := List.mem_map.mp hd
  exact shd_int _
theorem sh_natsL (l : List Nat) : ShD 2 (.list (natsD l)) := shd_list fun d hd => by
  obtain ⟨n, _, rfl⟩ := List.mem_map.mp hd
  exact shd_int _
theorem eqvA_nats : ∀ xs ys : List Nat, PyData.eqvAll (natsD xs) (natsD ys) = decide (xs = ys)
  | [], [] => by simp [PyData.eqvAll]
  | [], _ :: _ => by simp [PyData.eqvAll]
  | _ :: _, [] => by simp [PyData.eqvAll]
  | x :: xs, y :: ys => by
    have ih := eqvA_nats xs ys
    simp only [List.map_cons, PyData.eqvAll, PyData.eqv] at ih ⊢
    rw [ih]
    by_cases h : x = y
    · subst h
      by_cases h2 : xs = ys
      · simp [h2]
      · simp [h2]
    · have : ((x : Int) == (y : Int)) = false := by simp; omega
      simp [this, h]
theorem eqv_nats (xs ys : List Nat) : PyData.eqv (.tuple (natsD xs)) (.tuple (natsD ys)) = decide (xs = ys) := by
  rw [PyData.eqv]
  exact eqvA_nats xs ys
theorem eqv_natsL (xs ys : List Nat) : PyData.eqv (.list (natsD xs)) (.list (natsD ys)) = decide (xs = ys) := by
  rw [PyData.eqv]
  exact eqvA_nats xs ys
end Sw

end

section
set_option maxRecDepth 100000
set_option maxHeartbeats 4000000
/-! plain things and tuples of plain things, as data -/
namespace Sw
open PySem PySem.Spec PyProof.Rows L2 SwA
inductive FlD : V → PyData → Prop
  | non : FlD .non .none
  | bl (b : Bool) : FlD (.bl b) (.bool b)
  | int (i : Int) : FlD (.int i) (.int i)
  | str (x : Str) : FlD (.str x) (.str x)
theorem FlD.dp {K : PySem.W.Frag} {H : Hp} {v : V} {d : PyData} (h : FlD v d) : Dp K H v d := by
  cases h
  · exact .non
  · exact .bl _
  · exact .int _
  · exact .str _
/-- a plain thing, or a tuple of such -/
def ElD (H : Hp) (v : V) (d : PyData) : Prop := FlD v d ∨ ∃ (a : Addr) (xs : List V) (ds : List PyData), v = .ref a ∧ H a = some (.tup xs) ∧ d = .tuple ds ∧ Paired FlD xs ds
theorem ElD.keep {H H' : Hp} (s : ∀ a xs, H a = some (.tup xs) → H' a = some (.tup xs)) {v : V} {d : PyData} (h : ElD H v d) : ElD H' v d := h.elim .inl fun ⟨a, xs, ds, e1, e2, e3, e4⟩ => .inr ⟨a, xs, ds, e1, s _ _ e2, e3, e4⟩
theorem dpa_fl {K : PySem.W.Frag} {H : Hp} : ∀ {vs : List V} {ds : List PyData}, Paired FlD vs ds → DpAll K H vs ds
  | _, _, .nil => .nil
  | _, _, .cons h t => .cons h.dp (dpa_fl t)
theorem ElD.dp {K : PySem.W.Frag} {H : Hp} {v : V} {d : PyData} (h : ElD H v d) : Dp K H v d := by
  rcases h with h | ⟨a, xs, ds, rfl, e2, rfl, e4⟩
  · exact h.dp
  · exact .tup (SqT.of e2) (dpa_fl e4)
theorem dpa_el {K : PySem.W.Frag} {H : Hp} : ∀ {vs : List V} {ds : List PyData}, Paired (ElD H) vs ds → DpAll K H vs ds
  | _, _, .nil => .nil
  | _, _, .cons h t => .cons h.dp (dpa_el t)
theorem el_nats {H : Hp} : ∀ l : List Nat, Paired (ElD H) (l.map fun n : Nat => V.int n) (natsD l)
  | [] => .nil
  | _ :: l => .cons (.inl (.int _)) (el_nats l)
theorem el_strs {H : Hp} : ∀ l : List Cs, Paired (ElD H) (l.map sV) (strsD l)
  | [] => .nil
  | _ :: l => .cons (.inl (.str _)) (el_strs l)
theorem el_app {H : Hp} : ∀ {a : List V} {b : List PyData} {c : List V} {d : List PyData}, Paired (ElD H) a b → Paired (ElD H) c d → Paired (ElD H) (a ++ c) (b ++ d)
  | _, _, _, _, .nil, h => h
  | _, _, _, _, .cons x t, h => .cons x (el_app t h)
abbrev oD (r : Option Nat) : PyData := match r with
  | some u => .int u
  | none => .none
theorem fl_oV (r : Option Nat) : FlD (oV r) (oD r) := by
  cases r
  · exact .non
  · exact .int _
end Sw

end

section
set_option maxRecDepth 100000
set_option maxHeartbeats 4000000
/-! sorted(d), sorted(l) of tuples of plain things, as data -/
namespace Sw
open PySem PySem.Spec PyProof.Rows L2 SwA
abbrev tupE (enc : Addr → List PyData) : Addr → PyData := fun a => .tuple (enc a)
/-- the order of data -/
abbrev srtD (enc : Addr → List PyData) (xs : List Addr) : List Addr := xs.mergeSort (PySem.W.dataLe false (tupE enc))
/-- tuples at these places, all of one form -/
def TupsD (H : Hp) (enc : Addr → List PyData) (bs : List Addr) : Prop := (∀ b ∈ bs, ∃ xs, H b = some (.tup xs) ∧ Paired FlD xs (enc b) ∧ (∃ x r, enc b = x :: r) ∧ (enc b).length ≤ 8) ∧ ∀ a ∈ bs, ∀ b ∈ bs, PySem.W.alikeAll (enc a) (enc b) = true
theorem srt_perm (enc : Addr → List PyData) (xs : List Addr) : (srtD enc xs).Perm xs := List.mergeSort_perm _ _
theorem srt_id {enc : Addr → List PyData} {xs : List Addr} (h : xs.Pairwise fun a b => PySem.W.dataLe false (tupE enc) a b = true) : srtD enc xs = xs := List.mergeSort_of_pairwise h
theorem read_fl {h : Heap} {v : V} {d : PyData} {u : Value} (hk : FlD v d) (r1 : RelV v u) : Reads h u d [] := by
  cases hk with
  | non => cases r1; exact .none
  | bl b => cases r1; exact .bool b
  | int i => obtain ⟨t, rfl⟩ := r1; exact .int i t
  | str x => obtain ⟨t, rfl⟩ := r1; exact .str x t
theorem reads_fl {h : Heap} : ∀ {xs : List V} {ds : List PyData} {us : List Value}, Paired FlD xs ds → Vals xs us → ReadsAll h us ds []
  | _, _, _, .nil, r => by cases r; exact .nil
  | _, _, _, .cons hk t, r => by
    cases r with
    | cons r1 r2 => exact ReadsAll.cons (read_fl hk r1) (reads_fl (h := h) t r2)
theorem reads_tup {X : Cx} {pins : List (Addr × Obj)} {σ : L2.St} {H : Hp} {s : Shared} (I : Inv X pins σ H s) {b : Addr} {xs : List V} {ds : List PyData} (hb : H b = some (.tup xs)) (hx : Paired FlD xs ds) : Reads s.heap (.ref b) (.tuple ds) [] := by
  obtain ⟨_, its, rl, o, h1, h2, n, h3⟩ := (show ObjOk X.prog X.w H s.heap b (.tup xs) from I.hok b _ hb)
  exact .tuple h1 h2 h3 (by simpa using reads_fl hx rl)
theorem each_ref : ∀ bs : List Addr, PySem.W.EachIs (fun (v : Value) (b : Addr) => v = Value.ref b) (bs.map Value.ref) bs
  | [] => .nil
  | _ :: bs => .cons rfl (each_ref bs)
theorem each_of_all {R : Value → Addr → Prop} : ∀ {bs : List Addr}, (∀ b ∈ bs, R (Value.ref b) b) → PySem.W.EachIs R (bs.map Value.ref) bs
  | [], _ => .nil
  | b :: bs, h => .cons (h b List.mem_cons_self) (each_of_all fun c hc => h c (List.mem_cons_of_mem _ hc))
theorem out_ref : ∀ {out : List Value} {bs : List Addr}, PySem.W.EachIs (fun (v : Value) (b : Addr) => v = Value.ref b) out bs → out = bs.map Value.ref
  | _, _, .nil => rfl
  | _, _, .cons h t => by rw [h, out_ref t]; rfl
theorem depth_fl : ∀ {xs : List V} {ds : List PyData}, Paired FlD xs ds → PyData.depthAll ds ≤ 1
  | _, _, .nil => by simp [PyData.depthAll]
  | _, _, .cons h t => by
    have := depth_fl t
    rw [PyData.depthAll]
    have h1 : ∀ {v : V} {d : PyData}, FlD v d → d.depth ≤ 1 := fun h => by cases h <;> simp [PyData.depth]
    have := h1 h
    omega
theorem TupsD.al {H : Hp} {enc : Addr → List PyData} {bs : List Addr} (h : TupsD H enc bs) : PySem.W.AllAlike (bs.map (tupE enc)) := by
  intro d hd d' hd'
  obtain ⟨b, hb, rfl⟩ := List.mem_map.mp hd
  obtain ⟨b', hb', rfl⟩ := List.mem_map.mp hd'
  exact h.2 b hb b' hb'
theorem TupsD.so {H : Hp} {enc : Addr → List PyData} {bs : List Addr} (h : TupsD H enc bs) : PySem.W.Sortable (bs.map (tupE enc)) := .inl fun d hd => by
  obtain ⟨b, hb, rfl⟩ := List.mem_map.mp hd
  obtain ⟨_, _, _, ⟨x, r, e⟩, _⟩ := h.1 b hb
  exact ⟨x, r, by show PyData.tuple (enc b) = _; rw [e]⟩
theorem TupsD.dep {H : Hp} {enc : Addr → List PyData} {bs : List Addr} (h : TupsD H enc bs) : ∀ b ∈ bs, (tupE enc b).depth ≤ 2 := fun b hb => by
  obtain ⟨_, _, hx, _⟩ := h.1 b hb
  have := depth_fl hx
  show (PyData.tuple (enc b)).depth ≤ 2
  rw [PyData.depth]
  omega
def rSortedDN (P : Program) (w : World) : List V → Hp → VK → Prop := fun vs H Q => ∃ (d : Addr) (kvs : List KvN) (enc : Addr → List PyData), vs = [.ref d] ∧ DictN P w H d kvs ∧ TupsD H enc (kvs.map (·.2.1)) ∧
  ∀ (p : Addr), H p = none → Q (.ref p) (upd H p (.lst ((srtD enc (kvs.map (·.2.1))).map V.ref)))
theorem relN_keys : ∀ {kvs : List KvN} {xs : List (NestedKey × Addr × Value)}, RelN kvs xs → xs.map (fun x => x.2.1) = kvs.map (fun x => x.2.1)
  | _, _, .nil => rfl
  | _, _, .cons h t => by rw [List.map_cons, List.map_cons, relN_keys t, h.2.1]
theorem cr_sortedDN {X : Cx} {P : Program} {w : World} (hP : X.prog = P) (hw : X.w = w) (hc : X.calm = true) (hu : X.A.units + 20 < cLine) : CallR X (.builtin "sorted") (rSortedDN P w) := by
  subst hP hw
  intro pins s σ H xs us Q I r h
  obtain ⟨d, kvs, enc, rfl, dn, hT, q⟩ := h
  obtain ⟨u, rfl, rx⟩ := r.one
  cases rx
  obtain ⟨⟨z, hs, ks, rel, o, es, ep, ho, hx, hdt, he, hn⟩, _⟩ := (show ObjOk X.prog X.w H s.heap d (DNo X.prog X.w d kvs) from I.hok d _ dn.1)
  have l1 : es.size = ks.length := size_of_entries he
  have l2 : kvs.length = ks.length := Paired.length rel
  refine Calls.call_function_entry PyProof.Rows.kind_sorted PyProof.Rows.plain_sorted PyProof.Rows.entry_sorted (PyProof.Rows.args_sorted1 _) ?_
  unfold Builtin.«sorted»
  refine wpAny_bind (m := checkCount "sorted" 1 1 _) (wpAny_pure ?_)
  refine wpAny_bind (PySem.W.kdu_collect (A := X.A.in1) (kdl_raw hs hx hdt) (I.ok.hd hc) ho (by omega) fun h' tk acc hk it => ?_)
  have ea : acc.toList = ks.map fun x => Value.ref x.2.1 := by
    have hl : acc.toList.length = ks.length := by rw [Array.length_toList, it.1]; exact l1
    apply List.ext_getElem?
    intro j
    rw [List.getElem?_map]
    cases hj : acc.toList[j]? with
    | none =>
      have h1 := List.getElem?_eq_none_iff.mp hj
      rw [List.getElem?_eq_none (by omega)]
      all_goals rfl
    | some v =>
      obtain ⟨en, hen, hv⟩ := it.2 j v (by rw [← Array.getElem?_toList]; exact hj)
      have qe := entry_at he j
      rw [hen] at qe
      cases hb : ks[j]? with
      | none =>
        rw [hb] at qe
        exact nomatch (show some en = none from qe)
      | some b =>
        rw [hb] at qe
        have e2 : en = entryOfKey (nestedKind X.prog X.w) b := Option.some.inj qe
        rw [hv, e2]
        all_goals rfl
  have eb : acc.toList = (kvs.map fun x => x.2.1).map Value.ref := by rw [ea, ← relN_keys rel, List.map_map]; all_goals rfl
  have hbl : (kvs.map fun x => x.2.1).length = ks.length := by rw [List.length_map, l2]
  generalize (kvs.map fun x => x.2.1) = bs0 at *
  rw [eb]
  have hzz : (bs0.map Value.ref).length ≤ sizeLine := by rw [List.length_map]; omega
  have I1 : Inv X pins σ H { s with heap := h', toks := tk } := I.kept hk
  refine wpAny_bind (wpAny_newList ?_ hzz)
  have hoL : (h'.push (seqObj "list" (bs0.map Value.ref).toArray 0)).get? h'.objs.size = some (seqObj "list" (bs0.map Value.ref).toArray 0) := Heap.get?_push_size _ rfl
  show wpAny _ _ _ _ _ { s with heap := h'.push (seqObj "list" (bs0.map Value.ref).toArray 0), toks := tk }
  have hu2 : X.A.in1.units = X.A.units + 1 := Around.in1_units _
  refine wpAny_bind (wpAny_holding (PySem.W.list_sort_data (β := Addr) (R := fun (v : Value) (b : Addr) => v = Value.ref b) (enc := tupE enc) (bs := bs0) (vs := bs0.map Value.ref) (s := { s with heap := h'.push (seqObj "list" (bs0.map Value.ref).toArray 0), toks := tk }) hoL (each_ref bs0)
    (each_of_all fun b hb => ?_) hT.al hT.so (by omega) (fun b hb => ?_) fun out hlen hout => ?_))
  · obtain ⟨xs, e1, e2, _⟩ := hT.1 b hb
    have rd := reads_tup I1 e1 e2
    exact ⟨[], PyProof.Rows.Reads.keeps (fun b o e => Heap.get?_push_of_some _ e) rd, by simp⟩
  · have := hT.dep b hb
    omega
  · obtain rfl := out_ref hout
    obtain ⟨e', he'⟩ := PyProof.Rows.sortedHeap_at (vs := bs0.map Value.ref) (out := ((srtD enc bs0).map Value.ref).toArray) hoL
    have hlen2 : ((srtD enc bs0).map V.ref).length ≤ sizeLine := by
      rw [List.length_map, (srt_perm enc bs0).length_eq]
      omega
    refine wpAny_pure ⟨_, rfl, .ref h'.objs.size, upd H h'.objs.size (.lst ((srtD enc bs0).map V.ref)), I1.laid (t' := tk) (fun b u e => ?_) (Nat.le_refl _)
      (show ObjOk X.prog X.w _ _ _ (.lst ((srtD enc bs0).map V.ref)) from ⟨hlen2, (srtD enc bs0).map Value.ref, e', vals_refs _, he'⟩), rfl, q _ (I1.hok.fresh (Nat.le_refl _))⟩
    have hb : b < h'.objs.size := Heap.lt_size e
    rw [PyProof.Rows.sortedHeap_old (Nat.ne_of_lt hb) (by rw [size_push']; exact Nat.lt_succ_of_lt hb)]
    exact Heap.get?_push_of_some _ e
def rSortedLD (K : PySem.W.Frag) : List V → Hp → VK → Prop := fun vs H Q => ∃ (l : Addr) (bs : List Addr) (enc : Addr → List PyData), vs = [.ref l] ∧ SqL K H l (bs.map V.ref) ∧ TupsD H enc bs ∧
  ∀ (p : Addr), H p = none → Q (.ref p) (upd H p (.lst ((srtD enc bs).map V.ref)))
end Sw

end

section
set_option maxRecDepth 100000
set_option maxHeartbeats 4000000
/-! min(list of tuples of plain things); the least of the faults -/
namespace Sw
open PySem PySem.Spec PyProof.Rows L2 SwA
def rMinLD (K : PySem.W.Frag) : List V → Hp → VK → Prop := fun vs H Q => ∃ (l : Addr) (bs : List Addr) (enc : Addr → List PyData) (x : PyData) (xs : List PyData), vs = [.ref l] ∧ SqL K H l (bs.map V.ref) ∧ TupsD H enc bs ∧ bs.map (tupE enc) = x :: xs ∧
  ∀ b ∈ bs, tupE enc b = PySem.W.minD x xs → Q (.ref b) H
theorem readsAll_refs {X : Cx} {pins : List (Addr × Obj)} {σ : L2.St} {H : Hp} {s : Shared} (I : Inv X pins σ H s) {enc : Addr → List PyData} : ∀ {bs : List Addr}, (∀ b ∈ bs, ∃ xs, H b = some (.tup xs) ∧ Paired FlD xs (enc b)) → ReadsAll s.heap (bs.map Value.ref) (bs.map (tupE enc)) []
  | [], _ => .nil
  | b :: bs, h => by
    obtain ⟨xs, e1, e2⟩ := h b List.mem_cons_self
    exact ReadsAll.cons (reads_tup I e1 e2) (readsAll_refs I fun c hc => h c (List.mem_cons_of_mem _ hc))
theorem depth_tups {enc : Addr → List PyData} : ∀ {bs : List Addr}, (∀ b ∈ bs, (tupE enc b).depth ≤ 2) → PyData.depthAll (bs.map (tupE enc)) ≤ 2
  | [], _ => by simp [PyData.depthAll]
  | b :: bs, h => by
    have h1 := h b List.mem_cons_self
    have h2 := depth_tups (bs := bs) fun c hc => h c (List.mem_cons_of_mem _ hc)
    rw [List.map_cons, PyData.depthAll]
    omega
theorem cr_minLD {X : Cx} (hc : X.calm = true) (hu : X.A.units + 4 < cLine) : CallR X (.builtin "min") (rMinLD X.K) := by
  intro pins s σ H vs us Q I r h
  obtain ⟨l, bs, enc, x, xs, rfl, hs, hT, hbx, q⟩ := h
  obtain ⟨its, rv, hl, hz⟩ := I.list hs
  rw [Vals.ref1 r]
  obtain rfl := refs_at rv
  have hr : ReadsAll s.heap (bs.map Value.ref).toArray.toList (x :: xs) [] := by
    rw [← hbx]
    exact readsAll_refs I fun b hb => by
      obtain ⟨ys, e1, e2, _⟩ := hT.1 b hb
      exact ⟨ys, e1, e2⟩
  have ha : PySem.W.AlikeAll (x :: xs) := by
    rw [← hbx]
    refine ⟨hT.al, fun d hd => ?_⟩
    obtain ⟨b, _, rfl⟩ := List.mem_map.mp hd
    exact fun z => by cases z
  have hdep : PyData.depthAll (x :: xs) ≤ 2 := by
    rw [← hbx]
    exact depth_tups hT.dep
  have hh : X.A.in1.handled = none := I.ok.hd hc
  have hn : (bs.map Value.ref).toArray.size = xs.length + 1 := by
    have := congrArg List.length hbx
    rw [List.length_map] at this
    rw [List.size_toArray, List.length_map, this]
    rfl
  have hu1 : X.A.in1.units = X.A.units + 1 := Around.in1_units _
  refine call_min_walkH (PySem.W.iter_listW (A := X.A.in1) hh hl.isList fun s₂ e W st hfp hw hk => ?_)
  refine ⟨_, _, _, _, _, _, _, s.heap, _, rfl, W, st, hfp, by omega, hw, hk, PySem.W.cmpIn_lt (A := X.A.in1) hr ha (by omega), fun v s' hP m => ?_⟩
  obtain ⟨h', tk, rfl, hk'⟩ := PySem.W.moved_old e rfl m
  have e2 := (PySem.W.argBest_fold PySem.W.dataLt PyData.none x xs xs.length (Nat.le_refl _)).2
  rw [List.take_length] at e2
  have e1 : (bs.map Value.ref).toArray.size - 1 = xs.length := by omega
  rw [e1] at hP
  generalize argBest (fun i j => PySem.W.dataLt ((x :: xs).getD i PyData.none) ((x :: xs).getD j PyData.none)) xs.length = n at hP e2
  rw [List.getElem?_toArray, List.getElem?_map] at hP
  cases hb : bs[n]? with
  | none => rw [hb] at hP; cases hP
  | some b =>
    rw [hb] at hP
    cases hP
    refine ⟨.ref b, H, I.kept hk', rfl, q b (List.mem_of_getElem? hb) ?_⟩
    rw [← hbx, List.getD_eq_getElem?_getD, List.getElem?_map, hb] at e2
    exact e2
/-! ### the faults' least -/
abbrev Flt := Nat × Nat × Cs
def fltD (i : Nat) (f : Flt) : List PyData := [.int f.1, .int f.2.1, .int i, .str (sx f.2.2)]
def fltsD : Nat → List Flt → List PyData
  | _, [] => []
  | i, f :: fs => .tuple (fltD i f) :: fltsD (i + 1) fs
def minF (a : Flt) : List Flt → Flt
  | [] => a
  | y :: r => minF (if y.1 < a.1 ∨ (y.1 = a.1 ∧ y.2.1 < a.2.1) then y else a) r
theorem flt_lt {i k : Nat} (h : k < i) (y a : Flt) : PySem.W.dataLt (.tuple (fltD i y)) (.tuple (fltD k a)) = decide (y.1 < a.1 ∨ (y.1 = a.1 ∧ y.2.1 < a.2.1)) := by
  unfold fltD
  rw [PySem.W.dataLt_tuple, PySem.W.dataLt_cons (by simp [PySem.W.alike]), PySem.W.dataLt_cons (by simp [PySem.W.alike]), PySem.W.dataLt_cons (by simp [PySem.W.alike]), PySem.W.dataLt_int, PySem.W.dataLt_int, PySem.W.dataLt_int]
  simp only [PyData.eqv, beq_iff_eq]
  have h3 : ¬ (i : Int) = (k : Int) := by omega
  have h4 : ¬ (i : Int) < (k : Int) := by omega
  rw [if_neg h3, decide_eq_false h4]
  by_cases h1 : y.1 = a.1
  · rw [if_pos (by rw [h1])]
    by_cases h2 : y.2.1 = a.2.1
    · rw [if_pos (by rw [h2])]
      exact (decide_eq_false (by omega)).symm
    · rw [if_neg (by omega)]
      exact decide_eq_decide.mpr (by omega)
  · rw [if_neg (by omega)]
    exact decide_eq_decide.mpr (by omega)
theorem flts_min : ∀ {r : List Flt} {i k : Nat} {a : Flt}, k < i → ∃ j, PySem.W.minD (.tuple (fltD k a)) (fltsD i r) = .tuple (fltD j (minF a r))
  | [], i, k, a, _ => ⟨k, rfl⟩
  | y :: r, i, k, a, h => by
    have e : PySem.W.minD (.tuple (fltD k a)) (fltsD i (y :: r)) = PySem.W.minD (if PySem.W.dataLt (.tuple (fltD i y)) (.tuple (fltD k a)) = true then .tuple (fltD i y) else .tuple (fltD k a)) (fltsD (i + 1) r) := rfl
    rw [e, flt_lt h]
    unfold minF
    by_cases hc : y.1 < a.1 ∨ (y.1 = a.1 ∧ y.2.1 < a.2.1)
    · rw [if_pos (decide_eq_true hc), if_pos hc]
      exact flts_min (Nat.lt_succ_self i)
    · rw [if_neg (by rw [decide_eq_false hc]; decide), if_neg hc]
      exact flts_min (Nat.lt_succ_of_lt h)
/-- the data of a tuple at a place -/
noncomputable def encF (H : Hp) (a : Addr) : List PyData := Classical.epsilon fun ds => ∃ xs, H a = some (.tup xs) ∧ Paired FlD xs ds
theorem fld_inj {v : V} {d d' : PyData} (h : FlD v d) (h' : FlD v d') : d = d' := by cases h <;> cases h' <;> rfl
theorem flds_inj : ∀ {vs : List V} {ds ds' : List PyData}, Paired FlD vs ds → Paired FlD vs ds' → ds = ds'
  | _, _, _, .nil, .nil => rfl
  | _, _, _, .cons h t, .cons h' t' => by rw [fld_inj h h', flds_inj t t']
theorem encF_at {H : Hp} {a : Addr} {xs : List V} {ds : List PyData} (h : H a = some (.tup xs)) (hd : Paired FlD xs ds) : encF H a = ds := by
  obtain ⟨ys, e1, e2⟩ := Classical.epsilon_spec (p := fun ds => ∃ xs, H a = some (.tup xs) ∧ Paired FlD xs ds) ⟨ds, xs, h, hd⟩
  rw [h] at e1
  cases e1
  exact flds_inj e2 hd
theorem flt_fl (i : Nat) (f : Flt) : Paired FlD [.int f.1, .int f.2.1, .int (i : Nat), sV f.2.2] (fltD i f) := .cons (.int _) (.cons (.int _) (.cons (.int _) (.cons (.str _) .nil)))
theorem flts_enc {H : Hp} : ∀ {as : List Addr} {i : Nat} {fs : List Flt}, FaultsAt H i as fs → as.map (tupE (encF H)) = fltsD i fs ∧ ∀ a ∈ as, ∃ j f, f ∈ fs ∧ H a = some (.tup [.int f.1, .int f.2.1, .int (j : Nat), sV f.2.2]) ∧ encF H a = fltD j f
  | [], i, [], _ => ⟨rfl, fun a ha => by cases ha⟩
  | a :: as, i, f :: fs, h => by
    obtain ⟨e1, e2⟩ := flts_enc h.2
    have ea := encF_at h.1 (flt_fl i f)
    refine ⟨?_, fun b hb => ?_⟩
    · rw [List.map_cons, e1]
      show PyData.tuple (encF H a) :: _ = PyData.tuple (fltD i f) :: _
      rw [ea]
    · rcases List.mem_cons.mp hb with rfl | hb
      · exact ⟨i, f, List.mem_cons_self, h.1, ea⟩
      · obtain ⟨j, g, hg, q1, q2⟩ := e2 b hb
        exact ⟨j, g, List.mem_cons_of_mem _ hg, q1, q2⟩
  | [], _, _ :: _, h => h.elim
  | _ :: _, _, [], h => h.elim
theorem flts_tups {H : Hp} {as : List Addr} {fs : List Flt} (h : FaultsAt H 0 as fs) : TupsD H (encF H) as := by
  obtain ⟨_, hs⟩ := flts_enc h
  refine ⟨fun a ha => ?_, fun a ha b hb => ?_⟩
  · obtain ⟨j, f, _, e1, e2⟩ := hs a ha
    exact ⟨_, e1, by rw [e2]; exact flt_fl j f, ⟨_, _, e2⟩, by rw [e2]; show 4 ≤ 8; decide⟩
  · obtain ⟨j, f, _, _, e2⟩ := hs a ha
    obtain ⟨j', f', _, _, e2'⟩ := hs b hb
    rw [e2, e2']
    simp [fltD, PySem.W.alikeAll, PySem.W.alike]
/-- min of the faults: its tuple tells the least fault -/
theorem min_flts {K : PySem.W.Frag} {H : Hp} {l : Addr} {as : List Addr} {f : Flt} {fs : List Flt} {Q : VK} (hl : H l = some (.lst (as.map V.ref))) (h : FaultsAt H 0 as (f :: fs))
    (q : ∀ (b : Addr) (j : Nat), H b = some (.tup [.int (minF f fs).1, .int (minF f fs).2.1, .int (j : Nat), sV (minF f fs).2.2]) → Q (.ref b) H) : rMinLD K [.ref l] H Q := by
  obtain ⟨e1, hs⟩ := flts_enc h
  refine ⟨l, as, encF H, .tuple (fltD 0 f), fltsD 1 fs, rfl, SqL.of hl, flts_tups h, e1, fun b hb eb => ?_⟩
  obtain ⟨j, em⟩ := flts_min (r := fs) (i := 1) (k := 0) (a := f) (by decide)
  rw [em] at eb
  obtain ⟨j', g, _, h1, h2⟩ := hs b hb
  have e3 : fltD j' g = fltD j (minF f fs) := by
    rw [← h2]
    exact PyData.tuple.inj eb
  have ej : (j' : Int) = j := by
    have := congrArg (fun l => l[2]?) e3
    exact PyData.int.inj (Option.some.inj this)
  have e4 : g = minF f fs := by
    unfold fltD at e3
    injection e3 with a1 a2
    injection a2 with b1 b2
    injection b2 with c1 c2
    injection c2 with d1 d2
    injection a1 with a1
    injection b1 with b1
    injection d1 with d1
    have h1 : g.1 = (minF f fs).1 := by omega
    have h2 : g.2.1 = (minF f fs).2.1 := by omega
    have h3 : g.2.2 = (minF f fs).2.2 := sx_inj d1
    exact Prod.ext h1 (Prod.ext h2 h3)
  subst e4
  exact q b j' h1
end Sw

end

section
set_option maxRecDepth 100000
set_option maxHeartbeats 4000000
/-! k02, the plain law: the marked plans, each with its fault -/
namespace Sw
open PySem
def cHead : Cs := txt "corridor 9; signs no red blue;\nmoods go calm red;\n"
def cLate : Cs := txt "\nrobot 50 left; put zz 60; when zz zz leave zz on zz;"
def cOne : Cs := txt "robot 8 right;\n"
def cLast : Cs := txt " robot 9 left;" ++ cLate
def cHd2 : Cs := cHead ++ cOne
def bigK (k : Nat) : List Cs := (List.range 30).map fun r => dec (9 + 30 * k + r)
def cFull : Cs := txt "corridor 16; signs a b c d;" ++ 10 :: txt "moods a b c d e f; " ++ txt "robot 0 left; robot 15 right;" ++ 10 :: txt "robot 15 left; "
def cRules : Cs := txt "when f d leave d stay f; when a d leave a on f; when f a leave b back a; put a 0; put d 15; put b 7;"
/-- ahead of the mark, behind it, the reason -/
abbrev Mk := Cs × Cs × Cs
def colL (l : Cs) : Nat := l.foldl (fun c x => if x = 10 then 0 else c + 1) 0
def checkM (q : Mk) : Bool := decide (64 ∉ q.1) && (decide (64 ∉ q.2.1) && (decide (q.1.length ≤ 2000) && (decide (q.2.1.length ≤ 2000) && match loads (q.1 ++ q.2.1) with
  | .error _ => false
  | .ok (n, s) => match s.faults with
    | [] => decide (q.2.2 = [])
    | f :: fs => decide (q.2.2 ≠ []) && (decide (minF f fs = ((rowsOf q.1).length - 1, colL q.1, q.2.2)) && q.2.2.all fun c => decide (c < 128)))))
theorem big_mem {r : Nat} (h : r < 90) : dec (9 + r) ∈ bigK 0 ∨ dec (9 + r) ∈ bigK 1 ∨ dec (9 + r) ∈ bigK 2 := by
  have key : ∀ k, k < 3 → ∀ q, q < 30 → dec (9 + 30 * k + q) ∈ bigK k := fun k _ q hq => List.mem_map.mpr ⟨q, List.mem_range.mpr hq, rfl⟩
  have e : 9 + r = 9 + 30 * (r / 30) + r % 30 := by omega
  have h3 : r / 30 < 3 := by omega
  have m := key (r / 30) h3 (r % 30) (by omega)
  rw [← e] at m
  have h4 : r / 30 = 0 ∨ r / 30 = 1 ∨ r / 30 = 2 := by omega
  rcases h4 with z | z | z
  · exact .inl (z ▸ m)
  · exact .inr (.inl (z ▸ m))
  · exact .inr (.inr (z ▸ m))
def f00 (x : Cs) : Mk := (txt "corridor ", x ++ (txt "; signs a a; moods b;" ++ cLast), wCorridor)
theorem o00 : [txt "0", txt "17", txt "99"].all (fun x => checkM (f00 x)) = true := by decide +kernel
def f01 (x : Cs) : Mk := (txt "corridor 9;\nsigns a b c ", x ++ (txt " d; moods a a;" ++ cLast), rDuplicate)
theorem o01 : [txt "a", txt "b", txt "c"].all (fun x => checkM (f01 x)) = true := by decide +kernel
def f02 (x : Cs) : Mk := (txt "corridor 9; signs a;\nmoods a b c ", x ++ (txt " d;" ++ cLast), rDuplicate)
theorem o02 : [txt "a", txt "b", txt "c"].all (fun x => checkM (f02 x)) = true := by decide +kernel
def f03 (x : Cs) : Mk := (txt "corridor 9; signs a b c d ", x ++ (txt " g a; moods a;" ++ cLast), wSigns)
theorem o03 : [txt "e", txt "f"].all (fun x => checkM (f03 x)) = true := by decide +kernel
def f04 (x : Cs) : Mk := (txt "corridor 9; signs a; moods a b c d e f ", x ++ (txt " i a;" ++ cLast), wMoods)
theorem o04 : [txt "g", txt "h"].all (fun x => checkM (f04 x)) = true := by decide +kernel
def f05 (x : Cs) : Mk := (cHead ++ (cOne ++ cOne ++ cOne) ++ txt "put red 0;\n ", txt "robot " ++ (x ++ (txt " left;" ++ cLate)), rRobots)
theorem o05_0 : (bigK 0).all (fun x => checkM (f05 x)) = true := by decide +kernel
theorem o05_1 : (bigK 1).all (fun x => checkM (f05 x)) = true := by decide +kernel
theorem o05_2 : (bigK 2).all (fun x => checkM (f05 x)) = true := by decide +kernel
theorem o05 {r : Nat} (h : r < 90) : checkM (f05 (dec (9 + r))) = true := by
  rcases big_mem h with m | m | m
  · exact List.all_eq_true.mp o05_0 _ m
  · exact List.all_eq_true.mp o05_1 _ m
  · exact List.all_eq_true.mp o05_2 _ m
theorem o05_z : checkM (f05 (txt "0")) = true := by decide +kernel
def f06 (x : Cs) : Mk := (cHead ++ txt "robot ", x ++ (txt " left;" ++ cLate), rTile)
theorem o06_0 : (bigK 0).all (fun x => checkM (f06 x)) = true := by decide +kernel
theorem o06_1 : (bigK 1).all (fun x => checkM (f06 x)) = true := by decide +kernel
theorem o06_2 : (bigK 2).all (fun x => checkM (f06 x)) = true := by decide +kernel
theorem o06 {r : Nat} (h : r < 90) : checkM (f06 (dec (9 + r))) = true := by
  rcases big_mem h with m | m | m
  · exact List.all_eq_true.mp o06_0 _ m
  · exact List.all_eq_true.mp o06_1 _ m
  · exact List.all_eq_true.mp o06_2 _ m
def f07 (x : Cs) : Mk := (cHead ++ cOne ++ txt "put red ", x ++ (txt ";" ++ cLate), rTile)
theorem o07_0 : (bigK 0).all (fun x => checkM (f07 x)) = true := by decide +kernel
theorem o07_1 : (bigK 1).all (fun x => checkM (f07 x)) = true := by decide +kernel
theorem o07_2 : (bigK 2).all (fun x => checkM (f07 x)) = true := by decide +kernel
theorem o07 {r : Nat} (h : r < 90) : checkM (f07 (dec (9 + r))) = true := by
  rcases big_mem h with m | m | m
  · exact List.all_eq_true.mp o07_0 _ m
  · exact List.all_eq_true.mp o07_1 _ m
  · exact List.all_eq_true.mp o07_2 _ m
def f09 (x : Cs) : Mk := (cHd2 ++ txt "when ", x ++ (txt " zz leave zz on zz;" ++ cLate), rUnknown)
theorem o09 : [txt "zz", txt "blue", txt "no"].all (fun x => checkM (f09 x)) = true := by decide +kernel
def f10 (x : Cs) : Mk := (cHd2 ++ txt "when red ", x ++ (txt " leave zz on zz;" ++ cLate), rUnknown)
theorem o10 : [txt "zz", txt "go", txt "calm"].all (fun x => checkM (f10 x)) = true := by decide +kernel
def f11 (x : Cs) : Mk := (cHd2 ++ txt "when go red leave ", x ++ (txt " back zz;" ++ cLate), rUnknown)
theorem o11 : [txt "zz", txt "go"].all (fun x => checkM (f11 x)) = true := by decide +kernel
def f12 (x : Cs) : Mk := (cHd2 ++ txt "when red red leave red stay ", x ++ (txt ";" ++ cLate), rUnknown)
theorem o12 : [txt "zz", txt "no"].all (fun x => checkM (f12 x)) = true := by decide +kernel
def f13 (x : Cs) : Mk := (cHd2 ++ txt "put red 8; put no 0;\nput blue ", x ++ (txt ";" ++ cLate), rAgain)
theorem o13 : [txt "8", txt "0"].all (fun x => checkM (f13 x)) = true := by decide +kernel
def f14 (x : Cs) : Mk := (cHd2 ++ txt "when go no leave no on go;\n ", x ++ (txt " go no leave zz back zz;" ++ cLate), rTwice)
theorem o14 : [txt "when"].all (fun x => checkM (f14 x)) = true := by decide +kernel
def f15 (x : Cs) : Mk := (txt "corridor 9; signs a b c d ", x ++ (txt "; moods go;\nrobot 0 left; put e 0;" ++ cLate), wSigns)
theorem o15 : [txt "e"].all (fun x => checkM (f15 x)) = true := by decide +kernel
def f16 (x : Cs) : Mk := ([], x ++ (cFull ++ cRules), [])
theorem o16 : [txt ""].all (fun x => checkM (f16 x)) = true := by decide +kernel
def f08 (y x : Cs) : Mk := (cHead ++ cOne ++ txt "put ", y ++ (txt " " ++ (x ++ (txt ";" ++ cLate))), rUnknown)
theorem o08_zz_0 : (bigK 0).all (fun x => checkM (f08 (txt "zz") x)) = true := by decide +kernel
theorem o08_zz_1 : (bigK 1).all (fun x => checkM (f08 (txt "zz") x)) = true := by decide +kernel
theorem o08_zz_2 : (bigK 2).all (fun x => checkM (f08 (txt "zz") x)) = true := by decide +kernel
theorem o08_go_0 : (bigK 0).all (fun x => checkM (f08 (txt "go") x)) = true := by decide +kernel
theorem o08_go_1 : (bigK 1).all (fun x => checkM (f08 (txt "go") x)) = true := by decide +kernel
theorem o08_go_2 : (bigK 2).all (fun x => checkM (f08 (txt "go") x)) = true := by decide +kernel
theorem o08_calm_0 : (bigK 0).all (fun x => checkM (f08 (txt "calm") x)) = true := by decide +kernel
theorem o08_calm_1 : (bigK 1).all (fun x => checkM (f08 (txt "calm") x)) = true := by decide +kernel
theorem o08_calm_2 : (bigK 2).all (fun x => checkM (f08 (txt "calm") x)) = true := by decide +kernel
theorem o08 {y : Cs} {r : Nat} (hy : y ∈ ([txt "zz", txt "go", txt "calm"] : List Cs)) (h : r < 90) : checkM (f08 y (dec (9 + r))) = true := by
  simp only [List.mem_cons, List.not_mem_nil, or_false] at hy
  rcases hy with rfl | rfl | rfl
  · rcases big_mem h with m | m | m
    · exact List.all_eq_true.mp o08_zz_0 _ m
    · exact List.all_eq_true.mp o08_zz_1 _ m
    · exact List.all_eq_true.mp o08_zz_2 _ m
  · rcases big_mem h with m | m | m
    · exact List.all_eq_true.mp o08_go_0 _ m
    · exact List.all_eq_true.mp o08_go_1 _ m
    · exact List.all_eq_true.mp o08_go_2 _ m
  · rcases big_mem h with m | m | m
    · exact List.all_eq_true.mp o08_calm_0 _ m
    · exact List.all_eq_true.mp o08_calm_1 _ m
    · exact List.all_eq_true.mp o08_calm_2 _ m
end Sw

end

section
set_option maxRecDepth 100000
set_option maxHeartbeats 4000000
/-! texts with a mark: index, count, rfind, replace -/
namespace Sw
open PySem PySem.Spec PyProof.Rows L2 SwA PySem.StrLaws
theorem tl_sx (l : Cs) : TL.tl (sx l) = l := by simp [TL.tl, sx]
theorem at_one {l : Cs} {y : Str} {c i : Nat} (hy : TL.tl y = [c]) : At (sx l) y (sx l).length i ↔ l[i]? = some c := by
  rw [TL.at_iff (by rw [hy]; simp), hy, tl_sx]
  unfold TL.pre
  have e : (l.drop i)[0]? = l[i]? := by rw [List.getElem?_drop]; simp
  rw [← e]
  cases h : l.drop i with
  | nil => simp
  | cons d r => simp
theorem tl_at : TL.tl ("@" : Str) = [64] := by decide +kernel
theorem tl_nl : TL.tl ("\n" : Str) = [10] := by decide +kernel
theorem index_sx {a b : Cs} (h : 64 ∉ a) : ∃ rest, Builtin.Str.occurrences (sx (a ++ 64 :: b)) "@" 0 (sx (a ++ 64 :: b)).length 1 = a.length :: rest := by
  have hat : (a ++ 64 :: b)[a.length]? = some 64 := by rw [List.getElem?_append_right (Nat.le_refl _), Nat.sub_self]; rfl
  rcases occ_head (sx (a ++ 64 :: b)) "@" 1 (Nat.le_refl 1) with ⟨_, hn⟩ | ⟨i, rest, e, h1, h2⟩
  · exact absurd ((at_one tl_at).mpr hat) (hn a.length)
  · have hi := (at_one tl_at).mp h1
    have e2 : i = a.length := by
      rcases Nat.lt_trichotomy i a.length with z | z | z
      · rw [List.getElem?_append_left z] at hi
        exact absurd (List.mem_of_getElem? hi) h
      · exact z
      · exact absurd ((at_one tl_at).mpr hat) (h2 _ z)
    exact ⟨rest, by rw [e, e2]⟩
theorem count_sx (l : Cs) : Txt.count (sx l) "\n" = ((rowsOf l).length - 1 : Nat) := by
  have e := congrArg List.length (split_sx l)
  rw [List.length_map] at e
  have key : (Txt.split (sx l) "\n").length = (Builtin.Str.occurrences (sx l) "\n" 0 (sx l).length ((sx l).length + 1)).length + 1 := by
    unfold Txt.split
    split
    · rename_i hc
      rw [Bool.or_eq_true, decide_eq_true_eq, decide_eq_true_eq] at hc
      rcases hc with hc | hc
      · have hl : (sx l).length = 0 := by
          have : ("\n" : Str).length = 1 := by decide +kernel
          omega
        rcases occ_head (sx l) "\n" ((sx l).length + 1) (by omega) with ⟨e2, _⟩ | ⟨i, r, _, h1, _⟩
        · rw [e2]
          rfl
        · have := (at_one tl_nl).mp h1
          rw [len_sx] at hl
          rw [List.length_eq_zero_iff.mp hl] at this
          simp at this
      · exact absurd hc (TL.kind_ok (by decide +kernel))
    · split
      · rename_i hc
        rw [List.isEmpty_iff.mp hc]
        rfl
      · rw [partsBetween_eq]
        have pl : ∀ (x : Str) (w : Nat) (cuts : List Nat) (a : Nat), (partsFrom x w a cuts).length = cuts.length + 1 := by
          intro x w cuts
          induction cuts with
          | nil => intro a; rfl
          | cons c r ih => intro a; show (partsFrom x w (c + w) r).length + 1 = _; rw [ih]; rfl
        exact pl _ _ _ _
  unfold Txt.count
  have : (Builtin.Str.occurrences (sx l) "\n" 0 (sx l).length ((sx l).length + 1)).length = (rowsOf l).length - 1 := by omega
  rw [this]
theorem colL_app : ∀ (b : Cs) (n : Nat), 10 ∉ b → b.foldl (fun c x => if x = 10 then 0 else c + 1) n = n + b.length
  | [], n, _ => rfl
  | c :: b, n, h => by
    rw [List.foldl_cons, if_neg fun z => h (by rw [z]; exact List.mem_cons_self), colL_app b _ fun z => h (List.mem_cons_of_mem _ z), List.length_cons]
    omega
theorem colL_last {a b : Cs} (h : 10 ∉ b) : colL (a ++ 10 :: b) = b.length := by
  unfold colL
  rw [List.foldl_append, List.foldl_cons, if_pos rfl, colL_app b 0 h, Nat.zero_add]
theorem rfind_sx (l : Cs) : (l.length : Int) - Txt.rfind (sx l) "\n" - 1 = (colL l : Nat) := by
  unfold Txt.rfind
  rcases last_spec (sx l) "\n" with ⟨e, hn⟩ | ⟨i, e, h1, h2⟩
  · rw [e]
    have h10 : 10 ∉ l := fun z => by
      obtain ⟨i, hi⟩ := List.getElem?_of_mem z
      exact hn i ((at_one tl_nl).mpr hi)
    have : colL l = l.length := by
      unfold colL
      rw [colL_app l 0 h10, Nat.zero_add]
    rw [this]
    show (l.length : Int) - -1 - 1 = _
    omega
  · rw [e]
    have hi := (at_one tl_nl).mp h1
    have hil := (List.getElem?_eq_some_iff.mp hi).1
    have el : l = l.take i ++ 10 :: l.drop (i + 1) := by
      have : l[i] = 10 := (List.getElem?_eq_some_iff.mp hi).2
      rw [← this, List.getElem_cons_drop, List.take_append_drop]
    have h10 : 10 ∉ l.drop (i + 1) := fun z => by
      obtain ⟨j, hj⟩ := List.getElem?_of_mem z
      rw [List.getElem?_drop] at hj
      exact h2 (i + 1 + j) (by omega) ((at_one tl_nl).mpr hj)
    have hc : colL l = (l.drop (i + 1)).length := by
      conv => lhs; rw [el]
      exact colL_last h10
    rw [hc, List.length_drop]
    show (l.length : Int) - (i : Int) - 1 = _
    omega
theorem repl_mark : ∀ l : Cs, replL [64] [] l = l.filter fun c => !decide (c = 64)
  | [] => replL_nil
  | c :: l => by
    by_cases h : c = 64
    · subst h
      rw [replL_hit (by simp) rfl]
      show [] ++ replL [64] [] l = _
      rw [repl_mark l]
      rfl
    · rw [replL_miss (by intro z; exact h (List.cons.inj z).1), repl_mark l, List.filter_cons, if_pos (by rw [decide_eq_false h]; rfl)]
theorem filter_no {l : Cs} (h : 64 ∉ l) : (l.filter fun c => !decide (c = 64)) = l := by
  refine List.filter_eq_self.mpr fun c hc => ?_
  have hne : ¬ c = 64 := fun z => by
    subst z
    exact h hc
  rw [decide_eq_false hne]
  rfl
theorem replace_sx {a b : Cs} (ha : 64 ∉ a) (hb : 64 ∉ b) : Txt.replace (sx (a ++ 64 :: b)) "@" "" = sx (a ++ b) := by
  have := replace_list (x := sx (a ++ 64 :: b)) (y := "@") (z := "") (by decide +kernel)
  have a1 : ("@" : Str).cps.toList = [64] := tl_at
  have a2 : ("" : Str).cps.toList = [] := by decide +kernel
  have a3 : (sx (a ++ 64 :: b)).cps.toList = a ++ 64 :: b := tl_sx _
  rw [a1, a2, a3, repl_mark, List.filter_append, List.filter_cons, if_neg (by decide), filter_no ha, filter_no hb] at this
  exact TL.ext_tl (this.trans (tl_sx _).symm)
end Sw

end

section
set_option maxRecDepth 100000
set_option maxHeartbeats 4000000
/-! a text that is read without a fault is a good plan -/
namespace Sw
open PySem
section
variable {T : List Tk}
theorem word_inv {w : Cs} {st s : PSt} {t : Tk} (h : takeWord T w st = .ok (t, s)) : t = peek T st ∧ s = st.next := by
  unfold takeWord at h
  split at h
  · injection h with h
    injection h with h1 h2
    exact ⟨h1.symm, h2.symm⟩
  · cases h
theorem take_inv {k : Kd} {st s : PSt} {t : Tk} (h : take T k st = .ok (t, s)) : t = peek T st ∧ s = st.next ∧ t.kind = k := by
  unfold take at h
  split at h
  · rename_i hk
    injection h with h
    injection h with h1 h2
    exact ⟨h1.symm, h2.symm, h1 ▸ hk⟩
  · cases h
theorem kw_inv {ws : List Cs} {st s : PSt} {t : Tk} (h : takeKw T ws st = .ok (t, s)) : s = st.next ∧ t.text ∈ ws := by
  unfold takeKw at h
  split at h
  · rename_i hk
    injection h with h
    injection h with h1 h2
    exact ⟨h2.symm, h1 ▸ hk.2⟩
  · cases h
theorem found_ne (st : PSt) (r : Cs) (t : Tk) : (st.found r t).faults ≠ [] := by
  show st.faults ++ [_] ≠ []
  simp
theorem tile_inv {n x : Nat} {st s : PSt} (h : tileOf T n st = .ok (x, s)) (hf : s.faults = []) : s = st.next ∧ x < n := by
  unfold tileOf at h
  cases h1 : take T .number st with
  | error e => rw [h1] at h; cases h
  | ok p =>
    obtain ⟨t, s1⟩ := p
    obtain ⟨_, rfl, _⟩ := take_inv h1
    rw [h1] at h
    simp only at h
    injection h with h
    injection h with ha hb
    by_cases hn : n ≤ numVal t.text
    · rw [if_pos hn] at hb
      rw [← hb] at hf
      exact absurd hf (found_ne _ _ _)
    · rw [if_neg hn] at hb
      exact ⟨hb.symm, by omega⟩
theorem num_clean {ns : List Cs} {t : Tk} {st s : PSt} {i : Nat} (h : numberOf ns t st = (i, s)) (hf : s.faults = []) : s = st ∧ i < ns.length := by
  unfold numberOf at h
  split at h
  · rename_i hm
    injection h with h1 h2
    exact ⟨h2.symm, by rw [← h1]; exact List.idxOf_lt_length_of_mem hm⟩
  · injection h with h1 h2
    rw [← h2] at hf
    exact absurd hf (found_ne _ _ _)
structure Inv3 (n : Nat) (st : PSt) : Prop where
  rt : ∀ r ∈ st.robots, r.1 < n
  r3 : st.robots.length ≤ 3
  rn : (st.rules.map (·.1)).Nodup
  ru : ∀ kv ∈ st.rules, RuleOk st.signs.length st.moods.length kv
  sp : ∀ q ∈ st.spots, q.2 < st.signs.length
/-- what a statement leaves: no fault before, names as they were -/
structure Go3 (n : Nat) (st s : PSt) : Prop where
  fa : st.faults = []
  sg : s.signs = st.signs
  mo : s.moods = st.moods
  ro : st.robots.length ≤ s.robots.length
  iv : Inv3 n st → Inv3 n s
theorem robot_q {n : Nat} {st s : PSt} {u : Unit} (h : parseRobot T n st = .ok (u, s)) (hf : s.faults = []) : Go3 n st s ∧ s.robots ≠ [] := by
  unfold parseRobot at h
  cases h1 : takeWord T wRobot st with
  | error e => rw [h1] at h; cases h
  | ok p1 =>
    obtain ⟨kw, s1⟩ := p1
    obtain ⟨_, rfl⟩ := word_inv h1
    rw [h1] at h
    simp only at h
    generalize hq : (if st.next.robots.length = 3 then st.next.found rRobots kw else st.next) = q at h
    cases h2 : tileOf T n q with
    | error e => rw [h2] at h; cases h
    | ok p2 =>
      obtain ⟨x, s2⟩ := p2
      rw [h2] at h
      simp only at h
      cases h3 : takeKw T ways s2 with
      | error e => rw [h3] at h; cases h
      | ok p3 =>
        obtain ⟨way, s3⟩ := p3
        obtain ⟨rfl, _⟩ := kw_inv h3
        rw [h3] at h
        simp only at h
        cases h4 : takeWord T wSemi s2.next with
        | error e => rw [h4] at h; cases h
        | ok p4 =>
          obtain ⟨se, s4⟩ := p4
          obtain ⟨_, rfl⟩ := word_inv h4
          rw [h4] at h
          simp only at h
          injection h with h
          injection h with _ h
          subst h
          have hf2 : s2.faults = [] := hf
          obtain ⟨rfl, hx⟩ := tile_inv h2 hf2
          have hfq : q.faults = [] := hf
          by_cases h3r : st.next.robots.length = 3
          · rw [if_pos h3r] at hq
            rw [← hq] at hfq
            exact absurd hfq (found_ne _ _ _)
          · rw [if_neg h3r] at hq
            subst hq
            refine ⟨⟨hfq, rfl, rfl, ?_, fun I => ⟨fun r hr => ?_, ?_, I.rn, I.ru, I.sp⟩⟩, ?_⟩
            · show st.robots.length ≤ (st.robots ++ [_]).length
              simp
            · rcases List.mem_append.mp hr with hr | hr
              · exact I.rt r hr
              · rw [List.mem_singleton.mp hr]
                exact hx
            · have h3r : ¬ st.robots.length = 3 := h3r
              have := I.r3
              show (st.robots ++ [_]).length ≤ 3
              rw [List.length_append, List.length_singleton]
              omega
            · show st.robots ++ [_] ≠ []
              simp
theorem putA_mem {κ α : Type} [DecidableEq κ] {l : List (κ × α)} {k : κ} {v : α} {x : κ × α} (h : x ∈ putA l k v) : x ∈ l ∨ x = (k, v) := by
  unfold putA at h
  split at h
  · obtain ⟨y, hy, rfl⟩ := List.mem_map.mp h
    by_cases e : y.1 = k
    · rw [if_pos e]
      exact .inr (by rw [e])
    · rw [if_neg e]
      exact .inl hy
  · rcases List.mem_append.mp h with h | h
    · exact .inl h
    · exact .inr (List.mem_singleton.mp h)
theorem putA_nodup {κ α : Type} [DecidableEq κ] {l : List (κ × α)} {k : κ} {v : α} (h : (l.map (·.1)).Nodup) : ((putA l k v).map (·.1)).Nodup := by
  unfold putA
  split
  · rw [List.map_map]
    have e : l.map ((·.1) ∘ fun kv => if kv.1 = k then (kv.1, v) else kv) = l.map (·.1) := List.map_congr_left fun y _ => by
      show (if y.1 = k then (y.1, v) else y).1 = y.1
      split <;> rfl
    rw [e]
    exact h
  · rename_i hn
    rw [List.map_append]
    refine List.nodup_append.mpr ⟨h, by simp, fun a ha b hb => ?_⟩
    have hb : b = k := by simpa using hb
    rw [hb]
    intro e
    obtain ⟨y, hy, ey⟩ := List.mem_map.mp ha
    exact hn (List.any_eq_true.mpr ⟨y, hy, decide_eq_true (ey.trans e)⟩)
theorem put_q {n : Nat} {st s : PSt} {u : Unit} (h : parsePut T n st = .ok (u, s)) (hf : s.faults = []) : Go3 n st s := by
  unfold parsePut at h
  cases h1 : takeWord T wPut st with
  | error e => rw [h1] at h; cases h
  | ok p1 =>
    obtain ⟨kw, s1⟩ := p1
    obtain ⟨_, rfl⟩ := word_inv h1
    rw [h1] at h
    simp only at h
    cases h2 : take T .name st.next with
    | error e => rw [h2] at h; cases h
    | ok p2 =>
      obtain ⟨nm, s2⟩ := p2
      obtain ⟨_, rfl, _⟩ := take_inv h2
      rw [h2] at h
      simp only at h
      cases hn : numberOf st.next.next.signs nm st.next.next with
      | mk g q =>
        rw [hn] at h
        simp only at h
        cases h3 : tileOf T n q with
        | error e => rw [h3] at h; cases h
        | ok p3 =>
          obtain ⟨x, s3⟩ := p3
          rw [h3] at h
          simp only at h
          cases h4 : takeWord T wSemi s3 with
          | error e => rw [h4] at h; cases h
          | ok p4 =>
            obtain ⟨se, s4⟩ := p4
            obtain ⟨_, rfl⟩ := word_inv h4
            rw [h4] at h
            simp only at h
            injection h with h
            injection h with _ h
            generalize hr : (if (s3.next.spots.any fun kv => decide (kv.1 = x)) = true then s3.next.found rAgain (peek T q) else s3.next) = r at h
            subst h
            have hfr : r.faults = [] := hf
            have er : r = s3.next := by
              by_cases hc : (s3.next.spots.any fun kv => decide (kv.1 = x)) = true
              · rw [if_pos hc] at hr
                rw [← hr] at hfr
                exact absurd hfr (found_ne _ _ _)
              · rw [if_neg hc] at hr
                exact hr.symm
            subst er
            obtain ⟨rfl, hx⟩ := tile_inv h3 hfr
            obtain ⟨rfl, hg⟩ := num_clean hn hfr
            refine ⟨hfr, rfl, rfl, Nat.le_refl _, fun I => ⟨I.rt, I.r3, I.rn, I.ru, fun z hz => ?_⟩⟩
            rcases putA_mem hz with hz | rfl
            · exact I.sp z hz
            · exact hg
theorem rule_q {n : Nat} {st s : PSt} {u : Unit} (h : parseRule T st = .ok (u, s)) (hf : s.faults = []) : Go3 n st s := by
  unfold parseRule at h
  cases h1 : takeWord T wWhen st with
  | error e => rw [h1] at h; cases h
  | ok p1 =>
  obtain ⟨kw, s1⟩ := p1
  obtain ⟨_, rfl⟩ := word_inv h1
  rw [h1] at h
  simp only at h
  cases h2 : take T .name st.next with
  | error e => rw [h2] at h; cases h
  | ok p2 =>
  obtain ⟨fi, s2⟩ := p2
  obtain ⟨_, rfl, _⟩ := take_inv h2
  rw [h2] at h
  simp only at h
  cases n2 : numberOf st.next.next.moods fi st.next.next with
  | mk i2 q2 =>
  rw [n2] at h
  simp only at h
  cases h3 : take T .name q2 with
  | error e => rw [h3] at h; cases h
  | ok p3 =>
  obtain ⟨sc, s3⟩ := p3
  obtain ⟨_, rfl, _⟩ := take_inv h3
  rw [h3] at h
  simp only at h
  cases n3 : numberOf q2.next.signs sc q2.next with
  | mk i3 q3 =>
  rw [n3] at h
  simp only at h
  cases h4 : takeWord T wLeave q3 with
  | error e => rw [h4] at h; cases h
  | ok p4 =>
  obtain ⟨_, s4⟩ := p4
  obtain ⟨_, rfl⟩ := word_inv h4
  rw [h4] at h
  simp only at h
  cases h5 : take T .name q3.next with
  | error e => rw [h5] at h; cases h
  | ok p5 =>
  obtain ⟨lf, s5⟩ := p5
  obtain ⟨_, rfl, _⟩ := take_inv h5
  rw [h5] at h
  simp only at h
  cases n5 : numberOf q3.next.next.signs lf q3.next.next with
  | mk i5 q5 =>
  rw [n5] at h
  simp only at h
  cases h6 : takeKw T moves q5 with
  | error e => rw [h6] at h; cases h
  | ok p6 =>
  obtain ⟨mv, s6⟩ := p6
  obtain ⟨rfl, hmv⟩ := kw_inv h6
  rw [h6] at h
  simp only at h
  cases h7 : take T .name q5.next with
  | error e => rw [h7] at h; cases h
  | ok p7 =>
  obtain ⟨la, s7⟩ := p7
  obtain ⟨_, rfl, _⟩ := take_inv h7
  rw [h7] at h
  simp only at h
  cases n7 : numberOf q5.next.next.moods la q5.next.next with
  | mk i7 q7 =>
  rw [n7] at h
  simp only at h
  cases h8 : takeWord T wSemi q7 with
  | error e => rw [h8] at h; cases h
  | ok p8 =>
  obtain ⟨_, s8⟩ := p8
  obtain ⟨_, rfl⟩ := word_inv h8
  rw [h8] at h
  simp only at h
  injection h with h
  injection h with _ h
  generalize hr : (if (fi.text, sc.text) ∈ q7.next.pairs then q7.next.found rTwice kw else q7.next) = r at h
  subst h
  have hfr : r.faults = [] := hf
  have er : r = q7.next := by
    by_cases hc : (fi.text, sc.text) ∈ q7.next.pairs
    · rw [if_pos hc] at hr
      rw [← hr] at hfr
      exact absurd hfr (found_ne _ _ _)
    · rw [if_neg hc] at hr
      exact hr.symm
  subst er
  obtain ⟨rfl, l7⟩ := num_clean n7 hfr
  obtain ⟨rfl, l5⟩ := num_clean n5 hfr
  obtain ⟨rfl, l3⟩ := num_clean n3 hfr
  obtain ⟨rfl, l2⟩ := num_clean n2 hfr
  refine ⟨hfr, rfl, rfl, Nat.le_refl _, fun I => ⟨I.rt, I.r3, putA_nodup I.rn, fun z hz => ?_, I.sp⟩⟩
  rcases putA_mem hz with hz | rfl
  · exact I.ru z hz
  · exact ⟨l2, l3, l5, l7, hmv⟩
theorem stmt_q {n : Nat} {st s : PSt} {u : Unit} (h : parseStmt T n st = .ok (u, s)) (hf : s.faults = []) : Go3 n st s := by
  unfold parseStmt at h
  split at h
  · exact (robot_q h hf).1
  · split at h
    · exact put_q h hf
    · split at h
      · exact rule_q h hf
      · cases h
theorem Go3.trans {n : Nat} {a b c : PSt} (h1 : Go3 n a b) (h2 : Go3 n b c) : Go3 n a c := ⟨h1.fa, h2.sg.trans h1.sg, h2.mo.trans h1.mo, Nat.le_trans h1.ro h2.ro, fun I => h2.iv (h1.iv I)⟩
theorem stmts_q {n : Nat} : ∀ {f : Nat} {st s : PSt} {u : Unit}, parseStmts T n f st = .ok (u, s) → s.faults = [] → Go3 n st s
  | 0, st, s, u, h, hf => by
    injection h with h
    injection h with _ h
    subst h
    exact ⟨hf, rfl, rfl, Nat.le_refl _, id⟩
  | f + 1, st, s, u, h, hf => by
    unfold parseStmts at h
    split at h
    · injection h with h
      injection h with _ h
      subst h
      exact ⟨hf, rfl, rfl, Nat.le_refl _, id⟩
    · cases h1 : parseStmt T n st with
      | error e => rw [h1] at h; cases h
      | ok p =>
        obtain ⟨v, s1⟩ := p
        rw [h1] at h
        simp only at h
        have g := stmts_q h hf
        exact (stmt_q h1 g.fa).trans g
/-! ### names -/
theorem more_inv : ∀ {f : Nat} {st : PSt} {acc : List Tk}, (∀ t ∈ acc, t.kind = .name ∧ t ∈ T) → (∃ m, (moreNames T f st acc).2 = { st with at_ := m }) ∧ (∀ t ∈ (moreNames T f st acc).1, t.kind = .name ∧ t ∈ T) ∧ acc.length ≤ (moreNames T f st acc).1.length
  | 0, st, acc, h => ⟨⟨st.at_, rfl⟩, h, Nat.le_refl _⟩
  | f + 1, st, acc, h => by
    unfold moreNames
    split
    · rename_i hk
      have hm : peek T st ∈ T := by
        unfold peek at hk ⊢
        rw [List.getD_eq_getElem?_getD] at hk ⊢
        cases e : T[st.at_]? with
        | none => rw [e] at hk; cases hk
        | some t => exact List.mem_of_getElem? e
      obtain ⟨⟨m, e1⟩, e2, e3⟩ := more_inv (f := f) (st := st.next) (acc := acc ++ [peek T st]) fun t ht => by
        rcases List.mem_append.mp ht with ht | ht
        · exact h t ht
        · rw [List.mem_singleton.mp ht]
          exact ⟨hk, hm⟩
      refine ⟨⟨m, by rw [e1]; rfl⟩, e2, ?_⟩
      rw [List.length_append] at e3
      omega
    · exact ⟨⟨st.at_, rfl⟩, h, Nat.le_refl _⟩
theorem name_mem {st : PSt} (hk : (peek T st).kind = .name) : peek T st ∈ T := by
  unfold peek at hk ⊢
  rw [List.getD_eq_getElem?_getD] at hk ⊢
  cases e : T[st.at_]? with
  | none => rw [e] at hk; cases hk
  | some t => exact List.mem_of_getElem? e
/-- all but one list of names and the place is as it was -/
structure NmG (b : Bool) (st s : PSt) : Prop where
  fa : st.faults = []
  ot : s.names (!b) = st.names (!b)
  ro : s.robots = st.robots
  ru : s.rules = st.rules
  sp : s.spots = st.spots
theorem names_push (b : Bool) (w : Cs) (st : PSt) : (st.push b w).names b = st.names b ++ [w] ∧ (st.push b w).names (!b) = st.names (!b) := by cases b <;> exact ⟨rfl, rfl⟩
theorem adds_q {b : Bool} : ∀ {ts : List Tk} {st s : PSt}, ts.foldl (addName b) st = s → s.faults = [] → NmG b st s ∧ ((st.names b).Nodup → (s.names b).Nodup) ∧ ((st.names b).length ≤ mostOf b → (s.names b).length ≤ mostOf b) ∧ (st.names b).length ≤ (s.names b).length ∧
    (∀ w ∈ s.names b, w ∈ st.names b ∨ ∃ t ∈ ts, t.text = w) ∧ (ts ≠ [] → s.names b ≠ [])
  | [], st, s, h, hf => by
    have h : st = s := h
    subst h
    exact ⟨⟨hf, rfl, rfl, rfl, rfl⟩, id, id, Nat.le_refl _, fun w hw => .inl hw, fun z => absurd rfl z⟩
  | t :: ts, st, s, h, hf => by
    rw [List.foldl_cons] at h
    obtain ⟨g, g1, g2, g3, g4, _⟩ := adds_q h hf
    have hfa := g.fa
    unfold addName at hfa g g1 g2 g3 g4
    split at hfa
    · exact absurd hfa (found_ne _ _ _)
    · rename_i hm
      rw [if_neg hm] at g g1 g2 g3 g4
      split at hfa
      · exact absurd hfa (found_ne _ _ _)
      · rename_i hl
        rw [if_neg hl] at g g1 g2 g3 g4
        obtain ⟨p1, p2⟩ := names_push b t.text st
        rw [p1] at g1 g2 g3 g4
        have sot := g.ot
        rw [p2] at sot
        refine ⟨⟨?_, sot, ?_, ?_, ?_⟩, fun hn => g1 ?_, fun hn => g2 ?_, ?_, fun w hw => ?_, fun _ z => ?_⟩
        · have := g.fa
          cases b <;> exact this
        · have := g.ro
          cases b <;> exact this
        · have := g.ru
          cases b <;> exact this
        · have := g.sp
          cases b <;> exact this
        · refine List.nodup_append.mpr ⟨hn, by simp, fun x hx y hy e => ?_⟩
          rw [List.mem_singleton.mp hy] at e
          exact hm (e ▸ hx)
        · rw [List.length_append, List.length_singleton]
          omega
        · rw [List.length_append] at g3
          omega
        · rcases g4 w hw with z | ⟨u, hu, e⟩
          · rcases List.mem_append.mp z with z | z
            · exact .inl z
            · exact .inr ⟨t, List.mem_cons_self, (List.mem_singleton.mp z).symm⟩
          · exact .inr ⟨u, List.mem_cons_of_mem _ hu, e⟩
        · rw [z, List.length_append] at g3
          simp at g3
theorem names_q {b : Bool} {st s : PSt} {u : Unit} (hT : ∀ t ∈ T, t.kind = .name → NameOk t.text) (h : parseNames T b st = .ok (u, s)) (hf : s.faults = []) (h0 : st.names b = []) : NmG b st s ∧ NamesOk (s.names b) ∧ s.names b ≠ [] ∧ (s.names b).length ≤ mostOf b := by
  unfold parseNames at h
  cases h1 : takeWord T (wordOf b) st with
  | error e => rw [h1] at h; cases h
  | ok p1 =>
  obtain ⟨kw, s1⟩ := p1
  obtain ⟨_, rfl⟩ := word_inv h1
  rw [h1] at h
  simp only at h
  cases h2 : take T .name st.next with
  | error e => rw [h2] at h; cases h
  | ok p2 =>
  obtain ⟨t, s2⟩ := p2
  obtain ⟨et, rfl, hk⟩ := take_inv h2
  rw [h2] at h
  simp only at h
  obtain ⟨⟨m, e1⟩, e2, e3⟩ := more_inv (T := T) (f := T.length) (st := st.next.next) (acc := [t]) fun x hx => by
    rw [List.mem_singleton.mp hx]
    exact ⟨hk, by rw [et] at hk ⊢; exact name_mem hk⟩
  rw [e1] at h
  generalize (moreNames T T.length st.next.next [t]).1 = ts at h e2 e3
  cases h3 : takeWord T wSemi { st.next.next with at_ := m } with
  | error e => rw [h3] at h; cases h
  | ok p3 =>
  obtain ⟨_, s3⟩ := p3
  obtain ⟨_, rfl⟩ := word_inv h3
  rw [h3] at h
  simp only at h
  injection h with h
  injection h with _ h
  obtain ⟨g, g1, g2, g3, g4, g5⟩ := adds_q h hf
  have en : PSt.names b ({ st.next.next with at_ := m } : PSt).next = st.names b := by cases b <;> rfl
  have en2 : PSt.names (!b) ({ st.next.next with at_ := m } : PSt).next = st.names (!b) := by cases b <;> rfl
  rw [en, h0] at g1 g2 g4
  have sot := g.ot
  rw [en2] at sot
  refine ⟨⟨g.fa, sot, g.ro, g.ru, g.sp⟩, ⟨g1 List.nodup_nil, fun w hw => ?_⟩, g5 fun z => ?_, g2 (Nat.zero_le _)⟩
  · rcases g4 w hw with z | ⟨x, hx, e⟩
    · cases z
    · obtain ⟨k1, k2⟩ := e2 x hx
      rw [← e]
      exact hT x k2 k1
  · rw [z] at e3
    simp at e3
/-! ### the whole -/
theorem parse_wf (hT : ∀ t ∈ T, t.kind = .name → NameOk t.text) {n : Nat} {s : PSt} (h : parsePlan T = .ok (n, s)) (hf : s.faults = []) : WfP (planOf n s) := by
  unfold parsePlan at h
  cases h1 : takeWord T wCorridor st0 with
  | error e => rw [h1] at h; cases h
  | ok p1 =>
  obtain ⟨kw, s1⟩ := p1
  obtain ⟨_, rfl⟩ := word_inv h1
  rw [h1] at h
  simp only at h
  cases h2 : take T .number st0.next with
  | error e => rw [h2] at h; cases h
  | ok p2 =>
  obtain ⟨t, s2⟩ := p2
  obtain ⟨_, rfl, _⟩ := take_inv h2
  rw [h2] at h
  simp only at h
  cases h3 : takeWord T wSemi st0.next.next with
  | error e => rw [h3] at h; cases h
  | ok p3 =>
  obtain ⟨_, s3⟩ := p3
  obtain ⟨_, rfl⟩ := word_inv h3
  rw [h3] at h
  simp only at h
  generalize hq : (if 1 ≤ numVal t.text ∧ numVal t.text ≤ 16 then st0.next.next.next else st0.next.next.next.found wCorridor t) = q at h
  cases h4 : parseNames T false q with
  | error e => rw [h4] at h; cases h
  | ok p4 =>
  obtain ⟨_, s4⟩ := p4
  rw [h4] at h
  simp only at h
  cases h5 : parseNames T true s4 with
  | error e => rw [h5] at h; cases h
  | ok p5 =>
  obtain ⟨_, s5⟩ := p5
  rw [h5] at h
  simp only at h
  cases h6 : parseRobot T (numVal t.text) s5 with
  | error e => rw [h6] at h; cases h
  | ok p6 =>
  obtain ⟨_, s6⟩ := p6
  rw [h6] at h
  simp only at h
  cases h7 : parseStmts T (numVal t.text) T.length s6 with
  | error e => rw [h7] at h; cases h
  | ok p7 =>
  obtain ⟨_, s7⟩ := p7
  rw [h7] at h
  simp only at h
  injection h with h
  injection h with en h
  subst h
  have g7 := stmts_q h7 hf
  obtain ⟨g6, hr1⟩ := robot_q h6 g7.fa
  have hq0 : ∀ x : PSt, x = q → x.signs = [] ∧ x.moods = [] ∧ x.robots = [] ∧ x.rules = [] ∧ x.spots = [] := fun x hx => by
    rw [hx, ← hq]
    split <;> exact ⟨rfl, rfl, rfl, rfl, rfl⟩
  obtain ⟨z1, z2, z3, z4, z5⟩ := hq0 q rfl
  -- the moods
  have h50 : s4.names true = [] → _ := fun z => names_q hT h5 g6.fa z
  have f5 : s4.faults = [] := by
    have k : ∀ {b : Bool} {st s : PSt} {u : Unit}, parseNames T b st = .ok (u, s) → s.faults = [] → st.faults = [] := by
      intro b st s u h hf
      unfold parseNames at h
      cases h1 : takeWord T (wordOf b) st with
      | error e => rw [h1] at h; cases h
      | ok p1 =>
      obtain ⟨kw, s1⟩ := p1
      obtain ⟨_, rfl⟩ := word_inv h1
      rw [h1] at h
      simp only at h
      cases h2 : take T .name st.next with
      | error e => rw [h2] at h; cases h
      | ok p2 =>
      obtain ⟨t, s2⟩ := p2
      obtain ⟨et, rfl, hk⟩ := take_inv h2
      rw [h2] at h
      simp only at h
      obtain ⟨⟨m, e1⟩, _, _⟩ := more_inv (T := T) (f := T.length) (st := st.next.next) (acc := [t]) fun x hx => by
        rw [List.mem_singleton.mp hx]
        exact ⟨hk, by rw [et] at hk ⊢; exact name_mem hk⟩
      rw [e1] at h
      cases h3 : takeWord T wSemi { st.next.next with at_ := m } with
      | error e => rw [h3] at h; cases h
      | ok p3 =>
      obtain ⟨_, s3⟩ := p3
      obtain ⟨_, rfl⟩ := word_inv h3
      rw [h3] at h
      simp only at h
      injection h with h
      injection h with _ h
      exact (adds_q h hf).1.fa
    exact k h5 g6.fa
  obtain ⟨a1, a2, a3, a4⟩ := names_q hT h4 f5 z1
  have e4m : s4.names true = [] := a1.ot.trans z2
  obtain ⟨b1, b2, b3, b4⟩ := names_q hT h5 g6.fa e4m
  have e5s : s5.signs = s4.signs := b1.ot
  have hbound : 1 ≤ numVal t.text ∧ numVal t.text ≤ 16 := by
    by_cases hc : 1 ≤ numVal t.text ∧ numVal t.text ≤ 16
    · exact hc
    · rw [if_neg hc] at hq
      have := a1.fa
      rw [← hq] at this
      exact absurd this (found_ne _ _ _)
  have i5 : Inv3 (numVal t.text) s5 := by
    have r5 : s5.robots = [] := b1.ro.trans (a1.ro.trans z3)
    have u5 : s5.rules = [] := b1.ru.trans (a1.ru.trans z4)
    have p5 : s5.spots = [] := b1.sp.trans (a1.sp.trans z5)
    refine ⟨fun r hr => ?_, ?_, ?_, fun r hr => ?_, fun r hr => ?_⟩
    · rw [r5] at hr
      cases hr
    · rw [r5]
      exact Nat.zero_le _
    · rw [u5]
      exact List.nodup_nil
    · rw [u5] at hr
      cases hr
    · rw [p5] at hr
      cases hr
  have i7 := g7.iv (g6.iv i5)
  have es : s7.signs = s4.signs := g7.sg.trans (g6.sg.trans e5s)
  have em : s7.moods = s5.moods := g7.mo.trans g6.mo
  have hsl : 1 ≤ s7.signs.length := by
    rw [es]
    exact List.length_pos_iff.mpr a3
  subst en
  have hfl : (planOf (numVal t.text) s7).floor.length = numVal t.text := by simp [planOf]
  refine ⟨?_, ?_, ?_, ?_, ?_, ?_, ?_, ?_, fun x hx => ?_, fun z => ?_, i7.r3, fun r hr => ?_, i7.rn, i7.ru⟩
  · show NamesOk s7.signs
    rw [es]
    exact a2
  · show NamesOk s7.moods
    rw [em]
    exact b2
  · show s7.signs ≠ []
    rw [es]
    exact a3
  · show s7.signs.length ≤ 4
    rw [es]
    exact a4
  · show s7.moods ≠ []
    rw [em]
    exact b3
  · show s7.moods.length ≤ 6
    rw [em]
    exact b4
  · rw [hfl]
    exact hbound.1
  · rw [hfl]
    exact hbound.2
  · obtain ⟨i, _, rfl⟩ := List.mem_map.mp hx
    show (getA s7.spots i).getD 0 < s7.signs.length
    cases hg : getA s7.spots i with
    | none => exact hsl
    | some v =>
      unfold getA at hg
      cases hf : s7.spots.find? fun kv => decide (kv.1 = i) with
      | none => rw [hf] at hg; cases hg
      | some q =>
        rw [hf] at hg
        have hv : q.2 = v := Option.some.inj hg
        have := i7.sp q (List.mem_of_find?_eq_some hf)
        rw [hv] at this
        exact this
  · have z : s7.robots = [] := z
    have := g7.ro
    rw [z] at this
    exact hr1 (List.length_eq_zero_iff.mp (Nat.le_zero.mp this))
  · rw [hfl]
    exact i7.rt r hr
end
end Sw

end

section
set_option maxRecDepth 100000
set_option maxHeartbeats 4000000
/-! k02: what a marked plan gives; any text without a fault is a good plan -/
namespace Sw
open PySem
theorem tw_all {p : Nat → Bool} : ∀ {l : Cs} {x : Nat}, x ∈ l.takeWhile p → p x = true
  | c :: r, x, h => by
    cases e : p c with
    | false => rw [List.takeWhile_cons, e] at h; cases h
    | true =>
      rw [List.takeWhile_cons, e] at h
      rcases List.mem_cons.mp h with q | q
      · rw [q]; exact e
      · exact tw_all q
theorem readTok_name {line col : Nat} {rest : Cs} {t : Tk} (h : readTok line col rest = some t) (hk : t.kind = .name) : NameOk t.text := by
  unfold readTok at h
  split at h
  · cases h
  · split at h
    · cases h
      cases hk
    · split at h
      · split at h
        · cases h
        · cases h
          cases hk
      · split at h
        · cases h
          cases hk
        · rename_i hn
          split at h
          · rename_i hl
            cases h
            exact ⟨⟨fun c hc => tw_all hc, hl.1, hl.2⟩, hn⟩
          · cases h
theorem lexRow_name (line : Nat) : ∀ (f col : Nat) (rest : Cs) (ts : List Tk), lexRow line f col rest = .ok ts → ∀ t ∈ ts, t.kind = .name → NameOk t.text
  | f, col, [], ts, h => by
    have e : ts = [] := by cases f <;> (injection h with h; exact h.symm)
    subst e
    intro t ht
    cases ht
  | 0, col, c :: r, ts, h => by
    injection h with h
    subst h
    intro t ht
    cases ht
  | f + 1, col, c :: r, ts, h => by
    unfold lexRow at h
    split at h
    · exact lexRow_name line f (col + 1) r ts h
    · split at h
      · cases h
      · rename_i t ht
        split at h
        · cases h
        · rename_i us hu
          cases h
          intro x hx
          rcases List.mem_cons.mp hx with q | q
          · rw [q]
            exact readTok_name ht
          · exact lexRow_name line f _ _ us hu x q
theorem lexRows_name : ∀ (rows : List Cs) (line : Nat) (ts : List Tk), lexRows line rows = .ok ts → ∀ t ∈ ts, t.kind = .name → NameOk t.text
  | [], line, ts, h => by
    injection h with h
    subst h
    intro t ht
    cases ht
  | row :: rest, line, ts, h => by
    unfold lexRows at h
    split at h
    · cases h
    · rename_i us hu
      split at h
      · cases h
      · rename_i vs hv
        cases h
        intro x hx
        rcases List.mem_append.mp hx with q | q
        · exact lexRow_name line _ _ _ us hu x q
        · exact lexRows_name rest (line + 1) vs hv x q
theorem loads_wf {text : Cs} {n : Nat} {s : PSt} (h : loads text = .ok (n, s)) (hf : s.faults = []) : WfP (planOf n s) := by
  unfold loads at h
  cases ht : tokenize text with
  | error e => rw [ht] at h; cases h
  | ok T =>
    rw [ht] at h
    refine parse_wf (fun t htm hk => ?_) h hf
    unfold tokenize at ht
    split at ht
    · cases ht
    · rename_i us hu
      cases ht
      rcases List.mem_append.mp htm with q | q
      · exact lexRows_name _ _ us hu t q hk
      · rw [List.mem_singleton.mp q] at hk
        cases hk
/-- what a marked plan gives -/
theorem check_gives {q : Mk} (h : checkM q = true) : 64 ∉ q.1 ∧ 64 ∉ q.2.1 ∧ q.1.length ≤ 2000 ∧ q.2.1.length ≤ 2000 ∧ ∃ n s, loads (q.1 ++ q.2.1) = .ok (n, s) ∧ ((s.faults = [] ∧ q.2.2 = []) ∨ ∃ f fs, s.faults = f :: fs ∧ q.2.2 ≠ [] ∧ minF f fs = ((rowsOf q.1).length - 1, colL q.1, q.2.2) ∧ ∀ c ∈ q.2.2, c < 128) := by
  unfold checkM at h
  rw [Bool.and_eq_true, Bool.and_eq_true, Bool.and_eq_true, Bool.and_eq_true, decide_eq_true_eq, decide_eq_true_eq, decide_eq_true_eq, decide_eq_true_eq] at h
  obtain ⟨h1, h2, h3, h4, h5⟩ := h
  refine ⟨h1, h2, h3, h4, ?_⟩
  cases hl : loads (q.1 ++ q.2.1) with
  | error e => rw [hl] at h5; cases h5
  | ok p =>
    obtain ⟨n, s⟩ := p
    rw [hl] at h5
    refine ⟨n, s, rfl, ?_⟩
    simp only at h5
    cases hf : s.faults with
    | nil =>
      rw [hf] at h5
      exact .inl ⟨rfl, of_decide_eq_true h5⟩
    | cons f fs =>
      rw [hf] at h5
      rw [Bool.and_eq_true, Bool.and_eq_true, decide_eq_true_eq, decide_eq_true_eq, List.all_eq_true] at h5
      exact .inr ⟨f, fs, rfl, h5.1, h5.2.1, fun c hc => of_decide_eq_true (h5.2.2 c hc)⟩
def cH3 : Cs := txt "corridor 9; signs no red blue;\nmoods go calm red;\nrobot 8 right;\nwhen go no leave no on go;\n"
def endT (x : Cs) : Cs := cH3 ++ txt "when " ++ x ++ txt " leave no on go;"
def endL : List (Cs × Nat) := [(txt "zz no", 5), (txt "go zz", 8), (txt "red zz", 9), (txt "blue no", 5)]
def checkE (q : Cs × Nat) : Bool := decide ((endT q.1).length ≤ 2000) && match loads (endT q.1) with
  | .error _ => false
  | .ok (n, s) => match s.faults with
    | [] => false
    | f :: fs => decide (minF f fs = (4, q.2, rUnknown))
theorem end_ok : endL.all checkE = true := by decide +kernel
theorem end_gives {q : Cs × Nat} (h : q ∈ endL) : (endT q.1).length ≤ 2000 ∧ ∃ n s f fs, loads (endT q.1) = .ok (n, s) ∧ s.faults = f :: fs ∧ minF f fs = (4, q.2, rUnknown) := by
  have h := List.all_eq_true.mp end_ok q h
  unfold checkE at h
  rw [Bool.and_eq_true, decide_eq_true_eq] at h
  obtain ⟨h1, h5⟩ := h
  refine ⟨h1, ?_⟩
  cases hl : loads (endT q.1) with
  | error e => rw [hl] at h5; cases h5
  | ok p =>
    obtain ⟨n, s⟩ := p
    rw [hl] at h5
    simp only at h5
    cases hf : s.faults with
    | nil => rw [hf] at h5; cases h5
    | cons f fs =>
      rw [hf] at h5
      exact ⟨n, s, f, fs, rfl, hf, of_decide_eq_true h5⟩
theorem cut_before (a b : Cs) : L2.cutS (sx (a ++ b)) none (some ((a.length : Nat) : Int)) = sx a := by
  unfold L2.cutS
  rw [HT.sIx_nat, len_sx, Nat.min_eq_left (by rw [List.length_append]; omega)]
  show sx (((a ++ b).drop 0).take (a.length - 0)) = sx a
  rw [List.drop_zero, Nat.sub_zero, List.take_left']
  rfl
end Sw

end

section
set_option maxRecDepth 100000
set_option maxHeartbeats 4000000
/-! text * 3 -/
namespace L2
open PySem PySem.Spec PyProof.Rows Builtin Builtin.Str
theorem op_mul3 {X : Cx} : OpR X (binaryOp .Mult) (fun x y H Q => ∃ z : PySem.Str, x = .str z ∧ y = .int 3 ∧ 1 ≤ z.length ∧ z.length ≤ 10000 ∧ Q (.str (z ++ z ++ z)) H) := by
  intro pins s σ H x y v u Q I rx ry h
  obtain ⟨z, rfl, rfl, h1, h2, q⟩ := h
  obtain ⟨t, rfl⟩ := rx
  obtain ⟨t2, rfl⟩ := ry
  have e3 : (3 : Int).toNat = 3 := rfl
  refine P.mul_str (by decide) (fun _ _ => ?_) (fun _ _ => ?_) ?_
  · have : ((2 : Int) ^ 63 - 1) / 3 = 3074457345618258602 := by decide
    rw [this]
    omega
  · unfold tooLong
    refine decide_eq_false ?_
    rw [e3, sizeLine_eq]
    omega
  · rw [if_neg (by decide), if_neg (by
      rw [Bool.or_eq_true]
      rintro (z1 | z1)
      · exact absurd z1 (by decide)
      · rw [beq_iff_eq] at z1
        omega)]
    have e : (⟨(List.replicate (3 : Int).toNat z.cps).foldl (· ++ ·) #[]⟩ : PySem.Str) = z ++ z ++ z := by
      rw [e3]
      show (⟨((#[] ++ z.cps) ++ z.cps) ++ z.cps⟩ : PySem.Str) = _
      rw [Array.empty_append]
      rfl
    rw [e]
    refine ⟨?_, .str (z ++ z ++ z), H, I.tok _, ⟨_, rfl⟩, q⟩
    have hl : (z ++ z ++ z).length = z.length + z.length + z.length := by
      show ((z.cps ++ z.cps) ++ z.cps).size = _
      rw [Array.size_append, Array.size_append]
      rfl
    rw [hl, sizeLine_eq]
    omega
end L2

end

section
set_option maxRecDepth 100000
set_option maxHeartbeats 4000000
set_option pp.deepTerms false
set_option pp.deepTerms.threshold 8
/-! the law's own: plans with one of all kinds of errors, marked -/
namespace Sw
open PySem PySem.Spec PyProof.Rows L2 SwA
structure FyT (K : PySem.W.Frag) (mg : Str → Option Value) : Prop where
  l : LawT K mg
  str : mg "str" = none
  more : DeT K mg "_law_more" s__law_more
  fau : DeT K mg "_law_faulty" s__law_faulty
theorem DrawAt.same {H H' : Hp} {d : Addr} (h : DrawAt H d) (s : Same H H') : DrawAt H' d := let ⟨a, b, c, l, e⟩ := h; ⟨a, b, c, l, s _ _ e⟩
theorem DrawAt.ne {H : Hp} {d x : Addr} (h : DrawAt H d) (n : H x = none) : d ≠ x := fun z => by
  obtain ⟨a, b, c, l, e⟩ := h
  rw [z, n] at e
  cases e
theorem at_slotsY {t : L2.St → Hp → Prop} {σ : L2.St} {H : Hp} (σ' : L2.St) (e : σ = σ') (h : t σ' H) : t σ H := e ▸ h
theorem txt0 : txt "" = [] := rfl
theorem sx_one (c : Nat) : (⟨#[c]⟩ : Str) = sx [c] := rfl
/-- what a marked plan's tuple is -/
def MkAt (H : Hp) (t : Addr) (q : Mk) : Prop := H t = some (.tup [sV (q.1 ++ 64 :: q.2.1), sV q.2.2])
section
variable {P : Program} {w : World} {K : PySem.W.Frag} {mg : Str → Option Value} {base : Heap}
def spMore : Sp := fun vs H Q _ => ∃ (d : Addr) (kd : Nat), vs = [.ref d, .int kd, sV cHd2, sV cLate] ∧ DrawAt H d ∧ 9 ≤ kd ∧ ∀ (t : Addr) (H' : Hp) (q : Mk), Drawn d H H' → H t = none → MkAt H' t q → checkM q = true → Q (.ref t) H'
def spFaulty : Sp := fun vs H Q _ => ∃ d : Addr, vs = [.ref d] ∧ DrawAt H d ∧ ∀ (t : Addr) (H' : Hp) (q : Mk), Drawn d H H' → H t = none → MkAt H' t q → checkM q = true → Q (.ref t) H'
abbrev moN : List Str := ["_law_d", "_law_kind", "_law_head", "_law_late", "_law_full", "_law_rules"]
theorem sc_more : FnScope moN ["_law_d", "_law_kind", "_law_head", "_law_late"] (defScope s__law_more) := ⟨rfl, rfl, rfl, by decide +kernel, rfl, by decide +kernel, by decide +kernel⟩
abbrev faN : List Str := ["_law_d", "_law_kind", "_law_head", "_law_late", "_law_big", "_law_one", "_law_last"]
theorem sc_fau : FnScope faN ["_law_d"] (defScope s__law_faulty) := ⟨rfl, rfl, rfl, by decide +kernel, rfl, by decide +kernel, by decide +kernel⟩
theorem ok_more (T : FyT K mg) : FnE P w K mg base CX0 2 ("_law_more", none) ["_law_d", "_law_kind", "_law_head", "_law_late"] spMore := by
  obtain ⟨fd, F⟩ := T.more.d
  obtain ⟨fdB, GB, bB, kB⟩ := ok_below (P := P) (w := w) (base := base) T.l
  refine ⟨fd, F.ok sc_more (fun vs H Q E h => ?_) (fun cdv A outer s H vs Q E hr h => ?_), F.bindsN fun _ _ _ _ _ _ us hl => match us, hl with | [_, _, _, _], _ => rfl, F.kp⟩
  · obtain ⟨d, kd, rfl, _⟩ := h
    rfl
  · obtain ⟨d, kd, rfl, hd, h9, k⟩ := h
    have hr1 : Room 1 _ := hr.mono (by decide)
    have hd0 := hd
    have dr0 := Drawn.refl hd
    have lHd : cHd2.length ≤ 300 := by decide +kernel
    have lLa : cLate.length ≤ 300 := by decide +kernel
    refine ⟨_, PSs.nox (pss_cons (ps_if (pt_cmpR op_eq (pv 1) pe_int (nomark _))
        (pss_one (ps_ret (pe_tup (pa_cons (pe_op op_add_str (pe_op op_add_str (pe_op op_add_str (pe_op op_add_str (pv 2) pe_str) (pe_ix ix_list (pe_lst (pa_cons pe_str (pa_cons pe_str (pa_cons pe_str pa_nil)))) (pe_call GB hr1 rfl T.l.below.g kB bB .nil pass0 (pa_cons (pv 0) (pa_cons pe_int pa_nil))) (fun _ _ => rfl))) pe_str) (pv 3)) (pa_cons pe_str pa_nil))))) pss_nil)
      (pss_cons (ps_if (pt_cmpR op_eq (pv 1) pe_int (nomark _))
        (pss_one (ps_ret (pe_tup (pa_cons (pe_op op_add_str (pe_op op_add_str (pe_op op_add_str (pe_op op_add_str (pv 2) pe_str) (pe_ix ix_list (pe_lst (pa_cons pe_str (pa_cons pe_str (pa_cons pe_str pa_nil)))) (pe_call GB hr1 rfl T.l.below.g kB bB .nil pass0 (pa_cons (pv 0) (pa_cons pe_int pa_nil))) (fun _ _ => rfl))) pe_str) (pv 3)) (pa_cons pe_str pa_nil))))) pss_nil)
      (pss_cons (ps_if (pt_cmpR op_eq (pv 1) pe_int (nomark _))
        (pss_one (ps_ret (pe_tup (pa_cons (pe_op op_add_str (pe_op op_add_str (pe_op op_add_str (pe_op op_add_str (pv 2) pe_str) (pe_ix ix_list (pe_lst (pa_cons pe_str (pa_cons pe_str pa_nil))) (pe_call GB hr1 rfl T.l.below.g kB bB .nil pass0 (pa_cons (pv 0) (pa_cons pe_int pa_nil))) (fun _ _ => rfl))) pe_str) (pv 3)) (pa_cons pe_str pa_nil))))) pss_nil)
      (pss_cons (ps_if (pt_cmpR op_eq (pv 1) pe_int (nomark _))
        (pss_one (ps_ret (pe_tup (pa_cons (pe_op op_add_str (pe_op op_add_str (pe_op op_add_str (pe_op op_add_str (pv 2) pe_str) (pe_ix ix_list (pe_lst (pa_cons pe_str (pa_cons pe_str pa_nil))) (pe_call GB hr1 rfl T.l.below.g kB bB .nil pass0 (pa_cons (pv 0) (pa_cons pe_int pa_nil))) (fun _ _ => rfl))) pe_str) (pv 3)) (pa_cons pe_str pa_nil))))) pss_nil)
      (pss_cons (ps_if (pt_cmpR op_eq (pv 1) pe_int (nomark _))
        (pss_one (ps_ret (pe_tup (pa_cons (pe_op op_add_str (pe_op op_add_str (pe_op op_add_str (pe_op op_add_str (pv 2) pe_str) (pe_ix ix_str pe_str (pe_call GB hr1 rfl T.l.below.g kB bB .nil pass0 (pa_cons (pv 0) (pa_cons pe_int pa_nil))) (fun _ _ => rfl))) pe_str) (pv 3)) (pa_cons pe_str pa_nil))))) pss_nil)
      (pss_cons (ps_if (pt_cmpR op_eq (pv 1) pe_int (nomark _))
        (pss_one (ps_ret (pe_tup (pa_cons (pe_op op_add_str (pe_op op_add_str (pv 2) pe_str) (pv 3)) (pa_cons pe_str pa_nil))))) pss_nil)
      (pss_cons (ps_if (pt_cmpR op_eq (pv 1) pe_int (nomark _))
        (pss_one (ps_ret (pe_tup (pa_cons (pe_op op_add_str pe_str (pv 3)) (pa_cons pe_str pa_nil))))) pss_nil)
      (pss_cons (ps_set (i := 4) sc_more.nd rfl (.inl rfl) pe_str)
      (pss_cons (ps_set (i := 5) sc_more.nd rfl (.inl rfl) pe_str)
      (pss_one (ps_ret (pe_tup (pa_cons (pe_op op_add_str (pe_op op_add_str pe_str (pv 4)) (pv 5)) (pa_cons pe_str pa_nil)))))))))))))), ?_⟩
    refine ⟨_, rfl, rfl, _, rfl, ?_⟩
    refine ite2 (fun hk => ?_) (fun hk => ?_)
    · clear hk
      have hl3 : (cHd2 : Cs).length ≤ 300 := Nat.le_trans lHd (by decide)
      have hb1 : (txt "when @" : Cs).length ≤ 300 := by decide +kernel
      refine ⟨_, rfl, sx (cHd2), sx (txt "when @"), rfl, (by kernel_rfl), lenS (by omega), ?_⟩
      rw [sx_app]
      have ha2 : (cHd2 ++ (txt "when @") : Cs).length ≤ 600 := by rw [List.length_append]; omega
      refine ⟨(by show 3 ≤ sizeLine; decide), fun p4 np5 => ?_⟩
      have np4 : p4 ≠ d := (hd.ne np5).symm
      have s8 := sameUpd (o := .lst [.str "zz", .str "blue", .str "no"]) (Same.refl H) np5
      have hp6 := @upd_same H p4 (.lst [.str "zz", .str "blue", .str "no"])
      replace hd := hd.same s8
      generalize upd H p4 (.lst [.str "zz", .str "blue", .str "no"]) = H7 at *
      have drp4 := Drawn.trans dr0 (Drawn.of dr0.at_ s8)
      refine ⟨_, rfl, d, 3, rfl, hd, by decide, by decide, fun r9 sxr9 cxr9 bxr9 hr9 lr9 => ?_⟩
      have drr9 := (Drawn.refl hd).draw (s := sxr9) (c := cxr9) lr9
      replace hp6 := drr9.same _ _ np4 hp6
      have drrr9 := Drawn.trans drp4 drr9
      replace hd := drr9.at_
      generalize upd H7 d (drawL sxr9 cxr9 bxr9) = H10 at hd hp6 drr9 drrr9 ⊢
      clear drr9
      have ehp6 : (.lst [.str "zz", .str "blue", .str "no"] : HO) = .lst (([txt "zz", txt "blue", txt "no"] : List Cs).map sV) := by kernel_rfl
      rw [ehp6] at hp6
      obtain ⟨x, hx, hatr9⟩ : ∃ x, x ∈ ([txt "zz", txt "blue", txt "no"] : List Cs) ∧ (([txt "zz", txt "blue", txt "no"] : List Cs).map sV)[r9]? = some (sV x) := ⟨([txt "zz", txt "blue", txt "no"] : List Cs)[r9]'hr9, List.getElem_mem _, by rw [List.getElem?_map, List.getElem?_eq_getElem hr9]; rfl⟩
      have hx8 : x.length ≤ 8 := by
        have key : ∀ x ∈ ([txt "zz", txt "blue", txt "no"] : List Cs), x.length ≤ 8 := by decide +kernel
        exact key x hx
      refine ⟨p4, _, _, _, rfl, rfl, SqL.of hp6, atI_nat hatr9, ?_⟩
      clear hatr9 hp6
      have hb11 : (x : Cs).length ≤ 300 := Nat.le_trans hx8 (by decide)
      refine ⟨sx (cHd2 ++ (txt "when @")), sx (x), rfl, rfl, lenS (by omega), ?_⟩
      rw [sx_app]
      have ha12 : ((cHd2 ++ (txt "when @")) ++ x : Cs).length ≤ 900 := by rw [List.length_append]; omega
      have hb13 : (txt " zz leave zz on zz;" : Cs).length ≤ 300 := by decide +kernel
      refine ⟨sx ((cHd2 ++ (txt "when @")) ++ x), sx (txt " zz leave zz on zz;"), rfl, (by kernel_rfl), lenS (by omega), ?_⟩
      rw [sx_app]
      have ha14 : (((cHd2 ++ (txt "when @")) ++ x) ++ (txt " zz leave zz on zz;") : Cs).length ≤ 1200 := by rw [List.length_append]; omega
      have hb15 : (cLate : Cs).length ≤ 300 := Nat.le_trans lLa (by decide)
      refine ⟨_, rfl, sx (((cHd2 ++ (txt "when @")) ++ x) ++ (txt " zz leave zz on zz;")), sx (cLate), rfl, rfl, lenS (by omega), ?_⟩
      rw [sx_app]
      have ha16 : ((((cHd2 ++ (txt "when @")) ++ x) ++ (txt " zz leave zz on zz;")) ++ cLate : Cs).length ≤ 1500 := by rw [List.length_append]; omega
      refine ⟨(by show 2 ≤ sizeLine; decide), fun t17 nt18 => ?_⟩
      have s20 := sameUpd (o := .tup [.str (sx ((((cHd2 ++ (txt "when @")) ++ x) ++ (txt " zz leave zz on zz;")) ++ cLate)), .str "unknown"]) (Same.refl H10) nt18
      have ht21 := @upd_same H10 t17 (.tup [.str (sx ((((cHd2 ++ (txt "when @")) ++ x) ++ (txt " zz leave zz on zz;")) ++ cLate)), .str "unknown"])
      generalize upd H10 t17 (.tup [.str (sx ((((cHd2 ++ (txt "when @")) ++ x) ++ (txt " zz leave zz on zz;")) ++ cLate)), .str "unknown"]) = H19 at *
      have drF := Drawn.trans drrr9 (Drawn.of drrr9.at_ s20)
      have ntF := drrr9.free (let ⟨_, _, _, _, e⟩ := hd0; ⟨_, e⟩) nt18
      have eQ : ((((cHd2 ++ (txt "when @")) ++ x) ++ (txt " zz leave zz on zz;")) ++ cLate : Cs) = (f09 x).1 ++ 64 :: (f09 x).2.1 := by
        have eL : txt "when @" = txt "when " ++ [64] := by decide +kernel
        rw [eL]
        simp only [f09, List.append_assoc, List.cons_append, List.nil_append]
      have eR : V.str "unknown" = sV (f09 x).2.2 := by kernel_rfl
      have hq : MkAt H19 t17 (f09 x) := by
        unfold MkAt
        rw [← eQ, ← eR]
        exact ht21
      exact k _ _ _ drF ntF hq (List.all_eq_true.mp o09 x hx)
    have hk9 : ¬ kd = 9 := fun z => hk (decide_eq_true (by rw [z]; rfl))
    refine ⟨_, rfl, rfl, _, rfl, ?_⟩
    refine ite2 (fun hk => ?_) (fun hk => ?_)
    · clear hk
      have hl24 : (cHd2 : Cs).length ≤ 300 := Nat.le_trans lHd (by decide)
      have hb22 : (txt "when red @" : Cs).length ≤ 300 := by decide +kernel
      refine ⟨_, rfl, sx (cHd2), sx (txt "when red @"), rfl, (by kernel_rfl), lenS (by omega), ?_⟩
      rw [sx_app]
      have ha23 : (cHd2 ++ (txt "when red @") : Cs).length ≤ 600 := by rw [List.length_append]; omega
      refine ⟨(by show 3 ≤ sizeLine; decide), fun p25 np26 => ?_⟩
      have np25 : p25 ≠ d := (hd.ne np26).symm
      have s29 := sameUpd (o := .lst [.str "zz", .str "go", .str "calm"]) (Same.refl H) np26
      have hp27 := @upd_same H p25 (.lst [.str "zz", .str "go", .str "calm"])
      replace hd := hd.same s29
      generalize upd H p25 (.lst [.str "zz", .str "go", .str "calm"]) = H28 at *
      have drp25 := Drawn.trans dr0 (Drawn.of dr0.at_ s29)
      refine ⟨_, rfl, d, 3, rfl, hd, by decide, by decide, fun r30 sxr30 cxr30 bxr30 hr30 lr30 => ?_⟩
      have drr30 := (Drawn.refl hd).draw (s := sxr30) (c := cxr30) lr30
      replace hp27 := drr30.same _ _ np25 hp27
      have drrr30 := Drawn.trans drp25 drr30
      replace hd := drr30.at_
      generalize upd H28 d (drawL sxr30 cxr30 bxr30) = H31 at hd hp27 drr30 drrr30 ⊢
      clear drr30
      have ehp27 : (.lst [.str "zz", .str "go", .str "calm"] : HO) = .lst (([txt "zz", txt "go", txt "calm"] : List Cs).map sV) := by kernel_rfl
      rw [ehp27] at hp27
      obtain ⟨x, hx, hatr30⟩ : ∃ x, x ∈ ([txt "zz", txt "go", txt "calm"] : List Cs) ∧ (([txt "zz", txt "go", txt "calm"] : List Cs).map sV)[r30]? = some (sV x) := ⟨([txt "zz", txt "go", txt "calm"] : List Cs)[r30]'hr30, List.getElem_mem _, by rw [List.getElem?_map, List.getElem?_eq_getElem hr30]; rfl⟩
      have hx8 : x.length ≤ 8 := by
        have key : ∀ x ∈ ([txt "zz", txt "go", txt "calm"] : List Cs), x.length ≤ 8 := by decide +kernel
        exact key x hx
      refine ⟨p25, _, _, _, rfl, rfl, SqL.of hp27, atI_nat hatr30, ?_⟩
      clear hatr30 hp27
      have hb32 : (x : Cs).length ≤ 300 := Nat.le_trans hx8 (by decide)
      refine ⟨sx (cHd2 ++ (txt "when red @")), sx (x), rfl, rfl, lenS (by omega), ?_⟩
      rw [sx_app]
      have ha33 : ((cHd2 ++ (txt "when red @")) ++ x : Cs).length ≤ 900 := by rw [List.length_append]; omega
      have hb34 : (txt " leave zz on zz;" : Cs).length ≤ 300 := by decide +kernel
      refine ⟨sx ((cHd2 ++ (txt "when red @")) ++ x), sx (txt " leave zz on zz;"), rfl, (by kernel_rfl), lenS (by omega), ?_⟩
      rw [sx_app]
      have ha35 : (((cHd2 ++ (txt "when red @")) ++ x) ++ (txt " leave zz on zz;") : Cs).length ≤ 1200 := by rw [List.length_append]; omega
      have hb36 : (cLate : Cs).length ≤ 300 := Nat.le_trans lLa (by decide)
      refine ⟨_, rfl, sx (((cHd2 ++ (txt "when red @")) ++ x) ++ (txt " leave zz on zz;")), sx (cLate), rfl, rfl, lenS (by omega), ?_⟩
      rw [sx_app]
      have ha37 : ((((cHd2 ++ (txt "when red @")) ++ x) ++ (txt " leave zz on zz;")) ++ cLate : Cs).length ≤ 1500 := by rw [List.length_append]; omega
      refine ⟨(by show 2 ≤ sizeLine; decide), fun t38 nt39 => ?_⟩
      have s41 := sameUpd (o := .tup [.str (sx ((((cHd2 ++ (txt "when red @")) ++ x) ++ (txt " leave zz on zz;")) ++ cLate)), .str "unknown"]) (Same.refl H31) nt39
      have ht42 := @upd_same H31 t38 (.tup [.str (sx ((((cHd2 ++ (txt "when red @")) ++ x) ++ (txt " leave zz on zz;")) ++ cLate)), .str "unknown"])
      generalize upd H31 t38 (.tup [.str (sx ((((cHd2 ++ (txt "when red @")) ++ x) ++ (txt " leave zz on zz;")) ++ cLate)), .str "unknown"]) = H40 at *
      have drF := Drawn.trans drrr30 (Drawn.of drrr30.at_ s41)
      have ntF := drrr30.free (let ⟨_, _, _, _, e⟩ := hd0; ⟨_, e⟩) nt39
      have eQ : ((((cHd2 ++ (txt "when red @")) ++ x) ++ (txt " leave zz on zz;")) ++ cLate : Cs) = (f10 x).1 ++ 64 :: (f10 x).2.1 := by
        have eL : txt "when red @" = txt "when red " ++ [64] := by decide +kernel
        rw [eL]
        simp only [f10, List.append_assoc, List.cons_append, List.nil_append]
      have eR : V.str "unknown" = sV (f10 x).2.2 := by kernel_rfl
      have hq : MkAt H40 t38 (f10 x) := by
        unfold MkAt
        rw [← eQ, ← eR]
        exact ht42
      exact k _ _ _ drF ntF hq (List.all_eq_true.mp o10 x hx)
    have hk10 : ¬ kd = 10 := fun z => hk (decide_eq_true (by rw [z]; rfl))
    refine ⟨_, rfl, rfl, _, rfl, ?_⟩
    refine ite2 (fun hk => ?_) (fun hk => ?_)
    · clear hk
      have hl45 : (cHd2 : Cs).length ≤ 300 := Nat.le_trans lHd (by decide)
      have hb43 : (txt "when go red leave @" : Cs).length ≤ 300 := by decide +kernel
      refine ⟨_, rfl, sx (cHd2), sx (txt "when go red leave @"), rfl, (by kernel_rfl), lenS (by omega), ?_⟩
      rw [sx_app]
      have ha44 : (cHd2 ++ (txt "when go red leave @") : Cs).length ≤ 600 := by rw [List.length_append]; omega
      refine ⟨(by show 2 ≤ sizeLine; decide), fun p46 np47 => ?_⟩
      have np46 : p46 ≠ d := (hd.ne np47).symm
      have s50 := sameUpd (o := .lst [.str "zz", .str "go"]) (Same.refl H) np47
      have hp48 := @upd_same H p46 (.lst [.str "zz", .str "go"])
      replace hd := hd.same s50
      generalize upd H p46 (.lst [.str "zz", .str "go"]) = H49 at *
      have drp46 := Drawn.trans dr0 (Drawn.of dr0.at_ s50)
      refine ⟨_, rfl, d, 2, rfl, hd, by decide, by decide, fun r51 sxr51 cxr51 bxr51 hr51 lr51 => ?_⟩
      have drr51 := (Drawn.refl hd).draw (s := sxr51) (c := cxr51) lr51
      replace hp48 := drr51.same _ _ np46 hp48
      have drrr51 := Drawn.trans drp46 drr51
      replace hd := drr51.at_
      generalize upd H49 d (drawL sxr51 cxr51 bxr51) = H52 at hd hp48 drr51 drrr51 ⊢
      clear drr51
      have ehp48 : (.lst [.str "zz", .str "go"] : HO) = .lst (([txt "zz", txt "go"] : List Cs).map sV) := by kernel_rfl
      rw [ehp48] at hp48
      obtain ⟨x, hx, hatr51⟩ : ∃ x, x ∈ ([txt "zz", txt "go"] : List Cs) ∧ (([txt "zz", txt "go"] : List Cs).map sV)[r51]? = some (sV x) := ⟨([txt "zz", txt "go"] : List Cs)[r51]'hr51, List.getElem_mem _, by rw [List.getElem?_map, List.getElem?_eq_getElem hr51]; rfl⟩
      have hx8 : x.length ≤ 8 := by
        have key : ∀ x ∈ ([txt "zz", txt "go"] : List Cs), x.length ≤ 8 := by decide +kernel
        exact key x hx
      refine ⟨p46, _, _, _, rfl, rfl, SqL.of hp48, atI_nat hatr51, ?_⟩
      clear hatr51 hp48
      have hb53 : (x : Cs).length ≤ 300 := Nat.le_trans hx8 (by decide)
      refine ⟨sx (cHd2 ++ (txt "when go red leave @")), sx (x), rfl, rfl, lenS (by omega), ?_⟩
      rw [sx_app]
      have ha54 : ((cHd2 ++ (txt "when go red leave @")) ++ x : Cs).length ≤ 900 := by rw [List.length_append]; omega
      have hb55 : (txt " back zz;" : Cs).length ≤ 300 := by decide +kernel
      refine ⟨sx ((cHd2 ++ (txt "when go red leave @")) ++ x), sx (txt " back zz;"), rfl, (by kernel_rfl), lenS (by omega), ?_⟩
      rw [sx_app]
      have ha56 : (((cHd2 ++ (txt "when go red leave @")) ++ x) ++ (txt " back zz;") : Cs).length ≤ 1200 := by rw [List.length_append]; omega
      have hb57 : (cLate : Cs).length ≤ 300 := Nat.le_trans lLa (by decide)
      refine ⟨_, rfl, sx (((cHd2 ++ (txt "when go red leave @")) ++ x) ++ (txt " back zz;")), sx (cLate), rfl, rfl, lenS (by omega), ?_⟩
      rw [sx_app]
      have ha58 : ((((cHd2 ++ (txt "when go red leave @")) ++ x) ++ (txt " back zz;")) ++ cLate : Cs).length ≤ 1500 := by rw [List.length_append]; omega
      refine ⟨(by show 2 ≤ sizeLine; decide), fun t59 nt60 => ?_⟩
      have s62 := sameUpd (o := .tup [.str (sx ((((cHd2 ++ (txt "when go red leave @")) ++ x) ++ (txt " back zz;")) ++ cLate)), .str "unknown"]) (Same.refl H52) nt60
      have ht63 := @upd_same H52 t59 (.tup [.str (sx ((((cHd2 ++ (txt "when go red leave @")) ++ x) ++ (txt " back zz;")) ++ cLate)), .str "unknown"])
      generalize upd H52 t59 (.tup [.str (sx ((((cHd2 ++ (txt "when go red leave @")) ++ x) ++ (txt " back zz;")) ++ cLate)), .str "unknown"]) = H61 at *
      have drF := Drawn.trans drrr51 (Drawn.of drrr51.at_ s62)
      have ntF := drrr51.free (let ⟨_, _, _, _, e⟩ := hd0; ⟨_, e⟩) nt60
      have eQ : ((((cHd2 ++ (txt "when go red leave @")) ++ x) ++ (txt " back zz;")) ++ cLate : Cs) = (f11 x).1 ++ 64 :: (f11 x).2.1 := by
        have eL : txt "when go red leave @" = txt "when go red leave " ++ [64] := by decide +kernel
        rw [eL]
        simp only [f11, List.append_assoc, List.cons_append, List.nil_append]
      have eR : V.str "unknown" = sV (f11 x).2.2 := by kernel_rfl
      have hq : MkAt H61 t59 (f11 x) := by
        unfold MkAt
        rw [← eQ, ← eR]
        exact ht63
      exact k _ _ _ drF ntF hq (List.all_eq_true.mp o11 x hx)
    have hk11 : ¬ kd = 11 := fun z => hk (decide_eq_true (by rw [z]; rfl))
    refine ⟨_, rfl, rfl, _, rfl, ?_⟩
    refine ite2 (fun hk => ?_) (fun hk => ?_)
    · clear hk
      have hl66 : (cHd2 : Cs).length ≤ 300 := Nat.le_trans lHd (by decide)
      have hb64 : (txt "when red red leave red stay @" : Cs).length ≤ 300 := by decide +kernel
      refine ⟨_, rfl, sx (cHd2), sx (txt "when red red leave red stay @"), rfl, (by kernel_rfl), lenS (by omega), ?_⟩
      rw [sx_app]
      have ha65 : (cHd2 ++ (txt "when red red leave red stay @") : Cs).length ≤ 600 := by rw [List.length_append]; omega
      refine ⟨(by show 2 ≤ sizeLine; decide), fun p67 np68 => ?_⟩
      have np67 : p67 ≠ d := (hd.ne np68).symm
      have s71 := sameUpd (o := .lst [.str "zz", .str "no"]) (Same.refl H) np68
      have hp69 := @upd_same H p67 (.lst [.str "zz", .str "no"])
      replace hd := hd.same s71
      generalize upd H p67 (.lst [.str "zz", .str "no"]) = H70 at *
      have drp67 := Drawn.trans dr0 (Drawn.of dr0.at_ s71)
      refine ⟨_, rfl, d, 2, rfl, hd, by decide, by decide, fun r72 sxr72 cxr72 bxr72 hr72 lr72 => ?_⟩
      have drr72 := (Drawn.refl hd).draw (s := sxr72) (c := cxr72) lr72
      replace hp69 := drr72.same _ _ np67 hp69
      have drrr72 := Drawn.trans drp67 drr72
      replace hd := drr72.at_
      generalize upd H70 d (drawL sxr72 cxr72 bxr72) = H73 at hd hp69 drr72 drrr72 ⊢
      clear drr72
      have ehp69 : (.lst [.str "zz", .str "no"] : HO) = .lst (([txt "zz", txt "no"] : List Cs).map sV) := by kernel_rfl
      rw [ehp69] at hp69
      obtain ⟨x, hx, hatr72⟩ : ∃ x, x ∈ ([txt "zz", txt "no"] : List Cs) ∧ (([txt "zz", txt "no"] : List Cs).map sV)[r72]? = some (sV x) := ⟨([txt "zz", txt "no"] : List Cs)[r72]'hr72, List.getElem_mem _, by rw [List.getElem?_map, List.getElem?_eq_getElem hr72]; rfl⟩
      have hx8 : x.length ≤ 8 := by
        have key : ∀ x ∈ ([txt "zz", txt "no"] : List Cs), x.length ≤ 8 := by decide +kernel
        exact key x hx
      refine ⟨p67, _, _, _, rfl, rfl, SqL.of hp69, atI_nat hatr72, ?_⟩
      clear hatr72 hp69
      have hb74 : (x : Cs).length ≤ 300 := Nat.le_trans hx8 (by decide)
      refine ⟨sx (cHd2 ++ (txt "when red red leave red stay @")), sx (x), rfl, rfl, lenS (by omega), ?_⟩
      rw [sx_app]
      have ha75 : ((cHd2 ++ (txt "when red red leave red stay @")) ++ x : Cs).length ≤ 900 := by rw [List.length_append]; omega
      have hb76 : (txt ";" : Cs).length ≤ 300 := by decide +kernel
      refine ⟨sx ((cHd2 ++ (txt "when red red leave red stay @")) ++ x), sx (txt ";"), rfl, (by kernel_rfl), lenS (by omega), ?_⟩
      rw [sx_app]
      have ha77 : (((cHd2 ++ (txt "when red red leave red stay @")) ++ x) ++ (txt ";") : Cs).length ≤ 1200 := by rw [List.length_append]; omega
      have hb78 : (cLate : Cs).length ≤ 300 := Nat.le_trans lLa (by decide)
      refine ⟨_, rfl, sx (((cHd2 ++ (txt "when red red leave red stay @")) ++ x) ++ (txt ";")), sx (cLate), rfl, rfl, lenS (by omega), ?_⟩
      rw [sx_app]
      have ha79 : ((((cHd2 ++ (txt "when red red leave red stay @")) ++ x) ++ (txt ";")) ++ cLate : Cs).length ≤ 1500 := by rw [List.length_append]; omega
      refine ⟨(by show 2 ≤ sizeLine; decide), fun t80 nt81 => ?_⟩
      have s83 := sameUpd (o := .tup [.str (sx ((((cHd2 ++ (txt "when red red leave red stay @")) ++ x) ++ (txt ";")) ++ cLate)), .str "unknown"]) (Same.refl H73) nt81
      have ht84 := @upd_same H73 t80 (.tup [.str (sx ((((cHd2 ++ (txt "when red red leave red stay @")) ++ x) ++ (txt ";")) ++ cLate)), .str "unknown"])
      generalize upd H73 t80 (.tup [.str (sx ((((cHd2 ++ (txt "when red red leave red stay @")) ++ x) ++ (txt ";")) ++ cLate)), .str "unknown"]) = H82 at *
      have drF := Drawn.trans drrr72 (Drawn.of drrr72.at_ s83)
      have ntF := drrr72.free (let ⟨_, _, _, _, e⟩ := hd0; ⟨_, e⟩) nt81
      have eQ : ((((cHd2 ++ (txt "when red red leave red stay @")) ++ x) ++ (txt ";")) ++ cLate : Cs) = (f12 x).1 ++ 64 :: (f12 x).2.1 := by
        have eL : txt "when red red leave red stay @" = txt "when red red leave red stay " ++ [64] := by decide +kernel
        rw [eL]
        simp only [f12, List.append_assoc, List.cons_append, List.nil_append]
      have eR : V.str "unknown" = sV (f12 x).2.2 := by kernel_rfl
      have hq : MkAt H82 t80 (f12 x) := by
        unfold MkAt
        rw [← eQ, ← eR]
        exact ht84
      exact k _ _ _ drF ntF hq (List.all_eq_true.mp o12 x hx)
    have hk12 : ¬ kd = 12 := fun z => hk (decide_eq_true (by rw [z]; rfl))
    refine ⟨_, rfl, rfl, _, rfl, ?_⟩
    refine ite2 (fun hk => ?_) (fun hk => ?_)
    · clear hk
      have hl87 : (cHd2 : Cs).length ≤ 300 := Nat.le_trans lHd (by decide)
      have hb85 : (txt "put red 8; put no 0;\nput blue @" : Cs).length ≤ 300 := by decide +kernel
      refine ⟨_, rfl, sx (cHd2), sx (txt "put red 8; put no 0;\nput blue @"), rfl, (by kernel_rfl), lenS (by omega), ?_⟩
      rw [sx_app]
      have ha86 : (cHd2 ++ (txt "put red 8; put no 0;\nput blue @") : Cs).length ≤ 600 := by rw [List.length_append]; omega
      refine ⟨_, rfl, d, 2, rfl, hd, by decide, by decide, fun r88 sxr88 cxr88 bxr88 hr88 lr88 => ?_⟩
      have drr88 := (Drawn.refl hd).draw (s := sxr88) (c := cxr88) lr88
      have drrr88 := Drawn.trans dr0 drr88
      replace hd := drr88.at_
      generalize upd H d (drawL sxr88 cxr88 bxr88) = H89 at hd drr88 drrr88 ⊢
      clear drr88
      obtain ⟨c, hx, hatr88⟩ : ∃ c, [c] ∈ ([txt "8", txt "0"] : List Cs) ∧ ("80" : Str).cps.toList[r88]? = some c := by
        have key : ∀ r, r < 2 → ∃ c, [c] ∈ ([txt "8", txt "0"] : List Cs) ∧ ("80" : Str).cps.toList[r]? = some c := by
          have e : ("80" : Str).cps.toList = [56, 48] := by decide +kernel
          rw [e]
          intro r hr
          match r, hr with
          | 0, _ => exact ⟨56, by decide +kernel, rfl⟩
          | 1, _ => exact ⟨48, by decide +kernel, rfl⟩
        exact key _ hr88
      refine ⟨"80", ((r88 : Nat) : Int), c, rfl, rfl, by decide +kernel, atI_nat hatr88, ?_⟩
      clear hatr88
      have hb90 : ([c] : Cs).length ≤ 300 := Nat.le_trans (Nat.le_refl 1 : ([c] : Cs).length ≤ 1) (by decide)
      refine ⟨sx (cHd2 ++ (txt "put red 8; put no 0;\nput blue @")), sx ([c]), rfl, rfl, lenS (by omega), ?_⟩
      rw [sx_app]
      have ha91 : ((cHd2 ++ (txt "put red 8; put no 0;\nput blue @")) ++ [c] : Cs).length ≤ 900 := by rw [List.length_append]; omega
      have hb92 : (txt ";" : Cs).length ≤ 300 := by decide +kernel
      refine ⟨sx ((cHd2 ++ (txt "put red 8; put no 0;\nput blue @")) ++ [c]), sx (txt ";"), rfl, (by kernel_rfl), lenS (by omega), ?_⟩
      rw [sx_app]
      have ha93 : (((cHd2 ++ (txt "put red 8; put no 0;\nput blue @")) ++ [c]) ++ (txt ";") : Cs).length ≤ 1200 := by rw [List.length_append]; omega
      have hb94 : (cLate : Cs).length ≤ 300 := Nat.le_trans lLa (by decide)
      refine ⟨_, rfl, sx (((cHd2 ++ (txt "put red 8; put no 0;\nput blue @")) ++ [c]) ++ (txt ";")), sx (cLate), rfl, rfl, lenS (by omega), ?_⟩
      rw [sx_app]
      have ha95 : ((((cHd2 ++ (txt "put red 8; put no 0;\nput blue @")) ++ [c]) ++ (txt ";")) ++ cLate : Cs).length ≤ 1500 := by rw [List.length_append]; omega
      refine ⟨(by show 2 ≤ sizeLine; decide), fun t96 nt97 => ?_⟩
      have s99 := sameUpd (o := .tup [.str (sx ((((cHd2 ++ (txt "put red 8; put no 0;\nput blue @")) ++ [c]) ++ (txt ";")) ++ cLate)), .str "again"]) (Same.refl H89) nt97
      have ht100 := @upd_same H89 t96 (.tup [.str (sx ((((cHd2 ++ (txt "put red 8; put no 0;\nput blue @")) ++ [c]) ++ (txt ";")) ++ cLate)), .str "again"])
      generalize upd H89 t96 (.tup [.str (sx ((((cHd2 ++ (txt "put red 8; put no 0;\nput blue @")) ++ [c]) ++ (txt ";")) ++ cLate)), .str "again"]) = H98 at *
      have drF := Drawn.trans drrr88 (Drawn.of drrr88.at_ s99)
      have ntF := drrr88.free (let ⟨_, _, _, _, e⟩ := hd0; ⟨_, e⟩) nt97
      have eQ : ((((cHd2 ++ (txt "put red 8; put no 0;\nput blue @")) ++ [c]) ++ (txt ";")) ++ cLate : Cs) = (f13 [c]).1 ++ 64 :: (f13 [c]).2.1 := by
        have eL : txt "put red 8; put no 0;\nput blue @" = txt "put red 8; put no 0;\nput blue " ++ [64] := by decide +kernel
        rw [eL]
        simp only [f13, List.append_assoc, List.cons_append, List.nil_append]
      have eR : V.str "again" = sV (f13 [c]).2.2 := by kernel_rfl
      have hq : MkAt H98 t96 (f13 [c]) := by
        unfold MkAt
        rw [← eQ, ← eR]
        exact ht100
      exact k _ _ _ drF ntF hq (List.all_eq_true.mp o13 _ hx)
    have hk13 : ¬ kd = 13 := fun z => hk (decide_eq_true (by rw [z]; rfl))
    refine ⟨_, rfl, rfl, _, rfl, ?_⟩
    refine ite2 (fun hk => ?_) (fun hk => ?_)
    · clear hk
      have hl103 : (cHd2 : Cs).length ≤ 300 := Nat.le_trans lHd (by decide)
      have hb101 : (txt "when go no leave no on go;\n @when go no leave zz back zz;" : Cs).length ≤ 300 := by decide +kernel
      refine ⟨_, rfl, sx (cHd2), sx (txt "when go no leave no on go;\n @when go no leave zz back zz;"), rfl, (by kernel_rfl), lenS (by omega), ?_⟩
      rw [sx_app]
      have ha102 : (cHd2 ++ (txt "when go no leave no on go;\n @when go no leave zz back zz;") : Cs).length ≤ 600 := by rw [List.length_append]; omega
      have hb104 : (cLate : Cs).length ≤ 300 := Nat.le_trans lLa (by decide)
      refine ⟨_, rfl, sx (cHd2 ++ (txt "when go no leave no on go;\n @when go no leave zz back zz;")), sx (cLate), rfl, rfl, lenS (by omega), ?_⟩
      rw [sx_app]
      have ha105 : ((cHd2 ++ (txt "when go no leave no on go;\n @when go no leave zz back zz;")) ++ cLate : Cs).length ≤ 900 := by rw [List.length_append]; omega
      refine ⟨(by show 2 ≤ sizeLine; decide), fun t106 nt107 => ?_⟩
      have s109 := sameUpd (o := .tup [.str (sx ((cHd2 ++ (txt "when go no leave no on go;\n @when go no leave zz back zz;")) ++ cLate)), .str "twice"]) (Same.refl H) nt107
      have ht110 := @upd_same H t106 (.tup [.str (sx ((cHd2 ++ (txt "when go no leave no on go;\n @when go no leave zz back zz;")) ++ cLate)), .str "twice"])
      generalize upd H t106 (.tup [.str (sx ((cHd2 ++ (txt "when go no leave no on go;\n @when go no leave zz back zz;")) ++ cLate)), .str "twice"]) = H108 at *
      have drF := Drawn.trans dr0 (Drawn.of dr0.at_ s109)
      have ntF := dr0.free (let ⟨_, _, _, _, e⟩ := hd0; ⟨_, e⟩) nt107
      have eQ : ((cHd2 ++ (txt "when go no leave no on go;\n @when go no leave zz back zz;")) ++ cLate : Cs) = (f14 (txt "when")).1 ++ 64 :: (f14 (txt "when")).2.1 := by
        have eL : txt "when go no leave no on go;\n @when go no leave zz back zz;" = txt "when go no leave no on go;\n " ++ 64 :: (txt "when" ++ txt " go no leave zz back zz;") := by decide +kernel
        rw [eL]
        simp only [f14, List.append_assoc, List.cons_append, List.nil_append]
      have eR : V.str "twice" = sV (f14 (txt "when")).2.2 := by kernel_rfl
      have hq : MkAt H108 t106 (f14 (txt "when")) := by
        unfold MkAt
        rw [← eQ, ← eR]
        exact ht110
      exact k _ _ _ drF ntF hq (List.all_eq_true.mp o14 _ List.mem_cons_self)
    have hk14 : ¬ kd = 14 := fun z => hk (decide_eq_true (by rw [z]; rfl))
    refine ⟨_, rfl, rfl, _, rfl, ?_⟩
    refine ite2 (fun hk => ?_) (fun hk => ?_)
    · clear hk
      have hl113 : (txt "corridor 9; signs a b c d @e; moods go;\nrobot 0 left; put e 0;" : Cs).length ≤ 300 := by decide +kernel
      have hb111 : (cLate : Cs).length ≤ 300 := Nat.le_trans lLa (by decide)
      refine ⟨_, rfl, sx (txt "corridor 9; signs a b c d @e; moods go;\nrobot 0 left; put e 0;"), sx (cLate), (by kernel_rfl), rfl, lenS (by omega), ?_⟩
      rw [sx_app]
      have ha112 : (txt "corridor 9; signs a b c d @e; moods go;\nrobot 0 left; put e 0;" ++ cLate : Cs).length ≤ 600 := by rw [List.length_append]; omega
      refine ⟨(by show 2 ≤ sizeLine; decide), fun t114 nt115 => ?_⟩
      have s117 := sameUpd (o := .tup [.str (sx (txt "corridor 9; signs a b c d @e; moods go;\nrobot 0 left; put e 0;" ++ cLate)), .str "signs"]) (Same.refl H) nt115
      have ht118 := @upd_same H t114 (.tup [.str (sx (txt "corridor 9; signs a b c d @e; moods go;\nrobot 0 left; put e 0;" ++ cLate)), .str "signs"])
      generalize upd H t114 (.tup [.str (sx (txt "corridor 9; signs a b c d @e; moods go;\nrobot 0 left; put e 0;" ++ cLate)), .str "signs"]) = H116 at *
      have drF := Drawn.trans dr0 (Drawn.of dr0.at_ s117)
      have ntF := dr0.free (let ⟨_, _, _, _, e⟩ := hd0; ⟨_, e⟩) nt115
      have eQ : (txt "corridor 9; signs a b c d @e; moods go;\nrobot 0 left; put e 0;" ++ cLate : Cs) = (f15 (txt "e")).1 ++ 64 :: (f15 (txt "e")).2.1 := by
        have eL : txt "corridor 9; signs a b c d @e; moods go;\nrobot 0 left; put e 0;" = txt "corridor 9; signs a b c d " ++ 64 :: (txt "e" ++ txt "; moods go;\nrobot 0 left; put e 0;") := by decide +kernel
        rw [eL]
        simp only [f15, List.append_assoc, List.cons_append, List.nil_append]
      have eR : V.str "signs" = sV (f15 (txt "e")).2.2 := by kernel_rfl
      have hq : MkAt H116 t114 (f15 (txt "e")) := by
        unfold MkAt
        rw [← eQ, ← eR]
        exact ht118
      exact k _ _ _ drF ntF hq (List.all_eq_true.mp o15 _ List.mem_cons_self)
    have hk15 : ¬ kd = 15 := fun z => hk (decide_eq_true (by rw [z]; rfl))
    -- the valid plan
    have hl121 : (txt "@" : Cs).length ≤ 300 := by decide +kernel
    have hb119 : (cFull : Cs).length ≤ 300 := by decide +kernel
    refine ⟨_, rfl, sx (txt "@"), sx (cFull), (by kernel_rfl), (by kernel_rfl), lenS (by omega), ?_⟩
    rw [sx_app]
    have ha120 : (txt "@" ++ cFull : Cs).length ≤ 600 := by rw [List.length_append]; omega
    have hb122 : (cRules : Cs).length ≤ 300 := by decide +kernel
    refine ⟨_, rfl, sx (txt "@" ++ cFull), sx (cRules), rfl, (by kernel_rfl), lenS (by omega), ?_⟩
    rw [sx_app]
    have ha123 : ((txt "@" ++ cFull) ++ cRules : Cs).length ≤ 900 := by rw [List.length_append]; omega
    refine ⟨(by show 2 ≤ sizeLine; decide), fun t124 nt125 => ?_⟩
    have s127 := sameUpd (o := .tup [.str (sx ((txt "@" ++ cFull) ++ cRules)), .str ""]) (Same.refl H) nt125
    have ht128 := @upd_same H t124 (.tup [.str (sx ((txt "@" ++ cFull) ++ cRules)), .str ""])
    generalize upd H t124 (.tup [.str (sx ((txt "@" ++ cFull) ++ cRules)), .str ""]) = H126 at *
    have drF := Drawn.trans dr0 (Drawn.of dr0.at_ s127)
    have ntF := dr0.free (let ⟨_, _, _, _, e⟩ := hd0; ⟨_, e⟩) nt125
    have eQ : ((txt "@" ++ cFull) ++ cRules : Cs) = (f16 (txt "")).1 ++ 64 :: (f16 (txt "")).2.1 := by
      have eL : txt "@" = [64] := by decide +kernel
      rw [eL]
      simp only [f16, txt0, List.append_assoc, List.cons_append, List.nil_append]
    have eR : V.str "" = sV (f16 (txt "")).2.2 := by kernel_rfl
    have hq : MkAt H126 t124 (f16 (txt "")) := by
      unfold MkAt
      rw [← eQ, ← eR]
      exact ht128
    exact k _ _ _ drF ntF hq (List.all_eq_true.mp o16 _ List.mem_cons_self)
theorem ok_fau (T : FyT K mg) : FnE P w K mg base CX0 3 ("_law_faulty", none) ["_law_d"] spFaulty := by
  obtain ⟨fd, F⟩ := T.fau.d
  obtain ⟨fdB, GB, bB, kB⟩ := ok_below (P := P) (w := w) (base := base) T.l
  obtain ⟨fdM, GM, bM, kM⟩ := ok_more (P := P) (w := w) (base := base) T
  refine ⟨fd, F.ok sc_fau (fun vs H Q E h => ?_) (fun cdv A outer s H vs Q E hr h => ?_), F.bindsN fun _ _ _ _ _ _ us hl => match us, hl with | [_], _ => rfl, F.kp⟩
  · obtain ⟨d, rfl, _⟩ := h
    rfl
  · obtain ⟨d, rfl, hd, k⟩ := h
    have hr1 : Room 1 _ := hr.mono (by decide)
    have hr2 : Room 2 _ := hr.mono (by decide)
    have hd0 := hd
    have lHe : cHead.length ≤ 300 := by decide +kernel
    have lLa : cLate.length ≤ 300 := by decide +kernel
    have lOn : cOne.length ≤ 300 := by decide +kernel
    have lLs : cLast.length ≤ 300 := by decide +kernel
    refine ⟨_, PSs.nox (pss_cons (ps_par (i := 1) (j := 2) (by rfl) sc_fau.nd rfl rfl (by decide) rfl rfl (pa_cons (pe_call GB hr1 rfl T.l.below.g kB bB .nil pass0 (pa_cons (pv 0) (pa_cons pe_int pa_nil))) (pa_cons pe_str pa_nil)) (by rfl))
      (pss_cons (ps_par (i := 3) (j := 4) (by rfl) sc_fau.nd rfl rfl (by decide) rfl rfl (pa_cons pe_str (pa_cons (pe_callTy call_str_int (by rfl) T.str (by decide +kernel) (pa_cons (pe_op op_add pe_int (pe_call GB hr1 rfl T.l.below.g kB bB .nil pass0 (pa_cons (pv 0) (pa_cons pe_int pa_nil)))) pa_nil)) pa_nil)) (by rfl))
      (pss_cons (ps_par (i := 5) (j := 6) (by rfl) sc_fau.nd rfl rfl (by decide) rfl rfl (pa_cons pe_str (pa_cons (pe_op op_add_str pe_str (pv 3)) pa_nil)) (by rfl))
      (pss_cons (ps_if (pt_cmpR op_eq (pv 1) pe_int (nomark _))
        (pss_one (ps_ret (pe_tup (pa_cons (pe_op op_add_str (pe_op op_add_str (pe_op op_add_str pe_str (pe_ix ix_list (pe_lst (pa_cons pe_str (pa_cons pe_str (pa_cons pe_str pa_nil)))) (pe_call GB hr1 rfl T.l.below.g kB bB .nil pass0 (pa_cons (pv 0) (pa_cons pe_int pa_nil))) (fun _ _ => rfl))) pe_str) (pv 6)) (pa_cons pe_str pa_nil))))) pss_nil)
      (pss_cons (ps_if (pt_cmpR op_eq (pv 1) pe_int (nomark _))
        (pss_one (ps_ret (pe_tup (pa_cons (pe_op op_add_str (pe_op op_add_str (pe_op op_add_str pe_str (pe_ix ix_str pe_str (pe_call GB hr1 rfl T.l.below.g kB bB .nil pass0 (pa_cons (pv 0) (pa_cons pe_int pa_nil))) (fun _ _ => rfl))) pe_str) (pv 6)) (pa_cons pe_str pa_nil))))) pss_nil)
      (pss_cons (ps_if (pt_cmpR op_eq (pv 1) pe_int (nomark _))
        (pss_one (ps_ret (pe_tup (pa_cons (pe_op op_add_str (pe_op op_add_str (pe_op op_add_str pe_str (pe_ix ix_str pe_str (pe_call GB hr1 rfl T.l.below.g kB bB .nil pass0 (pa_cons (pv 0) (pa_cons pe_int pa_nil))) (fun _ _ => rfl))) pe_str) (pv 6)) (pa_cons pe_str pa_nil))))) pss_nil)
      (pss_cons (ps_if (pt_cmpR op_eq (pv 1) pe_int (nomark _))
        (pss_one (ps_ret (pe_tup (pa_cons (pe_op op_add_str (pe_op op_add_str (pe_op op_add_str pe_str (pe_ix ix_str pe_str (pe_call GB hr1 rfl T.l.below.g kB bB .nil pass0 (pa_cons (pv 0) (pa_cons pe_int pa_nil))) (fun _ _ => rfl))) pe_str) (pv 6)) (pa_cons pe_str pa_nil))))) pss_nil)
      (pss_cons (ps_if (pt_cmpR op_eq (pv 1) pe_int (nomark _))
        (pss_one (ps_ret (pe_tup (pa_cons (pe_op op_add_str (pe_op op_add_str (pe_op op_add_str pe_str (pe_ix ix_str pe_str (pe_call GB hr1 rfl T.l.below.g kB bB .nil pass0 (pa_cons (pv 0) (pa_cons pe_int pa_nil))) (fun _ _ => rfl))) pe_str) (pv 6)) (pa_cons pe_str pa_nil))))) pss_nil)
      (pss_cons (ps_if (pt_cmpR op_eq (pv 1) pe_int (nomark _))
        (pss_one (ps_ret (pe_tup (pa_cons (pe_op op_add_str (pe_op op_add_str (pe_op op_add_str (pe_op op_add_str (pe_op op_add_str (pv 2) (pe_op op_mul3 (pv 5) pe_int)) pe_str) (pe_ix ix_list (pe_lst (pa_cons pe_str (pa_cons (pv 4) pa_nil))) (pe_call GB hr1 rfl T.l.below.g kB bB .nil pass0 (pa_cons (pv 0) (pa_cons pe_int pa_nil))) (fun _ _ => rfl))) pe_str) (pv 3)) (pa_cons pe_str pa_nil))))) pss_nil)
      (pss_cons (ps_if (pt_cmpR op_eq (pv 1) pe_int (nomark _))
        (pss_one (ps_ret (pe_tup (pa_cons (pe_op op_add_str (pe_op op_add_str (pe_op op_add_str (pe_op op_add_str (pv 2) pe_str) (pv 4)) pe_str) (pv 3)) (pa_cons pe_str pa_nil))))) pss_nil)
      (pss_cons (ps_if (pt_cmpR op_eq (pv 1) pe_int (nomark _))
        (pss_one (ps_ret (pe_tup (pa_cons (pe_op op_add_str (pe_op op_add_str (pe_op op_add_str (pe_op op_add_str (pe_op op_add_str (pv 2) (pv 5)) pe_str) (pv 4)) pe_str) (pv 3)) (pa_cons pe_str pa_nil))))) pss_nil)
      (pss_cons (ps_if (pt_cmpR op_eq (pv 1) pe_int (nomark _))
        (pss_one (ps_ret (pe_tup (pa_cons (pe_op op_add_str (pe_op op_add_str (pe_op op_add_str (pe_op op_add_str (pe_op op_add_str (pe_op op_add_str (pe_op op_add_str (pv 2) (pv 5)) pe_str) (pe_ix ix_list (pe_lst (pa_cons pe_str (pa_cons pe_str (pa_cons pe_str pa_nil)))) (pe_call GB hr1 rfl T.l.below.g kB bB .nil pass0 (pa_cons (pv 0) (pa_cons pe_int pa_nil))) (fun _ _ => rfl))) pe_str) (pv 4)) pe_str) (pv 3)) (pa_cons pe_str pa_nil))))) pss_nil)
      (pss_one (ps_ret (pe_call GM hr2 rfl T.more.g kM bM .nil pass0 (pa_cons (pv 0) (pa_cons (pv 1) (pa_cons (pe_op op_add_str (pv 2) (pv 5)) (pa_cons (pv 3) pa_nil))))))))))))))))))), ?_⟩
    refine ⟨_, rfl, d, 18, rfl, hd, by decide, by decide, fun kd sA xA bA hkd lA => ?_⟩
    have drA := (Drawn.refl hd).draw (s := sA) (c := xA) lA
    replace hd := drA.at_
    generalize upd H d (drawL sA xA bA) = HA at hd drA ⊢
    refine ⟨_, _, rfl, ?_⟩
    refine ⟨_, rfl, d, 90, rfl, hd, by decide, by decide, fun rb sB xB bB hrb lB => ?_⟩
    have drB := (Drawn.refl hd).draw (s := sB) (c := xB) lB
    have dr0 := Drawn.trans drA drB
    replace hd := drB.at_
    generalize upd HA d (drawL sB xB bB) = HB at hd drB dr0 ⊢
    clear drA drB
    have e9 : (9 : Int) + ((rb : Nat) : Int) = ((9 + rb : Nat) : Int) := by omega
    refine ⟨_, _, rfl, rfl, ?_⟩
    dsimp only [tNil]
    rw [e9]
    refine ⟨_, rfl, log_small (by omega), ?_⟩
    rw [str_dec (show 9 + rb < 100 by omega)]
    refine ⟨_, _, rfl, ?_⟩
    refine ⟨_, rfl, sx (txt " robot 9 left;"), sx cLate, (by kernel_rfl), (by kernel_rfl), lenS (by decide +kernel), ?_⟩
    rw [sx_app]
    refine ⟨_, _, rfl, ?_⟩
    refine at_slotsY [some (.ref d), some (.int (kd : Nat)), some (sV cHead), some (sV cLate), some (sV (dec (9 + rb))), some (sV cOne), some (sV cLast)] (by kernel_rfl) ?_
    refine ⟨_, rfl, rfl, _, rfl, ?_⟩
    refine ite2 (fun hk => ?_) (fun hk => ?_)
    · clear hk
      refine ⟨(by show 3 ≤ sizeLine; decide), fun p129 np130 => ?_⟩
      have np129 : p129 ≠ d := (hd.ne np130).symm
      have s133 := sameUpd (o := .lst [.str "0", .str "17", .str "99"]) (Same.refl HB) np130
      have hp131 := @upd_same HB p129 (.lst [.str "0", .str "17", .str "99"])
      replace hd := hd.same s133
      generalize upd HB p129 (.lst [.str "0", .str "17", .str "99"]) = H132 at *
      have drp129 := Drawn.trans dr0 (Drawn.of dr0.at_ s133)
      refine ⟨_, rfl, d, 3, rfl, hd, by decide, by decide, fun r134 sxr134 cxr134 bxr134 hr134 lr134 => ?_⟩
      have drr134 := (Drawn.refl hd).draw (s := sxr134) (c := cxr134) lr134
      replace hp131 := drr134.same _ _ np129 hp131
      have drrr134 := Drawn.trans drp129 drr134
      replace hd := drr134.at_
      generalize upd H132 d (drawL sxr134 cxr134 bxr134) = H135 at hd hp131 drr134 drrr134 ⊢
      clear drr134
      have ehp131 : (.lst [.str "0", .str "17", .str "99"] : HO) = .lst (([txt "0", txt "17", txt "99"] : List Cs).map sV) := by kernel_rfl
      rw [ehp131] at hp131
      obtain ⟨x, hx, hatr134⟩ : ∃ x, x ∈ ([txt "0", txt "17", txt "99"] : List Cs) ∧ (([txt "0", txt "17", txt "99"] : List Cs).map sV)[r134]? = some (sV x) := ⟨([txt "0", txt "17", txt "99"] : List Cs)[r134]'hr134, List.getElem_mem _, by rw [List.getElem?_map, List.getElem?_eq_getElem hr134]; rfl⟩
      have hx8 : x.length ≤ 8 := by
        have key : ∀ x ∈ ([txt "0", txt "17", txt "99"] : List Cs), x.length ≤ 8 := by decide +kernel
        exact key x hx
      refine ⟨p129, _, _, _, rfl, rfl, SqL.of hp131, atI_nat hatr134, ?_⟩
      clear hatr134 hp131
      have hl138 : (txt "corridor @" : Cs).length ≤ 300 := by decide +kernel
      have hb136 : (x : Cs).length ≤ 300 := Nat.le_trans hx8 (by decide)
      refine ⟨sx (txt "corridor @"), sx (x), (by kernel_rfl), rfl, lenS (by omega), ?_⟩
      rw [sx_app]
      have ha137 : (txt "corridor @" ++ x : Cs).length ≤ 600 := by rw [List.length_append]; omega
      have hb139 : (txt "; signs a a; moods b;" : Cs).length ≤ 300 := by decide +kernel
      refine ⟨sx (txt "corridor @" ++ x), sx (txt "; signs a a; moods b;"), rfl, (by kernel_rfl), lenS (by omega), ?_⟩
      rw [sx_app]
      have ha140 : ((txt "corridor @" ++ x) ++ (txt "; signs a a; moods b;") : Cs).length ≤ 900 := by rw [List.length_append]; omega
      have hb141 : (cLast : Cs).length ≤ 300 := Nat.le_trans lLs (by decide)
      refine ⟨_, rfl, sx ((txt "corridor @" ++ x) ++ (txt "; signs a a; moods b;")), sx (cLast), rfl, rfl, lenS (by omega), ?_⟩
      rw [sx_app]
      have ha142 : (((txt "corridor @" ++ x) ++ (txt "; signs a a; moods b;")) ++ cLast : Cs).length ≤ 1200 := by rw [List.length_append]; omega
      refine ⟨(by show 2 ≤ sizeLine; decide), fun t143 nt144 => ?_⟩
      have s146 := sameUpd (o := .tup [.str (sx (((txt "corridor @" ++ x) ++ (txt "; signs a a; moods b;")) ++ cLast)), .str "corridor"]) (Same.refl H135) nt144
      have ht147 := @upd_same H135 t143 (.tup [.str (sx (((txt "corridor @" ++ x) ++ (txt "; signs a a; moods b;")) ++ cLast)), .str "corridor"])
      generalize upd H135 t143 (.tup [.str (sx (((txt "corridor @" ++ x) ++ (txt "; signs a a; moods b;")) ++ cLast)), .str "corridor"]) = H145 at *
      have drF := Drawn.trans drrr134 (Drawn.of drrr134.at_ s146)
      have ntF := drrr134.free (let ⟨_, _, _, _, e⟩ := hd0; ⟨_, e⟩) nt144
      have eQ : (((txt "corridor @" ++ x) ++ (txt "; signs a a; moods b;")) ++ cLast : Cs) = (f00 x).1 ++ 64 :: (f00 x).2.1 := by
        have eL : txt "corridor @" = txt "corridor " ++ [64] := by decide +kernel
        rw [eL]
        simp only [f00, List.append_assoc, List.cons_append, List.nil_append]
      have eR : V.str "corridor" = sV (f00 x).2.2 := by kernel_rfl
      have hq : MkAt H145 t143 (f00 x) := by
        unfold MkAt
        rw [← eQ, ← eR]
        exact ht147
      exact k _ _ _ drF ntF hq (List.all_eq_true.mp o00 x hx)
    have hk0 : ¬ kd = 0 := fun z => hk (decide_eq_true (by rw [z]; rfl))
    refine ⟨_, rfl, rfl, _, rfl, ?_⟩
    refine ite2 (fun hk => ?_) (fun hk => ?_)
    · clear hk
      refine ⟨_, rfl, d, 3, rfl, hd, by decide, by decide, fun r148 sxr148 cxr148 bxr148 hr148 lr148 => ?_⟩
      have drr148 := (Drawn.refl hd).draw (s := sxr148) (c := cxr148) lr148
      have drrr148 := Drawn.trans dr0 drr148
      replace hd := drr148.at_
      generalize upd HB d (drawL sxr148 cxr148 bxr148) = H149 at hd drr148 drrr148 ⊢
      clear drr148
      obtain ⟨c, hx, hatr148⟩ : ∃ c, [c] ∈ ([txt "a", txt "b", txt "c"] : List Cs) ∧ ("abc" : Str).cps.toList[r148]? = some c := by
        have key : ∀ r, r < 3 → ∃ c, [c] ∈ ([txt "a", txt "b", txt "c"] : List Cs) ∧ ("abc" : Str).cps.toList[r]? = some c := by
          have e : ("abc" : Str).cps.toList = [97, 98, 99] := by decide +kernel
          rw [e]
          intro r hr
          match r, hr with
          | 0, _ => exact ⟨97, by decide +kernel, rfl⟩
          | 1, _ => exact ⟨98, by decide +kernel, rfl⟩
          | 2, _ => exact ⟨99, by decide +kernel, rfl⟩
        exact key _ hr148
      refine ⟨"abc", ((r148 : Nat) : Int), c, rfl, rfl, by decide +kernel, atI_nat hatr148, ?_⟩
      clear hatr148
      have hl152 : (txt "corridor 9;\nsigns a b c @" : Cs).length ≤ 300 := by decide +kernel
      have hb150 : ([c] : Cs).length ≤ 300 := Nat.le_trans (Nat.le_refl 1 : ([c] : Cs).length ≤ 1) (by decide)
      refine ⟨sx (txt "corridor 9;\nsigns a b c @"), sx ([c]), (by kernel_rfl), rfl, lenS (by omega), ?_⟩
      rw [sx_app]
      have ha151 : (txt "corridor 9;\nsigns a b c @" ++ [c] : Cs).length ≤ 600 := by rw [List.length_append]; omega
      have hb153 : (txt " d; moods a a;" : Cs).length ≤ 300 := by decide +kernel
      refine ⟨sx (txt "corridor 9;\nsigns a b c @" ++ [c]), sx (txt " d; moods a a;"), rfl, (by kernel_rfl), lenS (by omega), ?_⟩
      rw [sx_app]
      have ha154 : ((txt "corridor 9;\nsigns a b c @" ++ [c]) ++ (txt " d; moods a a;") : Cs).length ≤ 900 := by rw [List.length_append]; omega
      have hb155 : (cLast : Cs).length ≤ 300 := Nat.le_trans lLs (by decide)
      refine ⟨_, rfl, sx ((txt "corridor 9;\nsigns a b c @" ++ [c]) ++ (txt " d; moods a a;")), sx (cLast), rfl, rfl, lenS (by omega), ?_⟩
      rw [sx_app]
      have ha156 : (((txt "corridor 9;\nsigns a b c @" ++ [c]) ++ (txt " d; moods a a;")) ++ cLast : Cs).length ≤ 1200 := by rw [List.length_append]; omega
      refine ⟨(by show 2 ≤ sizeLine; decide), fun t157 nt158 => ?_⟩
      have s160 := sameUpd (o := .tup [.str (sx (((txt "corridor 9;\nsigns a b c @" ++ [c]) ++ (txt " d; moods a a;")) ++ cLast)), .str "duplicate"]) (Same.refl H149) nt158
      have ht161 := @upd_same H149 t157 (.tup [.str (sx (((txt "corridor 9;\nsigns a b c @" ++ [c]) ++ (txt " d; moods a a;")) ++ cLast)), .str "duplicate"])
      generalize upd H149 t157 (.tup [.str (sx (((txt "corridor 9;\nsigns a b c @" ++ [c]) ++ (txt " d; moods a a;")) ++ cLast)), .str "duplicate"]) = H159 at *
      have drF := Drawn.trans drrr148 (Drawn.of drrr148.at_ s160)
      have ntF := drrr148.free (let ⟨_, _, _, _, e⟩ := hd0; ⟨_, e⟩) nt158
      have eQ : (((txt "corridor 9;\nsigns a b c @" ++ [c]) ++ (txt " d; moods a a;")) ++ cLast : Cs) = (f01 [c]).1 ++ 64 :: (f01 [c]).2.1 := by
        have eL : txt "corridor 9;\nsigns a b c @" = txt "corridor 9;\nsigns a b c " ++ [64] := by decide +kernel
        rw [eL]
        simp only [f01, List.append_assoc, List.cons_append, List.nil_append]
      have eR : V.str "duplicate" = sV (f01 [c]).2.2 := by kernel_rfl
      have hq : MkAt H159 t157 (f01 [c]) := by
        unfold MkAt
        rw [← eQ, ← eR]
        exact ht161
      exact k _ _ _ drF ntF hq (List.all_eq_true.mp o01 _ hx)
    have hk1 : ¬ kd = 1 := fun z => hk (decide_eq_true (by rw [z]; rfl))
    refine ⟨_, rfl, rfl, _, rfl, ?_⟩
    refine ite2 (fun hk => ?_) (fun hk => ?_)
    · clear hk
      refine ⟨_, rfl, d, 3, rfl, hd, by decide, by decide, fun r162 sxr162 cxr162 bxr162 hr162 lr162 => ?_⟩
      have drr162 := (Drawn.refl hd).draw (s := sxr162) (c := cxr162) lr162
      have drrr162 := Drawn.trans dr0 drr162
      replace hd := drr162.at_
      generalize upd HB d (drawL sxr162 cxr162 bxr162) = H163 at hd drr162 drrr162 ⊢
      clear drr162
      obtain ⟨c, hx, hatr162⟩ : ∃ c, [c] ∈ ([txt "a", txt "b", txt "c"] : List Cs) ∧ ("abc" : Str).cps.toList[r162]? = some c := by
        have key : ∀ r, r < 3 → ∃ c, [c] ∈ ([txt "a", txt "b", txt "c"] : List Cs) ∧ ("abc" : Str).cps.toList[r]? = some c := by
          have e : ("abc" : Str).cps.toList = [97, 98, 99] := by decide +kernel
          rw [e]
          intro r hr
          match r, hr with
          | 0, _ => exact ⟨97, by decide +kernel, rfl⟩
          | 1, _ => exact ⟨98, by decide +kernel, rfl⟩
          | 2, _ => exact ⟨99, by decide +kernel, rfl⟩
        exact key _ hr162
      refine ⟨"abc", ((r162 : Nat) : Int), c, rfl, rfl, by decide +kernel, atI_nat hatr162, ?_⟩
      clear hatr162
      have hl166 : (txt "corridor 9; signs a;\nmoods a b c @" : Cs).length ≤ 300 := by decide +kernel
      have hb164 : ([c] : Cs).length ≤ 300 := Nat.le_trans (Nat.le_refl 1 : ([c] : Cs).length ≤ 1) (by decide)
      refine ⟨sx (txt "corridor 9; signs a;\nmoods a b c @"), sx ([c]), (by kernel_rfl), rfl, lenS (by omega), ?_⟩
      rw [sx_app]
      have ha165 : (txt "corridor 9; signs a;\nmoods a b c @" ++ [c] : Cs).length ≤ 600 := by rw [List.length_append]; omega
      have hb167 : (txt " d;" : Cs).length ≤ 300 := by decide +kernel
      refine ⟨sx (txt "corridor 9; signs a;\nmoods a b c @" ++ [c]), sx (txt " d;"), rfl, (by kernel_rfl), lenS (by omega), ?_⟩
      rw [sx_app]
      have ha168 : ((txt "corridor 9; signs a;\nmoods a b c @" ++ [c]) ++ (txt " d;") : Cs).length ≤ 900 := by rw [List.length_append]; omega
      have hb169 : (cLast : Cs).length ≤ 300 := Nat.le_trans lLs (by decide)
      refine ⟨_, rfl, sx ((txt "corridor 9; signs a;\nmoods a b c @" ++ [c]) ++ (txt " d;")), sx (cLast), rfl, rfl, lenS (by omega), ?_⟩
      rw [sx_app]
      have ha170 : (((txt "corridor 9; signs a;\nmoods a b c @" ++ [c]) ++ (txt " d;")) ++ cLast : Cs).length ≤ 1200 := by rw [List.length_append]; omega
      refine ⟨(by show 2 ≤ sizeLine; decide), fun t171 nt172 => ?_⟩
      have s174 := sameUpd (o := .tup [.str (sx (((txt "corridor 9; signs a;\nmoods a b c @" ++ [c]) ++ (txt " d;")) ++ cLast)), .str "duplicate"]) (Same.refl H163) nt172
      have ht175 := @upd_same H163 t171 (.tup [.str (sx (((txt "corridor 9; signs a;\nmoods a b c @" ++ [c]) ++ (txt " d;")) ++ cLast)), .str "duplicate"])
      generalize upd H163 t171 (.tup [.str (sx (((txt "corridor 9; signs a;\nmoods a b c @" ++ [c]) ++ (txt " d;")) ++ cLast)), .str "duplicate"]) = H173 at *
      have drF := Drawn.trans drrr162 (Drawn.of drrr162.at_ s174)
      have ntF := drrr162.free (let ⟨_, _, _, _, e⟩ := hd0; ⟨_, e⟩) nt172
      have eQ : (((txt "corridor 9; signs a;\nmoods a b c @" ++ [c]) ++ (txt " d;")) ++ cLast : Cs) = (f02 [c]).1 ++ 64 :: (f02 [c]).2.1 := by
        have eL : txt "corridor 9; signs a;\nmoods a b c @" = txt "corridor 9; signs a;\nmoods a b c " ++ [64] := by decide +kernel
        rw [eL]
        simp only [f02, List.append_assoc, List.cons_append, List.nil_append]
      have eR : V.str "duplicate" = sV (f02 [c]).2.2 := by kernel_rfl
      have hq : MkAt H173 t171 (f02 [c]) := by
        unfold MkAt
        rw [← eQ, ← eR]
        exact ht175
      exact k _ _ _ drF ntF hq (List.all_eq_true.mp o02 _ hx)
    have hk2 : ¬ kd = 2 := fun z => hk (decide_eq_true (by rw [z]; rfl))
    refine ⟨_, rfl, rfl, _, rfl, ?_⟩
    refine ite2 (fun hk => ?_) (fun hk => ?_)
    · clear hk
      refine ⟨_, rfl, d, 2, rfl, hd, by decide, by decide, fun r176 sxr176 cxr176 bxr176 hr176 lr176 => ?_⟩
      have drr176 := (Drawn.refl hd).draw (s := sxr176) (c := cxr176) lr176
      have drrr176 := Drawn.trans dr0 drr176
      replace hd := drr176.at_
      generalize upd HB d (drawL sxr176 cxr176 bxr176) = H177 at hd drr176 drrr176 ⊢
      clear drr176
      obtain ⟨c, hx, hatr176⟩ : ∃ c, [c] ∈ ([txt "e", txt "f"] : List Cs) ∧ ("ef" : Str).cps.toList[r176]? = some c := by
        have key : ∀ r, r < 2 → ∃ c, [c] ∈ ([txt "e", txt "f"] : List Cs) ∧ ("ef" : Str).cps.toList[r]? = some c := by
          have e : ("ef" : Str).cps.toList = [101, 102] := by decide +kernel
          rw [e]
          intro r hr
          match r, hr with
          | 0, _ => exact ⟨101, by decide +kernel, rfl⟩
          | 1, _ => exact ⟨102, by decide +kernel, rfl⟩
        exact key _ hr176
      refine ⟨"ef", ((r176 : Nat) : Int), c, rfl, rfl, by decide +kernel, atI_nat hatr176, ?_⟩
      clear hatr176
      have hl180 : (txt "corridor 9; signs a b c d @" : Cs).length ≤ 300 := by decide +kernel
      have hb178 : ([c] : Cs).length ≤ 300 := Nat.le_trans (Nat.le_refl 1 : ([c] : Cs).length ≤ 1) (by decide)
      refine ⟨sx (txt "corridor 9; signs a b c d @"), sx ([c]), (by kernel_rfl), rfl, lenS (by omega), ?_⟩
      rw [sx_app]
      have ha179 : (txt "corridor 9; signs a b c d @" ++ [c] : Cs).length ≤ 600 := by rw [List.length_append]; omega
      have hb181 : (txt " g a; moods a;" : Cs).length ≤ 300 := by decide +kernel
      refine ⟨sx (txt "corridor 9; signs a b c d @" ++ [c]), sx (txt " g a; moods a;"), rfl, (by kernel_rfl), lenS (by omega), ?_⟩
      rw [sx_app]
      have ha182 : ((txt "corridor 9; signs a b c d @" ++ [c]) ++ (txt " g a; moods a;") : Cs).length ≤ 900 := by rw [List.length_append]; omega
      have hb183 : (cLast : Cs).length ≤ 300 := Nat.le_trans lLs (by decide)
      refine ⟨_, rfl, sx ((txt "corridor 9; signs a b c d @" ++ [c]) ++ (txt " g a; moods a;")), sx (cLast), rfl, rfl, lenS (by omega), ?_⟩
      rw [sx_app]
      have ha184 : (((txt "corridor 9; signs a b c d @" ++ [c]) ++ (txt " g a; moods a;")) ++ cLast : Cs).length ≤ 1200 := by rw [List.length_append]; omega
      refine ⟨(by show 2 ≤ sizeLine; decide), fun t185 nt186 => ?_⟩
      have s188 := sameUpd (o := .tup [.str (sx (((txt "corridor 9; signs a b c d @" ++ [c]) ++ (txt " g a; moods a;")) ++ cLast)), .str "signs"]) (Same.refl H177) nt186
      have ht189 := @upd_same H177 t185 (.tup [.str (sx (((txt "corridor 9; signs a b c d @" ++ [c]) ++ (txt " g a; moods a;")) ++ cLast)), .str "signs"])
      generalize upd H177 t185 (.tup [.str (sx (((txt "corridor 9; signs a b c d @" ++ [c]) ++ (txt " g a; moods a;")) ++ cLast)), .str "signs"]) = H187 at *
      have drF := Drawn.trans drrr176 (Drawn.of drrr176.at_ s188)
      have ntF := drrr176.free (let ⟨_, _, _, _, e⟩ := hd0; ⟨_, e⟩) nt186
      have eQ : (((txt "corridor 9; signs a b c d @" ++ [c]) ++ (txt " g a; moods a;")) ++ cLast : Cs) = (f03 [c]).1 ++ 64 :: (f03 [c]).2.1 := by
        have eL : txt "corridor 9; signs a b c d @" = txt "corridor 9; signs a b c d " ++ [64] := by decide +kernel
        rw [eL]
        simp only [f03, List.append_assoc, List.cons_append, List.nil_append]
      have eR : V.str "signs" = sV (f03 [c]).2.2 := by kernel_rfl
      have hq : MkAt H187 t185 (f03 [c]) := by
        unfold MkAt
        rw [← eQ, ← eR]
        exact ht189
      exact k _ _ _ drF ntF hq (List.all_eq_true.mp o03 _ hx)
    have hk3 : ¬ kd = 3 := fun z => hk (decide_eq_true (by rw [z]; rfl))
    refine ⟨_, rfl, rfl, _, rfl, ?_⟩
    refine ite2 (fun hk => ?_) (fun hk => ?_)
    · clear hk
      refine ⟨_, rfl, d, 2, rfl, hd, by decide, by decide, fun r190 sxr190 cxr190 bxr190 hr190 lr190 => ?_⟩
      have drr190 := (Drawn.refl hd).draw (s := sxr190) (c := cxr190) lr190
      have drrr190 := Drawn.trans dr0 drr190
      replace hd := drr190.at_
      generalize upd HB d (drawL sxr190 cxr190 bxr190) = H191 at hd drr190 drrr190 ⊢
      clear drr190
      obtain ⟨c, hx, hatr190⟩ : ∃ c, [c] ∈ ([txt "g", txt "h"] : List Cs) ∧ ("gh" : Str).cps.toList[r190]? = some c := by
        have key : ∀ r, r < 2 → ∃ c, [c] ∈ ([txt "g", txt "h"] : List Cs) ∧ ("gh" : Str).cps.toList[r]? = some c := by
          have e : ("gh" : Str).cps.toList = [103, 104] := by decide +kernel
          rw [e]
          intro r hr
          match r, hr with
          | 0, _ => exact ⟨103, by decide +kernel, rfl⟩
          | 1, _ => exact ⟨104, by decide +kernel, rfl⟩
        exact key _ hr190
      refine ⟨"gh", ((r190 : Nat) : Int), c, rfl, rfl, by decide +kernel, atI_nat hatr190, ?_⟩
      clear hatr190
      have hl194 : (txt "corridor 9; signs a; moods a b c d e f @" : Cs).length ≤ 300 := by decide +kernel
      have hb192 : ([c] : Cs).length ≤ 300 := Nat.le_trans (Nat.le_refl 1 : ([c] : Cs).length ≤ 1) (by decide)
      refine ⟨sx (txt "corridor 9; signs a; moods a b c d e f @"), sx ([c]), (by kernel_rfl), rfl, lenS (by omega), ?_⟩
      rw [sx_app]
      have ha193 : (txt "corridor 9; signs a; moods a b c d e f @" ++ [c] : Cs).length ≤ 600 := by rw [List.length_append]; omega
      have hb195 : (txt " i a;" : Cs).length ≤ 300 := by decide +kernel
      refine ⟨sx (txt "corridor 9; signs a; moods a b c d e f @" ++ [c]), sx (txt " i a;"), rfl, (by kernel_rfl), lenS (by omega), ?_⟩
      rw [sx_app]
      have ha196 : ((txt "corridor 9; signs a; moods a b c d e f @" ++ [c]) ++ (txt " i a;") : Cs).length ≤ 900 := by rw [List.length_append]; omega
      have hb197 : (cLast : Cs).length ≤ 300 := Nat.le_trans lLs (by decide)
      refine ⟨_, rfl, sx ((txt "corridor 9; signs a; moods a b c d e f @" ++ [c]) ++ (txt " i a;")), sx (cLast), rfl, rfl, lenS (by omega), ?_⟩
      rw [sx_app]
      have ha198 : (((txt "corridor 9; signs a; moods a b c d e f @" ++ [c]) ++ (txt " i a;")) ++ cLast : Cs).length ≤ 1200 := by rw [List.length_append]; omega
      refine ⟨(by show 2 ≤ sizeLine; decide), fun t199 nt200 => ?_⟩
      have s202 := sameUpd (o := .tup [.str (sx (((txt "corridor 9; signs a; moods a b c d e f @" ++ [c]) ++ (txt " i a;")) ++ cLast)), .str "moods"]) (Same.refl H191) nt200
      have ht203 := @upd_same H191 t199 (.tup [.str (sx (((txt "corridor 9; signs a; moods a b c d e f @" ++ [c]) ++ (txt " i a;")) ++ cLast)), .str "moods"])
      generalize upd H191 t199 (.tup [.str (sx (((txt "corridor 9; signs a; moods a b c d e f @" ++ [c]) ++ (txt " i a;")) ++ cLast)), .str "moods"]) = H201 at *
      have drF := Drawn.trans drrr190 (Drawn.of drrr190.at_ s202)
      have ntF := drrr190.free (let ⟨_, _, _, _, e⟩ := hd0; ⟨_, e⟩) nt200
      have eQ : (((txt "corridor 9; signs a; moods a b c d e f @" ++ [c]) ++ (txt " i a;")) ++ cLast : Cs) = (f04 [c]).1 ++ 64 :: (f04 [c]).2.1 := by
        have eL : txt "corridor 9; signs a; moods a b c d e f @" = txt "corridor 9; signs a; moods a b c d e f " ++ [64] := by decide +kernel
        rw [eL]
        simp only [f04, List.append_assoc, List.cons_append, List.nil_append]
      have eR : V.str "moods" = sV (f04 [c]).2.2 := by kernel_rfl
      have hq : MkAt H201 t199 (f04 [c]) := by
        unfold MkAt
        rw [← eQ, ← eR]
        exact ht203
      exact k _ _ _ drF ntF hq (List.all_eq_true.mp o04 _ hx)
    have hk4 : ¬ kd = 4 := fun z => hk (decide_eq_true (by rw [z]; rfl))
    refine ⟨_, rfl, rfl, _, rfl, ?_⟩
    refine ite2 (fun hk => ?_) (fun hk => ?_)
    · clear hk
      have hl206 : (cHead : Cs).length ≤ 300 := Nat.le_trans lHe (by decide)
      have hb204 : (cOne ++ cOne ++ cOne : Cs).length ≤ 300 := by decide +kernel
      refine ⟨_, rfl, _, rfl, sx cOne, rfl, rfl, (by decide +kernel), (by decide +kernel), sx (cHead), sx (cOne ++ cOne ++ cOne), rfl, (by rw [sx_app, sx_app]), lenS (by omega), ?_⟩
      rw [sx_app]
      have ha205 : (cHead ++ (cOne ++ cOne ++ cOne) : Cs).length ≤ 600 := by rw [List.length_append]; omega
      have hb207 : (txt "put red 0;\n @robot " : Cs).length ≤ 300 := by decide +kernel
      refine ⟨sx (cHead ++ (cOne ++ cOne ++ cOne)), sx (txt "put red 0;\n @robot "), rfl, (by kernel_rfl), lenS (by omega), ?_⟩
      rw [sx_app]
      have ha208 : ((cHead ++ (cOne ++ cOne ++ cOne)) ++ (txt "put red 0;\n @robot ") : Cs).length ≤ 900 := by rw [List.length_append]; omega
      refine ⟨_, rfl, (by show 2 ≤ sizeLine; decide), fun p209 np210 => ?_⟩
      have np209 : p209 ≠ d := (hd.ne np210).symm
      have s213 := sameUpd (o := .lst [.str "0", sV (dec (9 + rb))]) (Same.refl HB) np210
      have hp211 := @upd_same HB p209 (.lst [.str "0", sV (dec (9 + rb))])
      replace hd := hd.same s213
      generalize upd HB p209 (.lst [.str "0", sV (dec (9 + rb))]) = H212 at *
      have drp209 := Drawn.trans dr0 (Drawn.of dr0.at_ s213)
      refine ⟨_, rfl, d, 2, rfl, hd, by decide, by decide, fun r214 sxr214 cxr214 bxr214 hr214 lr214 => ?_⟩
      have drr214 := (Drawn.refl hd).draw (s := sxr214) (c := cxr214) lr214
      replace hp211 := drr214.same _ _ np209 hp211
      have drrr214 := Drawn.trans drp209 drr214
      replace hd := drr214.at_
      generalize upd H212 d (drawL sxr214 cxr214 bxr214) = H215 at hd hp211 drr214 drrr214 ⊢
      clear drr214
      have ehp211 : (.lst [.str "0", sV (dec (9 + rb))] : HO) = .lst (([txt "0", dec (9 + rb)] : List Cs).map sV) := by kernel_rfl
      rw [ehp211] at hp211
      obtain ⟨x, hx, hatr214⟩ : ∃ x, x ∈ ([txt "0", dec (9 + rb)] : List Cs) ∧ (([txt "0", dec (9 + rb)] : List Cs).map sV)[r214]? = some (sV x) := ⟨([txt "0", dec (9 + rb)] : List Cs)[r214]'hr214, List.getElem_mem _, by rw [List.getElem?_map, List.getElem?_eq_getElem hr214]; rfl⟩
      have hx8 : x.length ≤ 8 := by
        simp only [List.mem_cons, List.not_mem_nil, or_false] at hx
        rcases hx with rfl | rfl
        · decide
        · have := dec_len (9 + rb); omega
      refine ⟨p209, _, _, _, rfl, rfl, SqL.of hp211, atI_nat hatr214, ?_⟩
      clear hatr214 hp211
      have hb216 : (x : Cs).length ≤ 300 := Nat.le_trans hx8 (by decide)
      refine ⟨sx ((cHead ++ (cOne ++ cOne ++ cOne)) ++ (txt "put red 0;\n @robot ")), sx (x), rfl, rfl, lenS (by omega), ?_⟩
      rw [sx_app]
      have ha217 : (((cHead ++ (cOne ++ cOne ++ cOne)) ++ (txt "put red 0;\n @robot ")) ++ x : Cs).length ≤ 1200 := by rw [List.length_append]; omega
      have hb218 : (txt " left;" : Cs).length ≤ 300 := by decide +kernel
      refine ⟨sx (((cHead ++ (cOne ++ cOne ++ cOne)) ++ (txt "put red 0;\n @robot ")) ++ x), sx (txt " left;"), rfl, (by kernel_rfl), lenS (by omega), ?_⟩
      rw [sx_app]
      have ha219 : ((((cHead ++ (cOne ++ cOne ++ cOne)) ++ (txt "put red 0;\n @robot ")) ++ x) ++ (txt " left;") : Cs).length ≤ 1500 := by rw [List.length_append]; omega
      have hb220 : (cLate : Cs).length ≤ 300 := Nat.le_trans lLa (by decide)
      refine ⟨_, rfl, sx ((((cHead ++ (cOne ++ cOne ++ cOne)) ++ (txt "put red 0;\n @robot ")) ++ x) ++ (txt " left;")), sx (cLate), rfl, rfl, lenS (by omega), ?_⟩
      rw [sx_app]
      have ha221 : (((((cHead ++ (cOne ++ cOne ++ cOne)) ++ (txt "put red 0;\n @robot ")) ++ x) ++ (txt " left;")) ++ cLate : Cs).length ≤ 1800 := by rw [List.length_append]; omega
      refine ⟨(by show 2 ≤ sizeLine; decide), fun t222 nt223 => ?_⟩
      have s225 := sameUpd (o := .tup [.str (sx (((((cHead ++ (cOne ++ cOne ++ cOne)) ++ (txt "put red 0;\n @robot ")) ++ x) ++ (txt " left;")) ++ cLate)), .str "robots"]) (Same.refl H215) nt223
      have ht226 := @upd_same H215 t222 (.tup [.str (sx (((((cHead ++ (cOne ++ cOne ++ cOne)) ++ (txt "put red 0;\n @robot ")) ++ x) ++ (txt " left;")) ++ cLate)), .str "robots"])
      generalize upd H215 t222 (.tup [.str (sx (((((cHead ++ (cOne ++ cOne ++ cOne)) ++ (txt "put red 0;\n @robot ")) ++ x) ++ (txt " left;")) ++ cLate)), .str "robots"]) = H224 at *
      have drF := Drawn.trans drrr214 (Drawn.of drrr214.at_ s225)
      have ntF := drrr214.free (let ⟨_, _, _, _, e⟩ := hd0; ⟨_, e⟩) nt223
      have eQ : (((((cHead ++ (cOne ++ cOne ++ cOne)) ++ (txt "put red 0;\n @robot ")) ++ x) ++ (txt " left;")) ++ cLate : Cs) = (f05 x).1 ++ 64 :: (f05 x).2.1 := by
        have eL : txt "put red 0;\n @robot " = txt "put red 0;\n " ++ 64 :: txt "robot " := by decide +kernel
        rw [eL]
        simp only [f05, List.append_assoc, List.cons_append, List.nil_append]
      have eR : V.str "robots" = sV (f05 x).2.2 := by kernel_rfl
      have hq : MkAt H224 t222 (f05 x) := by
        unfold MkAt
        rw [← eQ, ← eR]
        exact ht226
      exact k _ _ _ drF ntF hq (by simp only [List.mem_cons, List.not_mem_nil, or_false] at hx; rcases hx with rfl | rfl <;> first | exact o05_z | exact o05 hrb)
    have hk5 : ¬ kd = 5 := fun z => hk (decide_eq_true (by rw [z]; rfl))
    refine ⟨_, rfl, rfl, _, rfl, ?_⟩
    refine ite2 (fun hk => ?_) (fun hk => ?_)
    · clear hk
      have hl229 : (cHead : Cs).length ≤ 300 := Nat.le_trans lHe (by decide)
      have hb227 : (txt "robot @" : Cs).length ≤ 300 := by decide +kernel
      refine ⟨_, rfl, sx (cHead), sx (txt "robot @"), rfl, (by kernel_rfl), lenS (by omega), ?_⟩
      rw [sx_app]
      have ha228 : (cHead ++ (txt "robot @") : Cs).length ≤ 600 := by rw [List.length_append]; omega
      have hb230 : (dec (9 + rb) : Cs).length ≤ 300 := Nat.le_trans (Nat.le_trans (dec_len (9 + rb)) (by decide : 2 ≤ 300)) (by decide)
      refine ⟨_, rfl, sx (cHead ++ (txt "robot @")), sx (dec (9 + rb)), rfl, rfl, lenS (by omega), ?_⟩
      rw [sx_app]
      have ha231 : ((cHead ++ (txt "robot @")) ++ (dec (9 + rb)) : Cs).length ≤ 900 := by rw [List.length_append]; omega
      have hb232 : (txt " left;" : Cs).length ≤ 300 := by decide +kernel
      refine ⟨sx ((cHead ++ (txt "robot @")) ++ (dec (9 + rb))), sx (txt " left;"), rfl, (by kernel_rfl), lenS (by omega), ?_⟩
      rw [sx_app]
      have ha233 : (((cHead ++ (txt "robot @")) ++ (dec (9 + rb))) ++ (txt " left;") : Cs).length ≤ 1200 := by rw [List.length_append]; omega
      have hb234 : (cLate : Cs).length ≤ 300 := Nat.le_trans lLa (by decide)
      refine ⟨_, rfl, sx (((cHead ++ (txt "robot @")) ++ (dec (9 + rb))) ++ (txt " left;")), sx (cLate), rfl, rfl, lenS (by omega), ?_⟩
      rw [sx_app]
      have ha235 : ((((cHead ++ (txt "robot @")) ++ (dec (9 + rb))) ++ (txt " left;")) ++ cLate : Cs).length ≤ 1500 := by rw [List.length_append]; omega
      refine ⟨(by show 2 ≤ sizeLine; decide), fun t236 nt237 => ?_⟩
      have s239 := sameUpd (o := .tup [.str (sx ((((cHead ++ (txt "robot @")) ++ (dec (9 + rb))) ++ (txt " left;")) ++ cLate)), .str "tile"]) (Same.refl HB) nt237
      have ht240 := @upd_same HB t236 (.tup [.str (sx ((((cHead ++ (txt "robot @")) ++ (dec (9 + rb))) ++ (txt " left;")) ++ cLate)), .str "tile"])
      generalize upd HB t236 (.tup [.str (sx ((((cHead ++ (txt "robot @")) ++ (dec (9 + rb))) ++ (txt " left;")) ++ cLate)), .str "tile"]) = H238 at *
      have drF := Drawn.trans dr0 (Drawn.of dr0.at_ s239)
      have ntF := dr0.free (let ⟨_, _, _, _, e⟩ := hd0; ⟨_, e⟩) nt237
      have eQ : ((((cHead ++ (txt "robot @")) ++ (dec (9 + rb))) ++ (txt " left;")) ++ cLate : Cs) = (f06 (dec (9 + rb))).1 ++ 64 :: (f06 (dec (9 + rb))).2.1 := by
        have eL : txt "robot @" = txt "robot " ++ [64] := by decide +kernel
        rw [eL]
        simp only [f06, List.append_assoc, List.cons_append, List.nil_append]
      have eR : V.str "tile" = sV (f06 (dec (9 + rb))).2.2 := by kernel_rfl
      have hq : MkAt H238 t236 (f06 (dec (9 + rb))) := by
        unfold MkAt
        rw [← eQ, ← eR]
        exact ht240
      exact k _ _ _ drF ntF hq (o06 hrb)
    have hk6 : ¬ kd = 6 := fun z => hk (decide_eq_true (by rw [z]; rfl))
    refine ⟨_, rfl, rfl, _, rfl, ?_⟩
    refine ite2 (fun hk => ?_) (fun hk => ?_)
    · clear hk
      have hl243 : (cHead : Cs).length ≤ 300 := Nat.le_trans lHe (by decide)
      have hb241 : (cOne : Cs).length ≤ 300 := Nat.le_trans lOn (by decide)
      refine ⟨_, rfl, _, rfl, sx (cHead), sx (cOne), rfl, rfl, lenS (by omega), ?_⟩
      rw [sx_app]
      have ha242 : (cHead ++ cOne : Cs).length ≤ 600 := by rw [List.length_append]; omega
      have hb244 : (txt "put red @" : Cs).length ≤ 300 := by decide +kernel
      refine ⟨sx (cHead ++ cOne), sx (txt "put red @"), rfl, (by kernel_rfl), lenS (by omega), ?_⟩
      rw [sx_app]
      have ha245 : ((cHead ++ cOne) ++ (txt "put red @") : Cs).length ≤ 900 := by rw [List.length_append]; omega
      have hb246 : (dec (9 + rb) : Cs).length ≤ 300 := Nat.le_trans (Nat.le_trans (dec_len (9 + rb)) (by decide : 2 ≤ 300)) (by decide)
      refine ⟨_, rfl, sx ((cHead ++ cOne) ++ (txt "put red @")), sx (dec (9 + rb)), rfl, rfl, lenS (by omega), ?_⟩
      rw [sx_app]
      have ha247 : (((cHead ++ cOne) ++ (txt "put red @")) ++ (dec (9 + rb)) : Cs).length ≤ 1200 := by rw [List.length_append]; omega
      have hb248 : (txt ";" : Cs).length ≤ 300 := by decide +kernel
      refine ⟨sx (((cHead ++ cOne) ++ (txt "put red @")) ++ (dec (9 + rb))), sx (txt ";"), rfl, (by kernel_rfl), lenS (by omega), ?_⟩
      rw [sx_app]
      have ha249 : ((((cHead ++ cOne) ++ (txt "put red @")) ++ (dec (9 + rb))) ++ (txt ";") : Cs).length ≤ 1500 := by rw [List.length_append]; omega
      have hb250 : (cLate : Cs).length ≤ 300 := Nat.le_trans lLa (by decide)
      refine ⟨_, rfl, sx ((((cHead ++ cOne) ++ (txt "put red @")) ++ (dec (9 + rb))) ++ (txt ";")), sx (cLate), rfl, rfl, lenS (by omega), ?_⟩
      rw [sx_app]
      have ha251 : (((((cHead ++ cOne) ++ (txt "put red @")) ++ (dec (9 + rb))) ++ (txt ";")) ++ cLate : Cs).length ≤ 1800 := by rw [List.length_append]; omega
      refine ⟨(by show 2 ≤ sizeLine; decide), fun t252 nt253 => ?_⟩
      have s255 := sameUpd (o := .tup [.str (sx (((((cHead ++ cOne) ++ (txt "put red @")) ++ (dec (9 + rb))) ++ (txt ";")) ++ cLate)), .str "tile"]) (Same.refl HB) nt253
      have ht256 := @upd_same HB t252 (.tup [.str (sx (((((cHead ++ cOne) ++ (txt "put red @")) ++ (dec (9 + rb))) ++ (txt ";")) ++ cLate)), .str "tile"])
      generalize upd HB t252 (.tup [.str (sx (((((cHead ++ cOne) ++ (txt "put red @")) ++ (dec (9 + rb))) ++ (txt ";")) ++ cLate)), .str "tile"]) = H254 at *
      have drF := Drawn.trans dr0 (Drawn.of dr0.at_ s255)
      have ntF := dr0.free (let ⟨_, _, _, _, e⟩ := hd0; ⟨_, e⟩) nt253
      have eQ : (((((cHead ++ cOne) ++ (txt "put red @")) ++ (dec (9 + rb))) ++ (txt ";")) ++ cLate : Cs) = (f07 (dec (9 + rb))).1 ++ 64 :: (f07 (dec (9 + rb))).2.1 := by
        have eL : txt "put red @" = txt "put red " ++ [64] := by decide +kernel
        rw [eL]
        simp only [f07, List.append_assoc, List.cons_append, List.nil_append]
      have eR : V.str "tile" = sV (f07 (dec (9 + rb))).2.2 := by kernel_rfl
      have hq : MkAt H254 t252 (f07 (dec (9 + rb))) := by
        unfold MkAt
        rw [← eQ, ← eR]
        exact ht256
      exact k _ _ _ drF ntF hq (o07 hrb)
    have hk7 : ¬ kd = 7 := fun z => hk (decide_eq_true (by rw [z]; rfl))
    refine ⟨_, rfl, rfl, _, rfl, ?_⟩
    refine ite2 (fun hk => ?_) (fun hk => ?_)
    · clear hk
      have hl259 : (cHead : Cs).length ≤ 300 := Nat.le_trans lHe (by decide)
      have hb257 : (cOne : Cs).length ≤ 300 := Nat.le_trans lOn (by decide)
      refine ⟨_, rfl, _, rfl, sx (cHead), sx (cOne), rfl, rfl, lenS (by omega), ?_⟩
      rw [sx_app]
      have ha258 : (cHead ++ cOne : Cs).length ≤ 600 := by rw [List.length_append]; omega
      have hb260 : (txt "put @" : Cs).length ≤ 300 := by decide +kernel
      refine ⟨sx (cHead ++ cOne), sx (txt "put @"), rfl, (by kernel_rfl), lenS (by omega), ?_⟩
      rw [sx_app]
      have ha261 : ((cHead ++ cOne) ++ (txt "put @") : Cs).length ≤ 900 := by rw [List.length_append]; omega
      refine ⟨(by show 3 ≤ sizeLine; decide), fun p262 np263 => ?_⟩
      have np262 : p262 ≠ d := (hd.ne np263).symm
      have s266 := sameUpd (o := .lst [.str "zz", .str "go", .str "calm"]) (Same.refl HB) np263
      have hp264 := @upd_same HB p262 (.lst [.str "zz", .str "go", .str "calm"])
      replace hd := hd.same s266
      generalize upd HB p262 (.lst [.str "zz", .str "go", .str "calm"]) = H265 at *
      have drp262 := Drawn.trans dr0 (Drawn.of dr0.at_ s266)
      refine ⟨_, rfl, d, 3, rfl, hd, by decide, by decide, fun r267 sxr267 cxr267 bxr267 hr267 lr267 => ?_⟩
      have drr267 := (Drawn.refl hd).draw (s := sxr267) (c := cxr267) lr267
      replace hp264 := drr267.same _ _ np262 hp264
      have drrr267 := Drawn.trans drp262 drr267
      replace hd := drr267.at_
      generalize upd H265 d (drawL sxr267 cxr267 bxr267) = H268 at hd hp264 drr267 drrr267 ⊢
      clear drr267
      have ehp264 : (.lst [.str "zz", .str "go", .str "calm"] : HO) = .lst (([txt "zz", txt "go", txt "calm"] : List Cs).map sV) := by kernel_rfl
      rw [ehp264] at hp264
      obtain ⟨x, hx, hatr267⟩ : ∃ x, x ∈ ([txt "zz", txt "go", txt "calm"] : List Cs) ∧ (([txt "zz", txt "go", txt "calm"] : List Cs).map sV)[r267]? = some (sV x) := ⟨([txt "zz", txt "go", txt "calm"] : List Cs)[r267]'hr267, List.getElem_mem _, by rw [List.getElem?_map, List.getElem?_eq_getElem hr267]; rfl⟩
      have hx8 : x.length ≤ 8 := by
        have key : ∀ x ∈ ([txt "zz", txt "go", txt "calm"] : List Cs), x.length ≤ 8 := by decide +kernel
        exact key x hx
      refine ⟨p262, _, _, _, rfl, rfl, SqL.of hp264, atI_nat hatr267, ?_⟩
      clear hatr267 hp264
      have hb269 : (x : Cs).length ≤ 300 := Nat.le_trans hx8 (by decide)
      refine ⟨sx ((cHead ++ cOne) ++ (txt "put @")), sx (x), rfl, rfl, lenS (by omega), ?_⟩
      rw [sx_app]
      have ha270 : (((cHead ++ cOne) ++ (txt "put @")) ++ x : Cs).length ≤ 1200 := by rw [List.length_append]; omega
      have hb271 : (txt " " : Cs).length ≤ 300 := by decide +kernel
      refine ⟨sx (((cHead ++ cOne) ++ (txt "put @")) ++ x), sx (txt " "), rfl, (by kernel_rfl), lenS (by omega), ?_⟩
      rw [sx_app]
      have ha272 : ((((cHead ++ cOne) ++ (txt "put @")) ++ x) ++ (txt " ") : Cs).length ≤ 1500 := by rw [List.length_append]; omega
      have hb273 : (dec (9 + rb) : Cs).length ≤ 300 := Nat.le_trans (Nat.le_trans (dec_len (9 + rb)) (by decide : 2 ≤ 300)) (by decide)
      refine ⟨_, rfl, sx ((((cHead ++ cOne) ++ (txt "put @")) ++ x) ++ (txt " ")), sx (dec (9 + rb)), rfl, rfl, lenS (by omega), ?_⟩
      rw [sx_app]
      have ha274 : (((((cHead ++ cOne) ++ (txt "put @")) ++ x) ++ (txt " ")) ++ (dec (9 + rb)) : Cs).length ≤ 1800 := by rw [List.length_append]; omega
      have hb275 : (txt ";" : Cs).length ≤ 300 := by decide +kernel
      refine ⟨sx (((((cHead ++ cOne) ++ (txt "put @")) ++ x) ++ (txt " ")) ++ (dec (9 + rb))), sx (txt ";"), rfl, (by kernel_rfl), lenS (by omega), ?_⟩
      rw [sx_app]
      have ha276 : ((((((cHead ++ cOne) ++ (txt "put @")) ++ x) ++ (txt " ")) ++ (dec (9 + rb))) ++ (txt ";") : Cs).length ≤ 2100 := by rw [List.length_append]; omega
      have hb277 : (cLate : Cs).length ≤ 300 := Nat.le_trans lLa (by decide)
      refine ⟨_, rfl, sx ((((((cHead ++ cOne) ++ (txt "put @")) ++ x) ++ (txt " ")) ++ (dec (9 + rb))) ++ (txt ";")), sx (cLate), rfl, rfl, lenS (by omega), ?_⟩
      rw [sx_app]
      have ha278 : (((((((cHead ++ cOne) ++ (txt "put @")) ++ x) ++ (txt " ")) ++ (dec (9 + rb))) ++ (txt ";")) ++ cLate : Cs).length ≤ 2400 := by rw [List.length_append]; omega
      refine ⟨(by show 2 ≤ sizeLine; decide), fun t279 nt280 => ?_⟩
      have s282 := sameUpd (o := .tup [.str (sx (((((((cHead ++ cOne) ++ (txt "put @")) ++ x) ++ (txt " ")) ++ (dec (9 + rb))) ++ (txt ";")) ++ cLate)), .str "unknown"]) (Same.refl H268) nt280
      have ht283 := @upd_same H268 t279 (.tup [.str (sx (((((((cHead ++ cOne) ++ (txt "put @")) ++ x) ++ (txt " ")) ++ (dec (9 + rb))) ++ (txt ";")) ++ cLate)), .str "unknown"])
      generalize upd H268 t279 (.tup [.str (sx (((((((cHead ++ cOne) ++ (txt "put @")) ++ x) ++ (txt " ")) ++ (dec (9 + rb))) ++ (txt ";")) ++ cLate)), .str "unknown"]) = H281 at *
      have drF := Drawn.trans drrr267 (Drawn.of drrr267.at_ s282)
      have ntF := drrr267.free (let ⟨_, _, _, _, e⟩ := hd0; ⟨_, e⟩) nt280
      have eQ : (((((((cHead ++ cOne) ++ (txt "put @")) ++ x) ++ (txt " ")) ++ (dec (9 + rb))) ++ (txt ";")) ++ cLate : Cs) = (f08 x (dec (9 + rb))).1 ++ 64 :: (f08 x (dec (9 + rb))).2.1 := by
        have eL : txt "put @" = txt "put " ++ [64] := by decide +kernel
        rw [eL]
        simp only [f08, List.append_assoc, List.cons_append, List.nil_append]
      have eR : V.str "unknown" = sV (f08 x (dec (9 + rb))).2.2 := by kernel_rfl
      have hq : MkAt H281 t279 (f08 x (dec (9 + rb))) := by
        unfold MkAt
        rw [← eQ, ← eR]
        exact ht283
      exact k _ _ _ drF ntF hq (o08 hx hrb)
    have hk8 : ¬ kd = 8 := fun z => hk (decide_eq_true (by rw [z]; rfl))
    refine ⟨_, rfl, _, rfl, _, rfl, _, rfl, sx cHead, sx cOne, rfl, rfl, lenS (by omega), ?_⟩
    rw [sx_app]
    exact ⟨_, rfl, d, kd, rfl, hd, by omega, fun t H' q dr nt hq hc => k t H' q (Drawn.trans dr0 dr) (dr0.free (let ⟨_, _, _, _, e⟩ := hd0; ⟨_, e⟩) nt) hq hc⟩
end
end Sw

end

section
set_option maxRecDepth 100000
set_option maxHeartbeats 4000000
/-! format_parsed -/
namespace Sw
open PySem PySem.Spec PyProof.Rows L2 SwA
theorem emp_app (w : Cs) : Str.empty ++ sx w = sx w := by
  have : Str.empty = sx [] := rfl
  rw [this, sx_app]
  rfl
theorem lenA {a b : Cs} (hl : a.length + b.length ≤ 10000) : (sx a ++ sx b).length ≤ sizeLine := by rw [sx_app, sx_len, List.length_append, sizeLine_eq]; omega
theorem lenE {b : Cs} (hl : b.length ≤ 10000) : (Str.empty ++ sx b).length ≤ sizeLine := by rw [emp_app, sx_len, sizeLine_eq]; omega
theorem len1 {b : Cs} (hl : b.length ≤ 10000) : (sx b).length ≤ sizeLine := by rw [sx_len, sizeLine_eq]; omega
structure FmtT (K : PySem.W.Frag) (mg : Str → Option Value) : Prop where
  lo : LoadT K mg
  sorted : mg "sorted" = none
  fmt : DeT K mg "format_parsed" s_format_parsed
section
variable {P : Program} {w : World} {K : PySem.W.Frag} {mg : Str → Option Value} {base : Heap}
def spFormat (K : PySem.W.Frag) : Sp := fun vs H Q _ => ∃ (a : Addr) (pl : Plan) (rs : List ((Nat × Nat) × Rule)), vs = [.ref a] ∧ PlanAt K H a pl ∧ WfP pl ∧ rs.Perm pl.rules ∧ SortedR rs ∧
  ∀ H' : Hp, Same H H' → Q (sV (textOf { pl with rules := rs })) H'
abbrev fpN : List Str := ["parsed", "signs", "moods", "lines", "tile", "is_right", "way", "sign", "mood", "left", "move", "later"]
theorem sc_fmt : FnScope fpN ["parsed"] (defScope s_format_parsed) := ⟨rfl, rfl, rfl, by decide +kernel, rfl, by decide +kernel, by decide +kernel⟩
theorem WfP.perm {pl : Plan} (h : WfP pl) {rs : List ((Nat × Nat) × Rule)} (p : rs.Perm pl.rules) : WfP { pl with rules := rs } :=
  { h with rn := ((p.map (·.1)).nodup_iff).mpr h.rn, ru := fun kv hk => h.ru kv (p.mem_iff.mp hk) }
theorem ok_fmt (T : FmtT K mg) : FnE P w K mg base CX0 1 ("format_parsed", none) ["parsed"] (spFormat K) := by
  obtain ⟨fd, F⟩ := T.fmt.d
  refine ⟨fd, F.ok sc_fmt (fun vs H Q E h => ?_) (fun cdv A outer s H vs Q E hr h => ?_), F.bindsN fun _ _ _ _ _ _ us hl => match us, hl with | [_], _ => rfl, F.kp⟩
  · obtain ⟨a, pl, rs, rfl, _⟩ := h
    rfl
  · obtain ⟨a, pl, rs, rfl, hP, wf, hper, so, k⟩ := h
    have hu := hu_of hr
    refine ⟨_, PSs.nox (pss_cons (ps_par (i := 1) (j := 2) (by rfl) sc_fmt.nd rfl rfl (by decide) rfl rfl (pa_cons (pe_fld (pv 0) rfl) (pa_cons (pe_fld (pv 0) rfl) pa_nil)) (by rfl))
      (pss_cons (ps_set (i := 3) sc_fmt.nd rfl (.inl rfl) (pe_lst (pa_cons (pe_joined (PJ.cons pe_str (PJ.cons (pe_fmt (pe_callB call_len_seq (by rfl) T.lo.p.l.len boot_len (pa_cons (pe_fld (pv 0) rfl) pa_nil))) (PJ.cons pe_str PJ.nil)))) (pa_cons (pe_joined (PJ.cons pe_str (PJ.cons (pe_fmt (pe_join pe_str (pv 1))) (PJ.cons pe_str PJ.nil)))) (pa_cons (pe_joined (PJ.cons pe_str (PJ.cons (pe_fmt (pe_join pe_str (pv 2))) (PJ.cons pe_str PJ.nil)))) pa_nil)))))
      (pss_cons (ps_for PassesOwn.never rfl (pi_tup (pe_fld (pv 0) rfl)) (pg_tup rfl (pgs_cons (pg_name (i := 4) sc_fmt.nd rfl (.inl rfl)) (pgs_cons (pg_name (i := 5) sc_fmt.nd rfl (.inl rfl)) pgs_nil)))
        (pss_cons (ps_set (i := 6) sc_fmt.nd rfl (.inl rfl) (pe_ifExp (pt_val (pv 5)) pe_str pe_str))
        (pss_one (ps_expr (pe_bm PySem.F.plainAttrs_list PySem.F.slot_list_append PySem.F.type_list_append mt_append (pv 3) (pa_cons (pe_joined (PJ.cons pe_str (PJ.cons (pe_fmt (pv 4)) (PJ.cons pe_str (PJ.cons (pe_fmt (pv 6)) (PJ.cons pe_str PJ.nil)))))) pa_nil))))))
      (pss_cons (ps_for PassesOwn.never rfl (pi_enumT (by rfl) T.lo.p.l.enumerate (pa_cons (pe_fld (pv 0) rfl) pa_nil)) (pg_tup rfl (pgs_cons (pg_name (i := 4) sc_fmt.nd rfl (.inl rfl)) (pgs_cons (pg_name (i := 7) sc_fmt.nd rfl (.inl rfl)) pgs_nil)))
        (pss_one (ps_if (pt_cmpR op_gt (pv 7) pe_int (nomark _))
          (pss_one (ps_expr (pe_bm PySem.F.plainAttrs_list PySem.F.slot_list_append PySem.F.type_list_append mt_append (pv 3) (pa_cons (pe_joined (PJ.cons pe_str (PJ.cons (pe_fmt (pe_ix ix_tup (pv 1) (pv 7) (fun _ _ => rfl))) (PJ.cons pe_str (PJ.cons (pe_fmt (pv 4)) (PJ.cons pe_str PJ.nil)))))) pa_nil)))) pss_nil)))
      (pss_cons (ps_for PassesOwn.never rfl (pi_list (pe_callB (cr_sortedDT rfl) (by rfl) T.sorted (by decide +kernel) (pa_cons (pe_fld (pv 0) rfl) pa_nil))) (pg_tup rfl (pgs_cons (pg_name (i := 8) sc_fmt.nd rfl (.inl rfl)) (pgs_cons (pg_name (i := 7) sc_fmt.nd rfl (.inl rfl)) pgs_nil)))
        (pss_cons (ps_asg (pe_dget hu (pe_fld (pv 0) rfl) (pe_tup (pa_cons (pv 8) (pa_cons (pv 7) pa_nil))) (fun _ _ => rfl))
          (pg_tup rfl (pgs_cons (pg_name (i := 9) sc_fmt.nd rfl (.inl rfl)) (pgs_cons (pg_name (i := 10) sc_fmt.nd rfl (.inl rfl)) (pgs_cons (pg_name (i := 11) sc_fmt.nd rfl (.inl rfl)) pgs_nil)))))
        (pss_one (ps_expr (pe_bm PySem.F.plainAttrs_list PySem.F.slot_list_append PySem.F.type_list_append mt_append (pv 3) (pa_cons (pe_joined (PJ.cons pe_str (PJ.cons (pe_fmt (pe_ix ix_tup (pv 2) (pv 8) (fun _ _ => rfl))) (PJ.cons pe_str (PJ.cons (pe_fmt (pe_ix ix_tup (pv 1) (pv 7) (fun _ _ => rfl))) (PJ.cons pe_str (PJ.cons (pe_fmt (pe_ix ix_tup (pv 1) (pv 9) (fun _ _ => rfl))) (PJ.cons pe_str (PJ.cons (pe_fmt (pv 10)) (PJ.cons pe_str (PJ.cons (pe_fmt (pe_ix ix_tup (pv 2) (pv 11) (fun _ _ => rfl))) (PJ.cons pe_str PJ.nil)))))))))))) pa_nil))))))
      (pss_one (ps_ret (pe_join pe_str (pv 3))))))))), ?_⟩
    obtain ⟨dx, sa, ma, fa, ra, rd, ras, e0, e1, e2, e3, e4, e5, kvs, e6, e7⟩ := hP
    have cl := T.lo.plan.c
    have na : ∀ f ∈ planF, NoAttr K (He.ga K "Plan") f := T.lo.plan.n
    refine ⟨_, rfl, a, _, dx, _, _, rfl, e0, cl, na _ (by simp), lpl_signs, _, rfl, a, _, dx, _, _, rfl, e0, cl, na _ (by simp), lpl_moods, _, _, rfl, ?_⟩
    have h16 := wf.n16
    have hdn := dec_len pl.floor.length
    have hsl : (pl.signs.map (·.length)).sum ≤ 4 * 8 := Nat.le_trans (sum_le (names_len wf.sN)) (Nat.mul_le_mul_right 8 wf.s4)
    have hml : (pl.moods.map (·.length)).sum ≤ 6 * 8 := Nat.le_trans (sum_le (names_len wf.mN)) (Nat.mul_le_mul_right 8 wf.m6)
    have hs4 := wf.s4
    have hm6 := wf.m6
    have lj1 := joinL_len [32] pl.signs
    have lj2 := joinL_len [32] pl.moods
    simp only [List.length_singleton, Nat.mul_one] at lj1 lj2
    refine ⟨sx (wCorridor ++ [32]), (by kernel_rfl), lenE (by decide), ?_⟩
    rw [emp_app]
    refine ⟨_, rfl, a, _, dx, _, _, rfl, e0, cl, na _ (by simp), lpl_floor, fa, _, rfl, .inr (SqT.of e3), .inr ⟨_, rfl, ?_⟩⟩
    rw [List.length_map]
    refine ⟨log_small (by omega), ?_⟩
    rw [str_dec (show pl.floor.length < 100 by omega)]
    refine ⟨sx (dec pl.floor.length), rfl, lenA (by simp [wCorridor]; omega), ?_⟩
    rw [sx_app]
    refine ⟨sx [59], (by kernel_rfl), lenA (by simp [wCorridor]; omega), ?_⟩
    rw [sx_app]
    refine ⟨sx (wSigns ++ [32]), (by kernel_rfl), lenE (by decide), ?_⟩
    rw [emp_app]
    refine ⟨⟨_, rfl⟩, _, rfl, sx [32], _, (pl.signs).map sx, (by kernel_rfl), rfl, sqJ (.inr e1.sq), lenJ (by simp only [List.length_singleton]; omega), ?_⟩
    rw [join_sx]
    refine .inl ⟨_, rfl, len1 (by omega), ?_⟩
    refine ⟨sx (TL.joinL [32] pl.signs), rfl, lenA (by simp [wSigns]; omega), ?_⟩
    rw [sx_app]
    refine ⟨sx [59], (by kernel_rfl), lenA (by simp [wSigns]; omega), ?_⟩
    rw [sx_app]
    refine ⟨sx (wMoods ++ [32]), (by kernel_rfl), lenE (by decide), ?_⟩
    rw [emp_app]
    refine ⟨⟨_, rfl⟩, _, rfl, sx [32], _, (pl.moods).map sx, (by kernel_rfl), rfl, sqJ (.inr e2.sq), lenJ (by simp only [List.length_singleton]; omega), ?_⟩
    rw [join_sx]
    refine .inl ⟨_, rfl, len1 (by omega), ?_⟩
    refine ⟨sx (TL.joinL [32] pl.moods), rfl, lenA (by simp [wMoods]; omega), ?_⟩
    rw [sx_app]
    refine ⟨sx [59], (by kernel_rfl), lenA (by simp [wMoods]; omega), ?_⟩
    rw [sx_app]
    refine ⟨(by show 3 ≤ sizeLine; decide), fun l nl => ?_⟩
    rw [head_lines wf.s1 wf.m1]
    have s1 : Same H (upd H l (.lst ((headW pl.floor.length pl.signs pl.moods).map lnV))) := sameUpd (Same.refl H) nl
    have hl1 := @upd_same H l (.lst ((headW pl.floor.length pl.signs pl.moods).map lnV))
    generalize upd H l (.lst ((headW pl.floor.length pl.signs pl.moods).map lnV)) = H1 at *
    -- robots
    refine ⟨_, rfl, a, _, dx, _, _, rfl, s1 _ _ e0, cl, na _ (by simp), lpl_robots, ra, rfl, ⟨_, SqT.of (s1 _ _ e4)⟩, ?_⟩
    refine for_tup (K := K) (a := ra) (xs := ras.map V.ref) (fun i σ H2 => ∃ o4 o5 o6 : Option V, σ = [some (.ref a), some (.ref sa), some (.ref ma), some (.ref l), o4, o5, o6, none, none, none, none, none] ∧ Same H H2 ∧
      H2 l = some (.lst ((headW pl.floor.length pl.signs pl.moods ++ (pl.robots.take i).map fun r => stmW pl.signs pl.moods (robS r)).map lnV))) ⟨none, none, none, rfl, s1, by rw [List.take_zero, List.map_nil, List.append_nil]; exact hl1⟩ (fun i σ H2 _ ⟨_, _, _, _, sm, _⟩ => SqT.of (sm _ _ e4)) ?_ ?_
    · rintro i x σ H2 hx ⟨o4, o5, o6, rfl, sm, hl2⟩
      rw [List.getElem?_map] at hx
      cases hra : ras[i]? with
      | none => rw [hra] at hx; cases hx
      | some rai =>
        rw [hra] at hx
        cases hx
        obtain ⟨⟨rt, rb⟩, hr', hrob⟩ := pairedL e5 hra
        have hrt : rt < pl.floor.length := wf.rt _ (List.mem_of_getElem? hr')
        have hir : i < pl.robots.length := (List.getElem?_eq_some_iff.mp hr').1
        have hr3 := wf.r3
        have dl := dec_len rt
        have et : (pl.robots.take (i + 1)).map (fun r => stmW pl.signs pl.moods (robS r)) = (pl.robots.take i).map (fun r => stmW pl.signs pl.moods (robS r)) ++ [stmW pl.signs pl.moods (robS (rt, rb))] := by
          rw [List.take_succ, hr', List.map_append]
          rfl
        have hll : ((headW pl.floor.length pl.signs pl.moods ++ (pl.robots.take i).map fun r => stmW pl.signs pl.moods (robS r)).map lnV).length < sizeLine := by
          rw [List.length_map, List.length_append, List.length_map, List.length_take, sizeLine_eq]
          simp [headW]
          omega
        cases rb
        · -- wLeft
          refine ⟨rai, _, rfl, SqT.of (sm _ _ hrob), rfl, _, _, rfl, _, _, rfl, rfl, ?_⟩
          refine ⟨_, rfl, _, rfl, ?_⟩
          refine ⟨_, rfl, .inl ⟨rfl, _, SqL.of hl2⟩, ?_⟩
          refine ⟨sx (wRobot ++ [32]), (by kernel_rfl), lenE (by decide), ?_⟩
          rw [emp_app]
          refine ⟨_, rfl, .inr ⟨_, rfl, log_small (by omega), ?_⟩⟩
          rw [str_dec (show rt < 100 by omega)]
          refine ⟨sx (dec rt), rfl, lenA (by simp [wRobot]; omega), ?_⟩
          rw [sx_app]
          refine ⟨sx [32], (by kernel_rfl), lenA (by simp [wRobot]; omega), ?_⟩
          rw [sx_app]
          refine ⟨_, rfl, .inl ⟨_, rfl, (by decide), ?_⟩⟩
          refine ⟨sx wLeft, (by kernel_rfl), lenA (by simp [wRobot, wLeft]; omega), ?_⟩
          rw [sx_app]
          refine ⟨sx [59], (by kernel_rfl), lenA (by simp [wRobot, wLeft]; omega), ?_⟩
          rw [sx_app]
          refine ⟨l, _, _, rfl, rfl, hl2, hll, _, _, _, rfl, sameUpd sm nl, ?_⟩
          have : lnV (stmW pl.signs pl.moods (robS (rt, false))) = V.str (sx (wRobot ++ [32] ++ dec rt ++ [32] ++ wLeft ++ [59])) := by
            unfold lnV lineOf robS
            rw [words_join]
            simp [stmW, TL.joinL, wayOf]
          rw [upd_same, et, snoc_ln this]
        · -- wRight
          refine ⟨rai, _, rfl, SqT.of (sm _ _ hrob), rfl, _, _, rfl, _, _, rfl, rfl, ?_⟩
          refine ⟨_, rfl, _, rfl, ?_⟩
          refine ⟨_, rfl, .inl ⟨rfl, _, SqL.of hl2⟩, ?_⟩
          refine ⟨sx (wRobot ++ [32]), (by kernel_rfl), lenE (by decide), ?_⟩
          rw [emp_app]
          refine ⟨_, rfl, .inr ⟨_, rfl, log_small (by omega), ?_⟩⟩
          rw [str_dec (show rt < 100 by omega)]
          refine ⟨sx (dec rt), rfl, lenA (by simp [wRobot]; omega), ?_⟩
          rw [sx_app]
          refine ⟨sx [32], (by kernel_rfl), lenA (by simp [wRobot]; omega), ?_⟩
          rw [sx_app]
          refine ⟨_, rfl, .inl ⟨_, rfl, (by decide), ?_⟩⟩
          refine ⟨sx wRight, (by kernel_rfl), lenA (by simp [wRobot, wRight]; omega), ?_⟩
          rw [sx_app]
          refine ⟨sx [59], (by kernel_rfl), lenA (by simp [wRobot, wRight]; omega), ?_⟩
          rw [sx_app]
          refine ⟨l, _, _, rfl, rfl, hl2, hll, _, _, _, rfl, sameUpd sm nl, ?_⟩
          have : lnV (stmW pl.signs pl.moods (robS (rt, true))) = V.str (sx (wRobot ++ [32] ++ dec rt ++ [32] ++ wRight ++ [59])) := by
            unfold lnV lineOf robS
            rw [words_join]
            simp [stmW, TL.joinL, wayOf]
          rw [upd_same, et, snoc_ln this]
    rintro σ H2 ⟨o4, o5, o6, rfl, s2, hl2⟩
    rw [List.length_map, e5.length, List.take_length] at hl2
    generalize hA : headW pl.floor.length pl.signs pl.moods ++ pl.robots.map (fun r => stmW pl.signs pl.moods (robS r)) = LA at hl2
    have hLA : LA.length ≤ 6 := by
      rw [← hA, List.length_append, List.length_map]
      have := wf.r3
      simp [headW]
      omega
    -- puts
    refine ⟨_, rfl, a, _, dx, _, _, rfl, s2 _ _ e0, cl, na _ (by simp), lpl_floor, fa, _, rfl, SqT.of (s2 _ _ e3), ?_⟩
    refine for_it (walk_enumT (K := K) (a := fa) (xs := pl.floor.map fun n : Nat => V.int n)) (fun i σ H3 => ∃ o4 o7 : Option V, σ = [some (.ref a), some (.ref sa), some (.ref ma), some (.ref l), o4, o5, o6, o7, none, none, none, none] ∧ Same H H3 ∧
      H3 l = some (.lst ((LA ++ ((List.range i).filterMap (fun t => if 0 < pl.floor.getD t 0 then some (t, pl.floor.getD t 0) else none)).map fun q => stmW pl.signs pl.moods (putS q)).map lnV))) ⟨o4, none, rfl, s2, by rw [List.range_zero, List.filterMap_nil, List.map_nil, List.append_nil]; exact hl2⟩ (fun i σ H3 _ ⟨_, _, _, sm, _⟩ => SqT.of (sm _ _ e3)) ?_ ?_
    · rintro i x σ H3 H3' hi ⟨o4, o7, rfl, sm, hl3⟩ ⟨TT, vx, vy, rfl, nT, rfl, hvx, hvy⟩
      cases hvx
      rw [List.length_map] at hi
      have hg : (pl.floor.map fun n : Nat => V.int n)[i]? = some (.int (pl.floor.getD i 0 : Nat)) := by
        rw [List.getElem?_map, List.getD_eq_getElem?_getD, List.getElem?_eq_getElem hi]
        rfl
      replace hvy := hg.symm.trans hvy
      cases hvy
      have hgs : pl.floor.getD i 0 < pl.signs.length := by
        rw [List.getD_eq_getElem?_getD, List.getElem?_eq_getElem hi]
        exact wf.fl _ (List.getElem_mem hi)
      have sT := sameUpd (o := .tup [.int (i : Nat), .int (pl.floor.getD i 0 : Nat)]) (Same.refl H3) nT
      have hT := @upd_same H3 TT (.tup [.int (i : Nat), .int (pl.floor.getD i 0 : Nat)])
      replace sm := sm.trans sT
      replace hl3 := sT _ _ hl3
      generalize upd H3 TT (.tup [.int (i : Nat), .int (pl.floor.getD i 0 : Nat)]) = H4 at *
      refine ⟨TT, _, rfl, SqT.of hT, rfl, _, _, rfl, _, _, rfl, rfl, ?_⟩
      refine ⟨_, rfl, _, _, rfl, rfl, _, rfl, ?_⟩
      refine ite2 (fun h => ?_) (fun h => ?_)
      · have h0 : 0 < pl.floor.getD i 0 := by
          have := of_decide_eq_true h
          omega
        have hs8 : (pl.signs.getD (pl.floor.getD i 0) []).length ≤ 8 := names_len wf.sN _ (getD_in hgs)
        have hsa := e1.mono (fun o z => sm _ _ z)
        have dl := dec_len i
        have hsg := nm_get hgs
        generalize hgg : pl.floor.getD i 0 = g at *
        refine ⟨_, rfl, .inl ⟨rfl, _, SqL.of hl3⟩, ?_⟩
        refine ⟨sx (wPut ++ [32]), (by kernel_rfl), lenE (by decide), ?_⟩
        rw [emp_app]
        refine ⟨_, rfl, _, rfl, sa, _, _, _, rfl, rfl, hsa.sq, atI_nat hsg, .inl ⟨_, rfl, len1 (by omega), ?_⟩⟩
        refine ⟨sx (pl.signs.getD g []), rfl, lenA (by simp [wPut] at hs8 ⊢; omega), ?_⟩
        rw [sx_app]
        refine ⟨sx [32], (by kernel_rfl), lenA (by simp [wPut] at hs8 ⊢; omega), ?_⟩
        rw [sx_app]
        refine ⟨_, rfl, .inr ⟨_, rfl, log_small (by omega), ?_⟩⟩
        rw [str_dec (show i < 100 by omega)]
        refine ⟨sx (dec i), rfl, lenA (by simp [wPut] at hs8 ⊢; omega), ?_⟩
        rw [sx_app]
        refine ⟨sx [59], (by kernel_rfl), lenA (by simp [wPut] at hs8 ⊢; omega), ?_⟩
        rw [sx_app]
        have hfl := List.length_filterMap_le (fun t => if 0 < pl.floor.getD t 0 then some (t, pl.floor.getD t 0) else none) (List.range i)
        rw [List.length_range] at hfl
        refine ⟨l, _, _, rfl, rfl, hl3, ?_, _, _, rfl, sameUpd sm nl, ?_⟩
        · rw [List.length_map, List.length_append, List.length_map, sizeLine_eq]
          omega
        · have : lnV (stmW pl.signs pl.moods (putS (i, g))) = V.str (sx (wPut ++ [32] ++ pl.signs.getD g [] ++ [32] ++ dec i ++ [59])) := by
            unfold lnV lineOf putS
            rw [words_join]
            simp [stmW, TL.joinL]
          rw [upd_same, put_range, hgg, if_pos h0, snoc_lf (f := fun q => stmW pl.signs pl.moods (putS q)) this]
      · have h0 : ¬ 0 < pl.floor.getD i 0 := by
          have := of_decide_eq_false (Bool.eq_false_iff.mpr h)
          omega
        refine ⟨_, _, rfl, sm, ?_⟩
        rw [put_range, if_neg h0, List.append_nil]
        exact hl3
    rintro σ H3 ⟨o4', o7', rfl, s3, hl3⟩
    rw [List.length_map] at hl3
    have hLB : (LA ++ (putsL pl.floor).map fun q => stmW pl.signs pl.moods (putS q)).length ≤ 30 := by
      have hfl := List.length_filterMap_le (fun t => if 0 < pl.floor.getD t 0 then some (t, pl.floor.getD t 0) else none) (List.range pl.floor.length)
      rw [List.length_range] at hfl
      rw [List.length_append, List.length_map]
      unfold putsL
      omega
    replace hl3 : H3 l = some (.lst ((LA ++ (putsL pl.floor).map fun q => stmW pl.signs pl.moods (putS q)).map lnV)) := hl3
    generalize hB : LA ++ (putsL pl.floor).map (fun q => stmW pl.signs pl.moods (putS q)) = LB at hl3 hLB
    -- rules
    have wf2 := wf.perm hper
    have hru : rs.length ≤ 24 := rules_few wf2 so
    refine ⟨_, rfl, a, _, dx, _, _, rfl, s3 _ _ e0, cl, na _ (by simp), lpl_rules, rd, kvs, pl.rules.map (·.1), rfl, Rd.of (s3 _ _ e6), rules_keys e7, fun ys bs p hperm hso hpair np => ?_⟩
    obtain rfl := perm_sorted (hperm.trans (hper.map (·.1)).symm) hso so.le
    have s4 := sameUpd (o := .lst (bs.map V.ref)) (Same.refl H3) np
    have hp4 := @upd_same H3 p (.lst (bs.map V.ref))
    have hpl : p ≠ l := fun z => by rw [z, hl3] at np; cases np
    replace hl3 := s4 _ _ hl3
    have np0 : H p = none := s3.free np
    replace s3 := s3.trans s4
    have hpair : Paired (PairAt (upd H3 p (.lst (bs.map V.ref)))) bs (rs.map (·.1)) := Paired.mapP hpair fun _ _ q => s4 _ _ q
    generalize upd H3 p (.lst (bs.map V.ref)) = H4 at *
    refine ⟨p, rfl, ⟨_, SqL.of hp4⟩, ?_⟩
    refine for_list (K := K) (a := p) (xs := bs.map V.ref) (fun i σ H5 => ∃ o7 o8 o9 o10 o11 : Option V, σ = [some (.ref a), some (.ref sa), some (.ref ma), some (.ref l), o4', o5, o6, o7, o8, o9, o10, o11] ∧ Same (cutH H4 [l]) H5 ∧
      H5 l = some (.lst ((LB ++ (rs.take i).map fun r => stmW pl.signs pl.moods (rulS r)).map lnV))) ⟨o7', none, none, none, none, rfl, cutH_same, by rw [List.take_zero, List.map_nil, List.append_nil]; exact hl3⟩
      (fun i σ H5 _ ⟨_, _, _, _, _, _, sm, _⟩ => SqL.of (sm _ _ (by rw [cutH_out (by simpa using hpl)]; exact hp4))) ?_ ?_
    · rintro i x σ H5 hx ⟨o7, o8, o9, o10, o11, rfl, sm, hl5⟩
      have up : ∀ b o, b ≠ l → H4 b = some o → H5 b = some o := fun b o hb e => sm _ _ (by rw [cutH_out (by simpa using hb)]; exact e)
      rw [List.getElem?_map] at hx
      cases hbi : bs[i]? with
      | none => rw [hbi] at hx; cases hx
      | some bi =>
        rw [hbi] at hx
        cases hx
        obtain ⟨ky, hky, hpr⟩ := pairedL hpair hbi
        rw [List.getElem?_map] at hky
        cases hri : rs[i]? with
        | none => rw [hri] at hky; cases hky
        | some kv =>
          rw [hri] at hky
          cases hky
          have hmem := hper.mem_iff.mp (List.mem_of_getElem? hri)
          have rk := wf.ru kv hmem
          have hir : i < rs.length := (List.getElem?_eq_some_iff.mp hri).1
          have nel : ∀ {b : Addr} {o : HO}, H b = some o → b ≠ l := fun e z => by rw [z, nl] at e; cases e
          have bil : bi ≠ l := fun z => by
            have q : H4 bi = _ := hpr
            rw [z, hl3] at q
            cases q
          refine ⟨bi, _, rfl, SqT.of (up _ _ bil hpr), rfl, _, _, rfl, _, _, rfl, rfl, ?_⟩
          refine ⟨_, rfl, a, _, dx, _, _, rfl, up _ _ (nel e0) (s3 _ _ e0), cl, na _ (by simp), lpl_rules, _, rfl, _, rfl, (by show 2 ≤ sizeLine; decide), fun t nt => ?_⟩
          have s6 := sameUpd (o := .tup [.int kv.1.1, .int kv.1.2]) (Same.refl H5) nt
          have ht := @upd_same H5 t (.tup [.int kv.1.1, .int kv.1.2])
          have sm6 := sm.trans s6
          replace hl5 := s6 _ _ hl5
          replace up : ∀ b o, b ≠ l → H4 b = some o → (upd H5 t (.tup [.int kv.1.1, .int kv.1.2])) b = some o := fun b o hb e => s6 _ _ (up b o hb e)
          generalize upd H5 t (.tup [.int kv.1.1, .int kv.1.2]) = H6 at *
          have e7' : Paired (RuleAt H6) pl.rules kvs := Paired.mapP e7 fun _ _ q => q.mono fun b xs z => up _ _ (nel z) (s3 _ _ z)
          obtain ⟨tv, hv1, hv2⟩ := (rules_get (k := kv.1) e7').2 kv.2 (getA_mem wf.rn hmem)
          refine ⟨rd, .ref tv, rfl, by rw [← hv1]; exact DGet.t (k := keyT kv.1) (up _ _ (nel e6) (s3 _ _ e6)) ht, ?_⟩
          refine ⟨tv, _, rfl, SqT.of hv2, rfl, _, _, rfl, _, _, rfl, _, _, rfl, rfl, ?_⟩
          have hma : TupN H6 ma (pl.moods.map sV) := e2.mono fun o z => up _ _ (nel z) (s3 _ _ z)
          have hsa : TupN H6 sa (pl.signs.map sV) := e1.mono fun o z => up _ _ (nel z) (s3 _ _ z)
          have hmv : ∀ m ∈ moves, m.length ≤ 8 := by decide +kernel
          have l1 := names_len wf.mN _ (getD_in rk.k1)
          have l2 := names_len wf.sN _ (getD_in rk.k2)
          have l3 := names_len wf.sN _ (getD_in rk.l)
          have l4 := hmv _ rk.mv
          have l5 := names_len wf.mN _ (getD_in rk.la)
          refine ⟨_, rfl, .inl ⟨rfl, _, SqL.of hl5⟩, ?_⟩
          have q1 := nm_get rk.k1
          have q2 := nm_get rk.k2
          have q3 := nm_get rk.l
          have q5 := nm_get rk.la
          have eW : lnV (stmW pl.signs pl.moods (rulS kv)) = V.str (sx (wWhen ++ [32] ++ pl.moods.getD kv.1.1 [] ++ [32] ++ pl.signs.getD kv.1.2 [] ++ (32 :: wLeave ++ [32]) ++ pl.signs.getD kv.2.left [] ++ [32] ++ kv.2.move ++ [32] ++ pl.moods.getD kv.2.later [] ++ [59])) := by
            unfold lnV lineOf rulS
            rw [words_join]
            simp [stmW, TL.joinL]
          generalize pl.moods.getD kv.1.1 [] = w1 at *
          generalize pl.signs.getD kv.1.2 [] = w2 at *
          generalize pl.signs.getD kv.2.left [] = w3 at *
          generalize pl.moods.getD kv.2.later [] = w5 at *
          refine ⟨sx (wWhen ++ [32]), (by kernel_rfl), lenE (by decide), ?_⟩
          rw [emp_app]
          refine ⟨_, rfl, _, rfl, ma, _, _, _, rfl, rfl, hma.sq, atI_nat q1, .inl ⟨_, rfl, len1 (by omega), ?_⟩⟩
          refine ⟨sx w1, rfl, lenA (by simp [wWhen]; omega), ?_⟩
          rw [sx_app]
          refine ⟨sx [32], (by kernel_rfl), lenA (by simp [wWhen]; omega), ?_⟩
          rw [sx_app]
          refine ⟨_, rfl, _, rfl, sa, _, _, _, rfl, rfl, hsa.sq, atI_nat q2, .inl ⟨_, rfl, len1 (by omega), ?_⟩⟩
          refine ⟨sx w2, rfl, lenA (by simp [wWhen]; omega), ?_⟩
          rw [sx_app]
          refine ⟨sx (32 :: wLeave ++ [32]), (by kernel_rfl), lenA (by simp [wWhen, wLeave]; omega), ?_⟩
          rw [sx_app]
          refine ⟨_, rfl, _, rfl, sa, _, _, _, rfl, rfl, hsa.sq, atI_nat q3, .inl ⟨_, rfl, len1 (by omega), ?_⟩⟩
          refine ⟨sx w3, rfl, lenA (by simp [wWhen, wLeave]; omega), ?_⟩
          rw [sx_app]
          refine ⟨sx [32], (by kernel_rfl), lenA (by simp [wWhen, wLeave]; omega), ?_⟩
          rw [sx_app]
          refine ⟨_, rfl, .inl ⟨_, rfl, len1 (by omega), ?_⟩⟩
          refine ⟨sx kv.2.move, rfl, lenA (by simp [wWhen, wLeave]; omega), ?_⟩
          rw [sx_app]
          refine ⟨sx [32], (by kernel_rfl), lenA (by simp [wWhen, wLeave]; omega), ?_⟩
          rw [sx_app]
          refine ⟨_, rfl, _, rfl, ma, _, _, _, rfl, rfl, hma.sq, atI_nat q5, .inl ⟨_, rfl, len1 (by omega), ?_⟩⟩
          refine ⟨sx w5, rfl, lenA (by simp [wWhen, wLeave]; omega), ?_⟩
          rw [sx_app]
          refine ⟨sx [59], (by kernel_rfl), lenA (by simp [wWhen, wLeave]; omega), ?_⟩
          rw [sx_app]
          refine ⟨l, _, _, rfl, rfl, hl5, ?_, _, _, _, _, _, rfl, cutS sm6 (by simp), ?_⟩
          · rw [List.length_map, List.length_append, List.length_map, List.length_take, sizeLine_eq]
            omega
          · have et : (rs.take (i + 1)) = rs.take i ++ [kv] := by
              rw [List.take_succ, hri]
              rfl
            rw [upd_same, et, snoc_lf (f := fun r => stmW pl.signs pl.moods (rulS r)) eW]
    rintro σ H5 ⟨o7, o8, o9, o10, o11, rfl, sm, hl5⟩
    have hbl : bs.length = rs.length := by rw [hpair.length, List.length_map]
    rw [List.length_map, hbl, List.take_length] at hl5
    have eL : LB ++ rs.map (fun r => stmW pl.signs pl.moods (rulS r)) = linesW { pl with rules := rs } := by
      rw [← hB, ← hA]
      unfold linesW stmsOf
      simp [List.append_assoc, Function.comp_def]
    rw [eL] at hl5
    obtain ⟨t1, t2⟩ := text_len wf2 so
    have e : (linesW { pl with rules := rs }).map lnV = (((linesW { pl with rules := rs }).map lineOf).map sx).map V.str := by rw [List.map_map, List.map_map]; rfl
    rw [e] at hl5
    refine ⟨⟨_, rfl⟩, _, rfl, sx [10], l, ((linesW { pl with rules := rs }).map lineOf).map sx, (by kernel_rfl), rfl, .inl (SqL.of hl5), lenJ (by rw [List.length_map]; simp only [List.length_singleton]; omega), ?_⟩
    rw [join_sx]
    refine k H5 fun b o e => sm _ _ ?_
    rw [cutH_out]
    · exact s3 _ _ e
    · intro z
      rw [List.mem_singleton.mp z, nl] at e
      cases e
end
end Sw

end

section
set_option maxRecDepth 100000
set_option maxHeartbeats 4000000
/-! load, with the faults of checking -/
namespace Sw
open PySem PySem.Spec PyProof.Rows L2 SwA
structure LodF (K : PySem.W.Frag) (mg : Str → Option Value) : Prop where
  lo : LoadT K mg
  min : mg "min" = none
  chk : ExcC K mg "CheckFault" ["reason", "line", "column"]
  d_chk : FD K ("CheckFault", some "__init__") "__init__" "CheckFault.__init__" s_CheckFault_init
def chkFs (f : Flt) : List (Str × V) := [("column", .int f.2.1), ("line", .int f.1), ("reason", sV f.2.2)]
/-- a CheckFault leaves -/
def ChkE (K : PySem.W.Frag) (H : Hp) (E : XK) (f : Flt) : Prop := ∀ (d : Addr) (H' : Hp), Same H H' → H' d = some (.xd (chkFs f)) → E (.ref (He.ga K "CheckFault")) (some d) H'
theorem ChkE.mono {K : PySem.W.Frag} {H H' : Hp} {E : XK} {f : Flt} (h : ChkE K H E f) (s : Same H H') : ChkE K H' E f := fun d H2 s2 e => h d H2 (s.trans s2) e
theorem hu4 {A : Around} {k : Nat} (hr : Room k A) : A.units + 4 < cLine := by
  have := hr.units
  omega
section
variable {P : Program} {w : World} {K : PySem.W.Frag} {mg : Str → Option Value} {base : Heap}
theorem sc_chk : FnScope ["self", "reason", "line", "column"] ["self", "reason", "line", "column"] (defScope s_CheckFault_init) := ⟨rfl, rfl, rfl, by decide +kernel, rfl, by decide +kernel, by decide +kernel⟩
theorem ok_chk (T : LodF K mg) : FnE P w K mg base CX0 1 ("CheckFault", some "__init__") ["self", "reason", "line", "column"] (spFault (He.ga K "CheckFault") ["reason", "line", "column"]) := by
  obtain ⟨fd, F⟩ := T.d_chk
  have B := T.lo.p.l.e.base
  refine ⟨fd, F.ok sc_chk (fun vs H Q E h => ?_) (fun cdv A outer s H vs Q E hr h => ?_), F.bindsN fun _ _ _ _ _ _ us hl => match us, hl with | [_, _, _, _], _ => rfl, F.kp⟩
  · obtain ⟨a, args, rfl, e, _⟩ := h
    simp [e]
  · obtain ⟨a, args, rfl, e, ha, k⟩ := h
    obtain ⟨v1, v2, v3, rfl⟩ : ∃ v1 v2 v3, args = [v1, v2, v3] := by
      match args, e with
      | [v1, v2, v3], _ => exact ⟨v1, v2, v3, rfl⟩
    refine ⟨_, PSs.nox (pss_cons (ps_expr (pe_ownveinit rfl B.g B.cr B.vv (pa_cons (pv 0) (pa_cons (pv 1) (pa_cons (pv 2) (pa_cons (pv 3) pa_nil))))))
      (pss_cons (ps_ost (pv 0) (pv 1)) (pss_cons (ps_ost (pv 0) (pv 2)) (pss_one (ps_ost (pv 0) (pv 3)))))), ?_⟩
    refine ⟨_, rfl, _, rfl, _, rfl, _, rfl, a, _, _, rfl, by simp, T.chk.o, ha, ?_⟩
    refine ⟨_, rfl, _, rfl, a, _, rfl, T.chk.o, T.chk.n _ (by simp), Or.inl ⟨ha, fun dx ndx da => ?_⟩⟩
    refine ⟨_, rfl, _, rfl, a, _, rfl, T.chk.o, T.chk.n _ (by simp), Or.inr ⟨dx, _, upd_same, by rw [upd_ne da, upd_same], by simp, ?_⟩⟩
    refine ⟨_, rfl, _, rfl, a, _, rfl, T.chk.o, T.chk.n _ (by simp), Or.inr ⟨dx, _, by rw [upd_ne (Ne.symm da), upd_same], upd_same, by simp, ?_⟩⟩
    exact k dx _ ndx da (by rw [upd_ne (Ne.symm da), upd_ne (Ne.symm da), upd_same]) upd_same fun b h1 h2 => by rw [upd_ne h2, upd_ne h2, upd_ne h1, upd_ne h2]
def spParsePlanF (K : PySem.W.Frag) : Sp := fun vs H Q E => ∃ (H0 : Hp) (p : Addr) (L : PLoc) (tas : List Addr) (T : List Tk), vs = [.ref p] ∧ PA K H0 H p L tas T st0 ∧ GoodT T ∧
  (∀ n s, parsePlan T = .ok (n, s) → s.faults = [] → ∀ (a : Addr) (H' : Hp), H0 a = none → Same H0 H' → PlanAt K H' a (planOf n s) → Q (.ref a) H') ∧
  (∀ n s f fs, parsePlan T = .ok (n, s) → s.faults = f :: fs → ChkE K H0 E (minF f fs)) ∧ (∀ l c, parsePlan T = .error (l, c) → Syn K H0 E l c)
theorem ok_parse_planF (T : LodF K mg) : FnE P w K mg base (L2.CX P w) 7 ("Parser", some "parse_plan") ["self"] (spParsePlanF K) := by
  obtain ⟨fd, F⟩ := T.lo.p.parse_plan.d
  obtain ⟨fdP, GP, bP, kP⟩ := ok_peek (P := P) (w := w) (base := base) T.lo.p
  obtain ⟨fdF, GF, bF, kF⟩ := ok_found (P := P) (w := w) (base := base) T.lo.p
  obtain ⟨fdX, GX, bX, kX⟩ := ok_fail (P := P) (w := w) (base := base) T.lo.p
  obtain ⟨fdA, GA, bA, kA⟩ := ok_take (P := P) (w := w) (base := base) T.lo.p
  obtain ⟨fdW, GW, bW, kW⟩ := ok_take_word (P := P) (w := w) (base := base) T.lo.p
  obtain ⟨fdN, GN, bN, kN⟩ := ok_parse_names (P := P) (w := w) (base := base) T.lo.p
  obtain ⟨fdR, GR, bR, kR⟩ := ok_parse_robot (P := P) (w := w) (base := base) T.lo.p
  obtain ⟨fdU, GU, bU, kU⟩ := ok_parse_put (P := P) (w := w) (base := base) T.lo.p
  obtain ⟨fdL, GL, bL, kL⟩ := ok_parse_rule (P := P) (w := w) (base := base) T.lo.p
  obtain ⟨fdI, GI, bI, kI⟩ := ok_plan (P := P) (w := w) (base := base) T.lo
  obtain ⟨fdC, GC, bC, kC⟩ := ok_chk (P := P) (w := w) (base := base) T
  obtain ⟨t1, mNUM⟩ := T.lo.p.l.NUMBER
  obtain ⟨t2, mEND⟩ := T.lo.p.l.END
  obtain ⟨t3, mMT⟩ := T.lo.p.MAX_TILES
  obtain ⟨t4, mMS⟩ := T.lo.p.MAX_SIGNS
  obtain ⟨t5, mMM⟩ := T.lo.p.MAX_MOODS
  refine ⟨fd, F.ok sc_parse_plan (fun vs H Q E h => ?_) (fun cdv A outer s H vs Q E hr h => ?_), F.bindsN fun _ _ _ _ _ _ us hl => match us, hl with | [_], _ => rfl, F.kp⟩
  · obtain ⟨H0, p, L, tas, Ts, rfl, _⟩ := h
    rfl
  · obtain ⟨H0, p, L, tas, Ts, rfl, hP, hG, hok, hck, her⟩ := h
    have hr1 : Room 1 _ := hr.mono (by decide)
    have hr2 : Room 2 _ := hr.mono (by decide)
    have hr3 : Room 3 _ := hr.mono (by decide)
    have hr4 : Room 4 _ := hr.mono (by decide)
    have hr5 : Room 5 _ := hr.mono (by decide)
    have hu := hu_of hr
    refine ⟨_, (pss_cons (ps_expr (pe_meth (pv 0) T.lo.p.par.c T.lo.p.take_word.m GW hr4 bW .nil (passes_call (takes_of rfl rfl rfl rfl) (fun _ _ _ _ h => h)) (pa_cons pe_str pa_nil)))
      (pss_cons (ps_set (i := 1) sc_parse_plan.nd rfl (.inl rfl) (pe_meth (pv 0) T.lo.p.par.c T.lo.p.take.m GA hr4 bA .nil (passes_call (takes_of rfl rfl rfl rfl) (fun _ _ _ _ h => h)) (pa_cons (pe_glob (v := .str "number") rfl mNUM ⟨_, rfl⟩) pa_nil)))
      (pss_cons (ps_set (i := 2) sc_parse_plan.nd rfl (.inl rfl) (pe_callTy call_int_str (by rfl) T.lo.p.int (by decide +kernel) (pa_cons (pe_fld (pv 1) rfl) pa_nil)))
      (pss_cons (ps_expr (pe_meth (pv 0) T.lo.p.par.c T.lo.p.take_word.m GW hr4 bW .nil (passes_call (takes_of rfl rfl rfl rfl) (fun _ _ _ _ h => h)) (pa_cons pe_str pa_nil)))
      (C8.pss_cut (ps_if (pt_not (pt_chain op_le op_le pe_int (pv 2) (pe_glob (v := .int 16) rfl mMT ⟨_, rfl⟩)))
        (pss_one (ps_expr (pe_meth (pv 0) T.lo.p.par.c T.lo.p.found.m GF hr1 bF .nil pass0 (pa_cons pe_str (pa_cons (pv 1) pa_nil))))) pss_nil)
      (pss_cons (ps_expr (pe_meth (pv 0) T.lo.p.par.c T.lo.p.parse_names.m GN hr5 bN .nil (passes_call (takes_of rfl rfl rfl rfl) (fun _ _ _ _ h => h)) (pa_cons pe_str (pa_cons (pe_fld (pv 0) rfl) (pa_cons (pe_glob (v := .int 4) rfl mMS ⟨_, rfl⟩) pa_nil)))))
      (pss_cons (ps_expr (pe_meth (pv 0) T.lo.p.par.c T.lo.p.parse_names.m GN hr5 bN .nil (passes_call (takes_of rfl rfl rfl rfl) (fun _ _ _ _ h => h)) (pa_cons pe_str (pa_cons (pe_fld (pv 0) rfl) (pa_cons (pe_glob (v := .int 6) rfl mMM ⟨_, rfl⟩) pa_nil)))))
      (pss_cons (ps_expr (pe_meth (pv 0) T.lo.p.par.c T.lo.p.parse_robot.m GR hr bR .nil (passes_call (takes_of rfl rfl rfl rfl) (fun _ _ _ _ h => h)) (pa_cons (pv 2) pa_nil)))
      (pss_cons (ps_while (passes_of rfl) (pt_cmpR op_ne (pe_fld (pe_meth0 (pv 0) T.lo.p.par.c T.lo.p.peek.m GP hr1 bP .nil pass0) rfl) (pe_glob (v := .str "end") rfl mEND ⟨_, rfl⟩) (nomark _))
        (pss_one (ps_match (pe_fld (pe_meth0 (pv 0) T.lo.p.par.c T.lo.p.peek.m GP hr1 bP .nil pass0) rfl)
          (pms_str (pss_one (ps_expr (pe_meth (pv 0) T.lo.p.par.c T.lo.p.parse_robot.m GR hr bR .nil (passes_call (takes_of rfl rfl rfl rfl) (fun _ _ _ _ h => h)) (pa_cons (pv 2) pa_nil))))
          (pms_str (pss_one (ps_expr (pe_meth (pv 0) T.lo.p.par.c T.lo.p.parse_put.m GU hr bU .nil (passes_call (takes_of rfl rfl rfl rfl) (fun _ _ _ _ h => h)) (pa_cons (pv 2) pa_nil))))
          (pms_str (pss_one (ps_expr (pe_meth0 (pv 0) T.lo.p.par.c T.lo.p.parse_rule.m GL hr bL .nil (passes_call (takes_of rfl rfl rfl rfl) (fun _ _ _ _ h => h)))))
          (pms_any (pss_one (ps_expr (pe_meth0 (pv 0) T.lo.p.par.c T.lo.p.fail.m GX hr3 bX .nil (passes_call (takes_of rfl rfl rfl rfl) (fun _ _ _ _ h => h))))))))))))
      (pss_cons (ps_if (pt_cmpR (op_neNil (hu0 hr)) (pe_fld (pv 0) rfl) (pe_lst pa_nil) (nomark _))
        (pss_cons (ps_asg (pe_callB (cr_minLD rfl (hu4 hr)) (by rfl) T.min (by decide +kernel) (pa_cons (pe_fld (pv 0) rfl) pa_nil)) (pg_tup rfl (pgs_cons (pg_name (i := 3) sc_parse_plan.nd rfl (.inl rfl)) (pgs_cons (pg_name (i := 4) sc_parse_plan.nd rfl (.inl rfl)) (pgs_cons (pg_name (i := 5) sc_parse_plan.nd rfl (.inl rfl)) (pgs_cons (pg_name (i := 6) sc_parse_plan.nd rfl (.inl rfl)) pgs_nil))))))
        (pss_one (ps_raise rfl (takes_of rfl rfl rfl rfl) (pmk_oex T.chk.o T.chk.i T.chk.t GC hr2 bC .nil pass0 rfl T.chk.g (pa_cons (pv 6) (pa_cons (pv 3) (pa_cons (pv 4) pa_nil))))))) pss_nil)
      (pss_cons (ps_set (i := 7) sc_parse_plan.nd rfl (.inl rfl) (pe_callTy call_tuple_of (by rfl) T.lo.p.tuple (by decide +kernel) (pa_cons
        (pe_lc (own := [("tile", 8)]) (g := gName 8) (tt := tYes) (te := tDGet2 (tFld K (tVar 0) "spots") (tVar 8) (tC (.int 0))) rfl sc_parse_plan.nd (pi_range1 (by rfl) T.lo.p.range (pa_cons (pv 2) pa_nil)) (blkOk_by (own := [("tile", 8)]) (N := ppN) (sc := defScope s_Parser_parse_plan) (by decide +kernel))
          (fun _ _ _ _ _ => pg_name (i := 8) sc_parse_plan.nd rfl (Or.inl rfl)) (fun _ _ _ _ _ => pts_nil) (fun _ _ _ _ _ => pe_dget2 hu (pe_fld (pv 0) rfl) (pv 8) pe_int ⟨rfl, rfl, rfl, rfl⟩)) pa_nil)))
      (pss_one (ps_ret (pe_make T.lo.plan.m GI hr2 rfl T.lo.plan.g bI .nil pass0 (pa_cons (pe_tupleOfN (by rfl) T.lo.p.tuple (pe_fld (pv 0) rfl))
        (pa_cons (pe_tupleOfN (by rfl) T.lo.p.tuple (pe_fld (pv 0) rfl)) (pa_cons (pv 7)
        (pa_cons (pe_callTy call_tuple_of (by rfl) T.lo.p.tuple (by decide +kernel) (pa_cons (pe_fld (pv 0) rfl) pa_nil)) (pa_cons (pe_fld (pv 0) rfl) pa_nil))))))))))))))))))), ?_⟩
    obtain ⟨dx, ob⟩ := hP.ob
    have hlen := hG.len
    have hB0 : Bd Ts st0 := ⟨by
      show 0 < Ts.length
      exact List.length_pos_iff.mpr hG.ne, Nat.le_refl _, Nat.zero_le _, Nat.zero_le _, Nat.le_refl _, Nat.le_refl _, Nat.le_refl _, Nat.le_refl _⟩
    refine ⟨_, rfl, p, dx, _, rfl, ob, lp_no_take_word, H0, p, L, tas, Ts, st0, wCorridor, by rw [e_corridor]; rfl, hP, hB0.at_, ⟨fun kw s1 h1 v H1 hv hP1 => ?_, fun l c he => her l c (by simp only [parsePlan, he])⟩⟩
    clear hv
    obtain ⟨B1, f1, e1⟩ := bd_word hG hB0 h1 (by decide)
    obtain ⟨dx1, ob1⟩ := hP1.ob
    refine ⟨_, rfl, p, dx1, _, rfl, ob1, lp_no_take, H0, p, L, tas, Ts, s1, .number, rfl, hP1, B1.at_, ⟨fun tk s2 h2 v H2 hv hP2 => ?_, fun l c he => her l c (by simp only [parsePlan, h1, he])⟩⟩
    obtain ⟨a2, rfl, hta2⟩ := hv
    obtain ⟨B2, f2, e2, _⟩ := bd_take hG B1 h2 (by decide)
    obtain ⟨dx2, ob2⟩ := hP2.ob
    obtain ⟨dt2, ht2⟩ := hP2.get hta2
    obtain ⟨⟨n1, n2⟩, n3⟩ := hG.num tk hta2.mem (take_ok h2).2.2
    have hint := int_sx n3 n1 n2
    have hn99 := numVal_le n3 n2
    refine ⟨_, rfl, a2, _, dt2, _, _, rfl, ht2, T.lo.p.l.tok.c, T.lo.p.l.tok.n _ (by simp), lk_text, _, _, rfl, hint, by rw [len_sx]; omega, ?_⟩
    refine ⟨_, rfl, p, dx2, _, rfl, ob2, lp_no_take_word, H0, p, L, tas, Ts, s2, wSemi, by rw [e_semi]; rfl, hP2, B2.at_, ⟨fun t3 s3 h3 v H3 hv hP3 => ?_, fun l c he => her l c (by simp only [parsePlan, h1, h2, he])⟩⟩
    clear hv
    obtain ⟨B3, f3, e3⟩ := bd_word hG B2 h3 (by decide)
    obtain ⟨dx3, ob3⟩ := hP3.ob
    have B3f := B3.fa
    have B3a := B3.at_
    generalize hq : (if 1 ≤ numVal tk.text ∧ numVal tk.text ≤ 16 then s3 else s3.found wCorridor tk) = q3
    have Bq : Bd Ts q3 := by
      rw [← hq]
      split
      · exact B3
      · exact B3.found (by omega)
    generalize hn : numVal tk.text = n at *
    refine ⟨fun σ' H' => σ' = [some (.ref p), some (.ref a2), some (.int n), none, none, none, none, none, none] ∧ PA K H0 H' p L tas Ts q3, ?_, ?_⟩
    · refine ⟨_, rfl, _, _, rfl, rfl, _, rfl, ?_⟩
      have bad : ¬ (1 ≤ n ∧ n ≤ 16) → tDrop (tMeth (He.ga K "Parser") "found" (spFound K) [] E0 (tVar 0) (tCons (tC (.str "corridor")) (tCons (tVar 1) tNil))) { nx := fun σ' H' => σ' = [some (.ref p), some (.ref a2), some (.int n), none, none, none, none, none, none] ∧ PA K H0 H' p L tas Ts q3, rt := Q } [some (.ref p), some (.ref a2), some (.int n), none, none, none, none, none, none] H3 := fun hb => by
        refine ⟨_, rfl, p, dx3, _, rfl, ob3, lp_no_found, _, rfl, H0, p, L, tas, Ts, s3, wCorridor, a2, tk, by rw [e_corridor]; rfl, hP3, hta2, by omega, fun H4 hP4 => ⟨rfl, ?_⟩⟩
        rw [← hq, if_neg hb]
        exact hP4
      refine ite2 (fun h4 => ?_) (fun h4 => ?_)
      · have h4 := of_decide_eq_true h4
        refine ⟨_, _, rfl, rfl, _, rfl, ?_⟩
        refine ite2 (fun h5 => ?_) (fun h5 => ?_)
        · have h5 : ¬ ((n : Nat) : Int) ≤ 16 := fun z => by
            rw [decide_eq_true z] at h5
            exact absurd h5 (by decide)
          exact bad (by omega)
        · have h5 : ((n : Nat) : Int) ≤ 16 := Decidable.byContradiction fun z => h5 (by rw [decide_eq_false z]; rfl)
          refine ⟨rfl, ?_⟩
          rw [← hq, if_pos (by omega)]
          exact hP3
      · have h4 : ¬ (1 : Int) ≤ ((n : Nat) : Int) := fun z => h4 (decide_eq_true z)
        exact ⟨_, rfl, iteT (bad (by omega))⟩
    · rintro σ' H4 ⟨rfl, hP4⟩
      obtain ⟨dx4, ob4⟩ := hP4.ob
      refine ⟨_, rfl, p, dx4, _, rfl, ob4, lp_no_parse_names, _, rfl, p, _, dx4, _, _, rfl, ob4, T.lo.p.par.c, T.lo.p.par.n _ (by simp), lp_signs, H0, p, L, tas, Ts, q3, false, by rw [e_signs]; rfl, hP4, hG, Bq, ⟨fun u s4 h4 v H5 hv hP5 => ?_, fun l c he => her l c (by simp only [parsePlan, h1, h2, h3, hn, hq, he])⟩⟩
      clear hv
      have B4 := bd_names hG Bq h4
      obtain ⟨dx5, ob5⟩ := hP5.ob
      refine ⟨_, rfl, p, dx5, _, rfl, ob5, lp_no_parse_names, _, rfl, p, _, dx5, _, _, rfl, ob5, T.lo.p.par.c, T.lo.p.par.n _ (by simp), lp_moods, H0, p, L, tas, Ts, s4, true, by rw [e_moods]; rfl, hP5, hG, B4, ⟨fun u5 s5 h5 v H6 hv hP6 => ?_, fun l c he => her l c (by simp only [parsePlan, h1, h2, h3, hn, hq, h4, he])⟩⟩
      clear hv
      have B5 := bd_names hG B4 h5
      obtain ⟨dx6, ob6⟩ := hP6.ob
      refine ⟨_, rfl, p, dx6, _, rfl, ob6, lp_no_parse_robot, _, rfl, H0, p, L, tas, Ts, s5, n, rfl, hP6, hG, B5, ⟨fun u6 s6 h6 v H7 hv hP7 => ?_, fun l c he => her l c (by simp only [parsePlan, h1, h2, h3, hn, hq, h4, h5, he])⟩⟩
      clear hv
      have B6 := (bd_robot hG B5 h6).1
      have hpre : ∀ r, parseStmts Ts n Ts.length s6 = r → parsePlan Ts = (match r with | .error e => .error e | .ok (_, s7) => .ok (n, s7)) := by
        intro r hr
        simp only [parsePlan, h1, h2, h3, hn, hq, h4, h5, h6, hr]
        all_goals (rcases r with _ | ⟨_, _⟩ <;> rfl)
      refine ⟨fun m σ H => ∃ (f : Nat) (s : PSt), m + s.at_ = Ts.length ∧ σ = [some (.ref p), some (.ref a2), some (.int n), none, none, none, none, none, none] ∧ PA K H0 H p L tas Ts s ∧ Bd Ts s ∧ Ts.length ≤ f + s.at_ ∧
        parseStmts Ts n Ts.length s6 = parseStmts Ts n f s, ⟨Ts.length - s6.at_, Ts.length, s6, Nat.sub_add_cancel (Nat.le_of_lt B6.at_), rfl, hP7, B6, Nat.le_add_right _ _, rfl⟩, ?_⟩
      rintro m σ H8 ⟨f, s8, hm, rfl, hP8, B8, hf, hst⟩
      have B8a := B8.at_
      obtain ⟨f', rfl⟩ : ∃ f', f = f' + 1 := ⟨f - 1, by omega⟩
      obtain ⟨dx8, ob8⟩ := hP8.ob
      refine ⟨_, rfl, p, dx8, _, rfl, ob8, lp_no_peek, H0, p, L, tas, Ts, s8, rfl, hP8, B8.at_, fun a8 hta8 => ?_⟩
      obtain ⟨dt8, ht8⟩ := hP8.get hta8
      refine ⟨a8, _, dt8, _, _, rfl, ht8, T.lo.p.l.tok.c, T.lo.p.l.tok.n _ (by simp), lk_kind, rfl, _, rfl, ?_⟩
      refine ite2 (fun h => ?_) (fun h => ?_)
      · have hk : (peek Ts s8).kind ≠ .fin := fun z => by
          rw [decide_eq_true (by rw [z]; rfl)] at h
          exact absurd h (by decide)
        have hstep : ∀ r, parseStmt Ts n s8 = r → parseStmts Ts n (f' + 1) s8 = (match r with | .error e => .error e | .ok (_, s1) => parseStmts Ts n f' s1) := by
          intro r hr
          simp only [parseStmts, if_neg hk, hr]
          all_goals (rcases r with _ | ⟨_, _⟩ <;> rfl)
        refine ⟨_, fun _ _ nn => nn, ?_⟩
        refine ⟨_, rfl, p, dx8, _, rfl, ob8, lp_no_peek, H0, p, L, tas, Ts, s8, rfl, hP8, B8.at_, fun a9 hta9 => ?_⟩
        obtain ⟨dt9, ht9⟩ := hP8.get hta9
        refine ⟨a9, _, dt9, _, _, rfl, ht9, T.lo.p.l.tok.c, T.lo.p.l.tok.n _ (by simp), lk_text, ?_⟩
        have goon : ∀ (s9 : PSt) (H9 : Hp), parseStmt Ts n s8 = .ok ((), s9) → PA K H0 H9 p L tas Ts s9 → ∃ m', m' < m ∧ ∃ (f : Nat) (s : PSt), m' + s.at_ = Ts.length ∧ [some (V.ref p), some (.ref a2), some (.int n), none, none, none, none, none, none] = [some (.ref p), some (.ref a2), some (.int n), none, none, none, none, none, none] ∧ PA K H0 H9 p L tas Ts s ∧ Bd Ts s ∧ Ts.length ≤ f + s.at_ ∧
            parseStmts Ts n Ts.length s6 = parseStmts Ts n f s := fun s9 H9 h9 hP9 => by
          obtain ⟨B9, lt9⟩ := bd_stmt hG B8 h9
          have B9a := B9.at_
          exact ⟨Ts.length - s9.at_, by omega, f', s9, by omega, rfl, hP9, B9, by omega, by rw [hst, hstep _ h9]⟩
        have goer : ∀ l c, parseStmt Ts n s8 = .error (l, c) → Syn K H0 E l c := fun l c he => her l c (by rw [hpre _ (hst.trans (hstep _ he))])
        refine ⟨_, rfl, fun z => ?_, fun z => ?_⟩
        · have z : (peek Ts s8).text = wRobot := sx_inj (by rw [← e_robot]; exact z)
          have hs : parseStmt Ts n s8 = parseRobot Ts n s8 := by simp only [parseStmt, if_pos z]
          refine ⟨_, rfl, p, dx8, _, rfl, ob8, lp_no_parse_robot, _, rfl, H0, p, L, tas, Ts, s8, n, rfl, hP8, hG, B8, ⟨fun u s9 h9 v H9 hv hP9 => goon s9 H9 (by rw [hs]; exact h9) hP9, fun l c he => goer l c (by rw [hs]; exact he)⟩⟩
        · have z1 : ¬ (peek Ts s8).text = wRobot := fun y => z (by rw [y, e_robot])
          refine ⟨_, rfl, fun z => ?_, fun z => ?_⟩
          · have z : (peek Ts s8).text = wPut := sx_inj (by rw [← e_put]; exact z)
            have hs : parseStmt Ts n s8 = parsePut Ts n s8 := by simp only [parseStmt, if_neg z1, if_pos z]
            refine ⟨_, rfl, p, dx8, _, rfl, ob8, lp_no_parse_put, _, rfl, H0, p, L, tas, Ts, s8, n, rfl, hP8, hG, B8, ⟨fun u s9 h9 v H9 hv hP9 => goon s9 H9 (by rw [hs]; exact h9) hP9, fun l c he => goer l c (by rw [hs]; exact he)⟩⟩
          · have z2 : ¬ (peek Ts s8).text = wPut := fun y => z (by rw [y, e_put])
            refine ⟨_, rfl, fun z => ?_, fun z => ?_⟩
            · have z : (peek Ts s8).text = wWhen := sx_inj (by rw [← e_when]; exact z)
              have hs : parseStmt Ts n s8 = parseRule Ts s8 := by simp only [parseStmt, if_neg z1, if_neg z2, if_pos z]
              refine ⟨_, rfl, p, dx8, _, rfl, ob8, lp_no_parse_rule, H0, p, L, tas, Ts, s8, rfl, hP8, hG, B8, ⟨fun u s9 h9 v H9 hv hP9 => goon s9 H9 (by rw [hs]; exact h9) hP9, fun l c he => goer l c (by rw [hs]; exact he)⟩⟩
            · have z3 : ¬ (peek Ts s8).text = wWhen := fun y => z (by rw [y, e_when])
              refine ⟨_, rfl, p, dx8, _, rfl, ob8, lp_no_fail, H0, p, L, tas, Ts, s8, rfl, hP8, B8.at_, goer _ _ ?_⟩
              simp only [parseStmt, if_neg z1, if_neg z2, if_neg z3]
      · have hk : (peek Ts s8).kind = .fin := Decidable.byContradiction fun z => h (by
          show (!decide (V.str (peek Ts s8).kind.str = V.str Kd.fin.str)) = true
          rw [decide_eq_false fun y => z (kd_inj (b := .fin) (V.str.inj y))]
          rfl)
        have hres : parsePlan Ts = .ok (n, s8) := by
          rw [hpre (.ok ((), s8)) (by rw [hst]; simp only [parseStmts, if_pos hk])]
        obtain ⟨fas, hfa, hfas⟩ := hP8.fa
        refine ⟨_, rfl, p, _, dx8, _, _, rfl, ob8, T.lo.p.par.c, T.lo.p.par.n _ (by simp), lp_faults, (by show 0 ≤ sizeLine; decide), fun el nel => ?_⟩
        have smE := sameUpd (o := .lst []) (Same.refl H8) nel
        refine ⟨L.fl, el, fas.map V.ref, rfl, rfl, SqL.of (smE _ _ hfa), SqL.of upd_same, _, rfl, ?_⟩
        cases hfs : s8.faults with
        | cons f fs =>
          rw [hfs] at hfas
          obtain ⟨a0, as0, rfl⟩ : ∃ a0 as0, fas = a0 :: as0 := by
            cases fas with
            | nil => exact hfas.elim
            | cons a0 as0 => exact ⟨a0, as0, rfl⟩
          refine ite2 (fun _ => ?_) (fun h => absurd (by rw [decide_eq_false (by simp)]; rfl) h)
          have hP9 := hP8.mono smE
          have hfa9 := smE _ _ hfa
          have hfas9 : FaultsAt (upd H8 el (.lst [])) 0 (a0 :: as0) (f :: fs) := hfas.mono fun b xs q => smE _ _ q
          generalize upd H8 el (.lst []) = H9 at *
          obtain ⟨dx9, ob9⟩ := hP9.ob
          refine ⟨_, rfl, p, _, dx9, _, _, rfl, ob9, T.lo.p.par.c, T.lo.p.par.n _ (by simp), lp_faults, ?_⟩
          dsimp only [tNil]
          refine min_flts hfa9 hfas9 fun b j hb => ?_
          refine ⟨b, _, rfl, SqT.of hb, rfl, _, _, rfl, _, _, rfl, _, _, rfl, _, _, rfl, rfl, ?_⟩
          refine ⟨_, rfl, _, rfl, _, rfl, fault_at rfl (by simp) fun d H2 _ sm hx => ?_⟩
          exact hck n s8 f fs hres hfs d H2 (hP9.same.trans sm) hx
        | nil =>
        have hQ := hok n s8 hres hfs
        have hfas : fas = [] := by
          rw [hfs] at hfas
          have := hfas.len
          exact List.length_eq_zero_iff.mp this
        subst hfas
        refine iteF ?_
        have hP9 := hP8.mono smE
        generalize upd H8 el (.lst []) = H9 at *
        refine ⟨_, rfl, (n : Int), rfl, by omega, by omega, fun D nD => ?_⟩
        obtain ⟨dx9, ob9⟩ := hP9.ob
        refine lc_range (lo := 0) (n := ((n : Nat) : Int).toNat) (vs := [8]) (fun i H => H D = some (.lst (((List.range i).map fun j => (getA s8.spots j).getD 0).map fun m : Nat => V.int m)) ∧ Same H9 H) ⟨upd_same, sameUpd (Same.refl H9) nD⟩ ?_ ?_
        · rintro i H10 hi ⟨hD, sm10⟩
          have hP10 := hP9.mono sm10
          refine ⟨rfl, _, rfl, p, _, dx9, _, _, rfl, sm10 _ _ ob9, T.lo.p.par.c, T.lo.p.par.n _ (by simp), lp_spots, L.sd, rfl, .inl ⟨_, .inl hP10.sp⟩, _, rfl, _, DGet.k (k := Sum.inl ((0 : Int) + (i : Nat))) hP10.sp, _, hD, ?_, ?_, ?_⟩
          · rw [List.length_map, List.length_map, List.length_range, sizeLine_eq]
            omega
          · rw [upd_same, spots_get, List.range_succ, List.map_append, List.map_append]
            rfl
          · exact sameUpd sm10 nD
        · rintro H10 ⟨hD, sm10⟩
          rw [Int.toNat_natCast] at hD
          have hfl : ((List.range n).map fun j => (getA s8.spots j).getD 0) = (planOf n s8).floor := rfl
          rw [hfl] at hD
          refine ⟨D, _, rfl, .inl ⟨SqL.of hD, fun fa nfa => ?_⟩⟩
          have smf := sameUpd (o := .tup ((planOf n s8).floor.map fun m : Nat => V.int m)) (Same.refl H10) nfa
          have hP11 := hP9.mono (sm10.trans smf)
          have atf := @upd_same H10 fa (.tup ((planOf n s8).floor.map fun m : Nat => V.int m))
          generalize upd H10 fa (.tup ((planOf n s8).floor.map fun m : Nat => V.int m)) = H11 at *
          obtain ⟨dx11, ob11⟩ := hP11.ob
          refine ⟨_, rfl, p, _, dx11, _, _, rfl, ob11, T.lo.p.par.c, T.lo.p.par.n _ (by simp), lp_signs, L.sl, _, rfl, SqL.of hP11.si, fun sa osa nsa oc od => ?_⟩
          have sms := sameUpd (o := .frz osa (.tup (s8.signs.map sV))) (Same.refl H11) nsa
          have hP12 := hP11.mono sms
          have ats : TupN (upd H11 sa (.frz osa (.tup (s8.signs.map sV)))) sa (s8.signs.map sV) := ⟨osa, oc, od, upd_same⟩
          generalize upd H11 sa (.frz osa (.tup (s8.signs.map sV))) = H12 at *
          refine ⟨_, rfl, p, _, dx11, _, _, rfl, sms _ _ ob11, T.lo.p.par.c, T.lo.p.par.n _ (by simp), lp_moods, L.ml, _, rfl, SqL.of hP12.mo, fun ma oma nma mc md => ?_⟩
          have smm := sameUpd (o := .frz oma (.tup (s8.moods.map sV))) (Same.refl H12) nma
          have hP13 := hP12.mono smm
          have atm : TupN (upd H12 ma (.frz oma (.tup (s8.moods.map sV)))) ma (s8.moods.map sV) := ⟨oma, mc, md, upd_same⟩
          generalize upd H12 ma (.frz oma (.tup (s8.moods.map sV))) = H13 at *
          obtain ⟨ras, hra, hras⟩ := hP13.ro
          refine ⟨_, rfl, _, rfl, p, _, dx11, _, _, rfl, smm _ _ (sms _ _ ob11), T.lo.p.par.c, T.lo.p.par.n _ (by simp), lp_robots, L.rl, _, rfl, .inl ⟨SqL.of hra, fun ra nra => ?_⟩⟩
          have smr := sameUpd (o := .tup (ras.map V.ref)) (Same.refl H13) nra
          have hP14 := hP13.mono smr
          have atr := @upd_same H13 ra (.tup (ras.map V.ref))
          generalize upd H13 ra (.tup (ras.map V.ref)) = H14 at *
          refine ⟨_, rfl, p, _, dx11, _, _, rfl, smr _ _ (smm _ _ (sms _ _ ob11)), T.lo.p.par.c, T.lo.p.par.n _ (by simp), lp_rules, ?_⟩
          intro x dx0 nx ndx ne0
          refine init_at (names := planF) rfl nx ndx fun H15 sm15 hx => ⟨rfl, ?_⟩
          obtain ⟨dp, hdp⟩ := hx
          have hP15 := hP14.mono sm15
          refine hQ x H15 (hP14.same.free nx) hP15.same ⟨dp, sa, ma, fa, ra, L.rd, ras, hdp, ats.mono fun _ z => sm15 _ _ (smr _ _ (smm _ _ z)), atm.mono fun _ z => sm15 _ _ (smr _ _ z), sm15 _ _ (smr _ _ (smm _ _ (sms _ _ atf))), sm15 _ _ atr, ?_, hP15.ru⟩
          exact Paired.mapP hras fun a r q => sm15 _ _ (smr _ _ q)
def spLoadF (K : PySem.W.Frag) : Sp := fun vs H Q E => ∃ text : Cs, vs = [.str (sx text)] ∧ text.length ≤ 90000 ∧
  (∀ n s, loads text = .ok (n, s) → s.faults = [] → ∀ (a : Addr) (H' : Hp), H a = none → Same H H' → PlanAt K H' a (planOf n s) → Q (.ref a) H') ∧ (∀ n s f fs, loads text = .ok (n, s) → s.faults = f :: fs → ChkE K H E (minF f fs)) ∧ (∀ l c, loads text = .error (l, c) → Syn K H E l c)
theorem ok_loadF (T : LodF K mg) : FnE P w K mg base (L2.CX P w) 8 ("load", none) ["plan"] (spLoadF K) := by
  obtain ⟨fd, F⟩ := T.lo.d_load
  obtain ⟨fdT, GT, bT, kT⟩ := ok_tokenize (P := P) (w := w) (base := base) T.lo.p.l
  obtain ⟨fdI, GI, bI, kI⟩ := ok_par_init (P := P) (w := w) (base := base) T.lo.p
  obtain ⟨fdP, GP, bP, kP⟩ := ok_parse_planF (P := P) (w := w) (base := base) T
  refine ⟨fd, F.ok sc_load (fun vs H Q E h => ?_) (fun cdv A outer s H vs Q E hr h => ?_), F.bindsN fun _ _ _ _ _ _ us hl => match us, hl with | [_], _ => rfl, F.kp⟩
  · obtain ⟨text, rfl, _⟩ := h
    rfl
  · obtain ⟨text, rfl, hl, hok, hck, her⟩ := h
    have hr2 : Room 2 _ := hr.mono (by decide)
    have hr4 : Room 4 _ := hr.mono (by decide)
    refine ⟨_, (pss_one (ps_ret (pe_meth0 (pe_make T.lo.p.par.m GI hr2 rfl T.lo.p.par.g bI .nil pass0 (pa_cons (pe_call GT hr4 rfl T.lo.p.l.g_tokenize kT bT .nil (passes_call (takes_of rfl rfl rfl rfl) (fun _ _ _ _ h => h)) (pa_cons (pv 0) pa_nil)) pa_nil))
      T.lo.p.par.c T.lo.p.parse_plan.m GP hr bP .nil (passes_call (takes_of rfl rfl rfl rfl) (fun _ _ _ _ h => h))))), ?_⟩
    refine ⟨_, rfl, text, rfl, hl, fun ts ht a tas H1 na sm ha htk => ?_, fun l c he => her l c (by simp only [loads, he])⟩
    have hG := tokenize_good hl ht
    intro x dx nx ndx ne
    have xa : a ≠ x := ne_of_none ha nx
    have xd : a ≠ dx := ne_of_none ha ndx
    have s1 : Same H1 (upd (upd H1 dx (.own x)) x (.ins (He.ga K "Parser") dx [])) := sameUpd (sameUpd (Same.refl H1) ndx) nx
    refine ⟨H, x, dx, a, tas, ts, rfl, upd_same, s1 _ _ ha, htk.same s1, sm.trans s1, sm.free nx, na, fun L H2 hPA => ⟨rfl, ?_⟩⟩
    obtain ⟨dx2, ob2⟩ := hPA.ob
    have el : loads text = parsePlan ts := by simp only [loads, ht]
    refine ⟨x, dx2, _, rfl, ob2, lp_no_parse_plan, H, x, L, tas, ts, rfl, hPA, hG, fun n s h => hok n s (by rw [el]; exact h), fun n s f fs h => hck n s f fs (by rw [el]; exact h), fun l c h => her l c (by rw [el]; exact h)⟩
end
end Sw

end

section
set_option maxRecDepth 100000
set_option maxHeartbeats 4000000
/-! format_plan of any text -/
namespace Sw
open PySem PySem.Spec PyProof.Rows L2 SwA
theorem sorted_ex : ∀ (rs : List ((Nat × Nat) × Rule)), (rs.map (·.1)).Nodup → ∃ ss, ss.Perm rs ∧ SortedR ss
  | [], _ => ⟨[], .refl _, .nil⟩
  | r :: rs, h => by
    rw [List.map_cons, List.nodup_cons] at h
    have key : ∀ ss : List ((Nat × Nat) × Rule), SortedR ss → r.1 ∉ ss.map (·.1) → ∃ ts, ts.Perm (r :: ss) ∧ SortedR ts ∧ ∀ k : Nat × Nat, (k.1 < r.1.1 ∨ (k.1 = r.1.1 ∧ k.2 < r.1.2)) → (∀ x ∈ ss.map (·.1), k.1 < x.1 ∨ (k.1 = x.1 ∧ k.2 < x.2)) → ∀ x ∈ ts.map (·.1), k.1 < x.1 ∨ (k.1 = x.1 ∧ k.2 < x.2) := by
      intro ss
      induction ss with
      | nil => exact fun _ _ => ⟨[r], .refl _, List.pairwise_singleton _ _, fun k hk _ x hx => by
          rw [List.map_cons, List.map_nil, List.mem_singleton] at hx
          rw [hx]
          exact hk⟩
      | cons a ss ih =>
        intro hs hn
        have hs0 := hs
        unfold SortedR at hs
        rw [List.map_cons, List.pairwise_cons] at hs
        rw [List.map_cons, List.mem_cons, not_or] at hn
        by_cases hlt : r.1.1 < a.1.1 ∨ (r.1.1 = a.1.1 ∧ r.1.2 < a.1.2)
        · refine ⟨r :: a :: ss, .refl _, ?_, fun k hk hx x hx2 => ?_⟩
          · unfold SortedR
            rw [List.map_cons, List.pairwise_cons]
            refine ⟨fun b hb => ?_, hs0⟩
            rw [List.map_cons] at hb
            rcases List.mem_cons.mp hb with rfl | hb
            · exact hlt
            · have := hs.1 b hb
              omega
          · rw [List.map_cons] at hx2
            rcases List.mem_cons.mp hx2 with rfl | hx2
            · exact hk
            · exact hx x hx2
        · have hgt : a.1.1 < r.1.1 ∨ (a.1.1 = r.1.1 ∧ a.1.2 < r.1.2) := by
            have : r.1 ≠ a.1 := hn.1
            have h2 : ¬ (r.1.1 = a.1.1 ∧ r.1.2 = a.1.2) := fun z => this (Prod.ext z.1 z.2)
            omega
          obtain ⟨ts, p1, p2, p3⟩ := ih hs.2 hn.2
          refine ⟨a :: ts, (p1.cons a).trans (List.Perm.swap r a ss), ?_, fun k hk hx x hx2 => ?_⟩
          · unfold SortedR
            rw [List.map_cons, List.pairwise_cons]
            exact ⟨fun b hb => p3 a.1 hgt hs.1 b hb, p2⟩
          · rw [List.map_cons] at hx2
            rcases List.mem_cons.mp hx2 with rfl | hx2
            · exact hx _ List.mem_cons_self
            · exact p3 k hk (fun y hy => hx y (List.mem_cons_of_mem _ hy)) x hx2
    obtain ⟨ss2, hp2, hs2⟩ := sorted_ex rs h.2
    have hn2 : r.1 ∉ ss2.map (·.1) := fun z => h.1 ((hp2.map _).mem_iff.mp z)
    obtain ⟨ts, p1, p2, _⟩ := key ss2 hs2 hn2
    exact ⟨ts, p1.trans (hp2.cons r), p2⟩
structure FpF (K : PySem.W.Frag) (mg : Str → Option Value) : Prop where
  l : LodF K mg
  f : FmtT K mg
  fp : DeT K mg "format_plan" s_format_plan
section
variable {P : Program} {w : World} {K : PySem.W.Frag} {mg : Str → Option Value} {base : Heap}
def spFpF (K : PySem.W.Frag) : Sp := fun vs H Q E => ∃ text : Cs, vs = [sV text] ∧ text.length ≤ 90000 ∧
  (∀ n s, loads text = .ok (n, s) → s.faults = [] → WfP (planOf n s) ∧ ∀ (v : V) (H' : Hp), Same H H' → Q v H') ∧ (∀ n s f fs, loads text = .ok (n, s) → s.faults = f :: fs → ChkE K H E (minF f fs)) ∧ (∀ l c, loads text = .error (l, c) → Syn K H E l c)
theorem sc_fpF : FnScope ["plan"] ["plan"] (defScope s_format_plan) := ⟨rfl, rfl, rfl, by decide +kernel, rfl, by decide +kernel, by decide +kernel⟩
theorem ok_fpF (T : FpF K mg) : FnE P w K mg base (L2.CX P w) 9 ("format_plan", none) ["plan"] (spFpF K) := by
  obtain ⟨fd, F⟩ := T.fp.d
  obtain ⟨fdL, GL, bL, kL⟩ := ok_loadF (P := P) (w := w) (base := base) T.l
  obtain ⟨fdF, GF, bF, kF⟩ := ok_fmt (P := P) (w := w) (base := base) T.f
  refine ⟨fd, F.ok sc_fpF (fun vs H Q E h => ?_) (fun cdv A outer s H vs Q E hr h => ?_), F.bindsN fun _ _ _ _ _ _ us hl => match us, hl with | [_], _ => rfl, F.kp⟩
  · obtain ⟨t, rfl, _⟩ := h
    rfl
  · obtain ⟨t, rfl, hl, hok, hck, her⟩ := h
    have hr1 : Room 1 _ := hr.mono (by decide)
    have hr8 : Room 8 _ := hr.mono (by decide)
    refine ⟨_, (pss_one (ps_ret (pe_call GF hr1 rfl T.f.fmt.g kF bF .nil pass0 (pa_cons (pe_call GL hr8 rfl T.f.lo.g_load kL bL .nil (passes_call (takes_of rfl rfl rfl rfl) (fun _ _ _ _ h => h)) (pa_cons (pv 0) pa_nil)) pa_nil)))), ?_⟩
    refine ⟨_, rfl, t, rfl, hl, fun n s hs hf a H1 na s1 hP => ?_, hck, her⟩
    obtain ⟨wf, k⟩ := hok n s hs hf
    obtain ⟨rs, hp, so⟩ := sorted_ex (planOf n s).rules wf.rn
    exact ⟨a, _, rs, rfl, hP, wf, hp, so, fun H2 s2 => k _ H2 (s1.trans s2)⟩
end
end Sw

end

section
set_option maxRecDepth 100000
set_option maxHeartbeats 4000000
/-! signs_of of any text -/
namespace Sw
open PySem PySem.Spec PyProof.Rows L2 SwA
structure SofF (K : PySem.W.Frag) (mg : Str → Option Value) : Prop where
  l : LodF K mg
  list : mg "list" = none
  so : DeT K mg "signs_of" s_signs_of
section
variable {P : Program} {w : World} {K : PySem.W.Frag} {mg : Str → Option Value} {base : Heap}
def spSofF (K : PySem.W.Frag) : Sp := fun vs H Q E => ∃ text : Cs, vs = [sV text] ∧ text.length ≤ 90000 ∧
  (∀ n s, loads text = .ok (n, s) → s.faults = [] → WfP (planOf n s) ∧ ∀ (v : V) (H' : Hp), Same H H' → Q v H') ∧ (∀ n s f fs, loads text = .ok (n, s) → s.faults = f :: fs → ChkE K H E (minF f fs)) ∧ (∀ l c, loads text = .error (l, c) → Syn K H E l c)
theorem sc_sofF : FnScope ["plan"] ["plan"] (defScope s_signs_of) := ⟨rfl, rfl, rfl, by decide +kernel, rfl, by decide +kernel, by decide +kernel⟩
theorem ok_sofF (T : SofF K mg) : FnE P w K mg base (L2.CX P w) 9 ("signs_of", none) ["plan"] (spSofF K) := by
  obtain ⟨fd, F⟩ := T.so.d
  obtain ⟨fdL, GL, bL, kL⟩ := ok_loadF (P := P) (w := w) (base := base) T.l
  refine ⟨fd, F.ok sc_sofF (fun vs H Q E h => ?_) (fun cdv A outer s H vs Q E hr h => ?_), F.bindsN fun _ _ _ _ _ _ us hl => match us, hl with | [_], _ => rfl, F.kp⟩
  · obtain ⟨t, rfl, _⟩ := h
    rfl
  · obtain ⟨t, rfl, hl, hok, hck, her⟩ := h
    have hr8 : Room 8 _ := hr.mono (by decide)
    refine ⟨_, (pss_one (ps_ret (pe_callTy call_list_of (by rfl) T.list (by decide +kernel) (pa_cons (pe_fld (pe_call GL hr8 rfl T.l.lo.g_load kL bL .nil (passes_call (takes_of rfl rfl rfl rfl) (fun _ _ _ _ h => h)) (pa_cons (pv 0) pa_nil)) rfl) pa_nil)))), ?_⟩
    refine ⟨_, rfl, t, rfl, hl, fun n s hs hf a H1 na s1 hP => ?_, hck, her⟩
    obtain ⟨wf, k⟩ := hok n s hs hf
    obtain ⟨dx, sa, ma, fa, ra, rd, ras, e0, e1, _⟩ := id hP
    refine ⟨a, _, dx, _, _, rfl, e0, T.l.lo.plan.c, T.l.lo.plan.n _ (by simp), lpl_signs, sa, _, rfl, .inr e1.sq, fun l nl => ?_⟩
    exact k _ _ (s1.trans (sameUpd (Same.refl _) nl))
end
end Sw

end

section
set_option maxRecDepth 100000
set_option maxHeartbeats 4000000
/-! the law's own: the error of a call -/
namespace SwA
open PySem PySem.Spec PyProof.Rows L2
/-! ### xs.count(True) of a list of truth values -/
def rCntB (K : PySem.W.Frag) : V → List V → Hp → VK → Prop := fun x xs H Q => ∃ (p : Addr) (bs : List Bool), x = .ref p ∧ xs = [.bl true] ∧ SqL K H p (bs.map V.bl) ∧ Q (.int ((bs.countP id : Nat) : Int)) H
theorem dp_bools {K : PySem.W.Frag} {H : Hp} : ∀ l : List Bool, DpAll K H (l.map V.bl) (l.map PyData.bool)
  | [] => .nil
  | b :: l => .cons (.bl b) (dp_bools l)
theorem count_bools : ∀ l : List Bool, (l.map PyData.bool).countP (fun y => PyData.eqv y (.bool true)) = l.countP id
  | [] => rfl
  | b :: l => by
    rw [List.map_cons, List.countP_cons, List.countP_cons, count_bools l]
    cases b <;> simp [PyData.eqv]
theorem plain_bools : ∀ l : List Bool, PyData.plainAll (l.map PyData.bool) = true
  | [] => rfl
  | b :: l => by
    rw [List.map_cons, PyData.plainAll, plain_bools l]
    rfl
theorem mt_bcount {X : Cx} (hu : X.A.units + 3 < cLine) : MtR X "list.count" (rCntB X.K) := by
  intro pins s σ H x xs v us Q I rx rxs h
  obtain ⟨p, bs, rfl, rfl, hs, q⟩ := h
  cases rx
  obtain ⟨u, rfl, ru⟩ := rxs.one
  cases ru
  obtain ⟨its, rv, ⟨o, n, ho, hc, hdn, hd⟩, hlen⟩ := I.list hs
  obtain ⟨as, ra⟩ := Dp.readsAll I _ _ _ (dp_bools bs) rv
  refine SeqAt.count_list_data (xs := bs.map PyData.bool) (d := .bool true) ⟨o, ho, hc, n, hd⟩ (by simpa using ra) (Reads.bool true) (plain_bools bs) rfl ?_ ?_
  · have : min (PyData.depthAll (bs.map PyData.bool)) (PyData.depth (.bool true)) ≤ 1 := Nat.le_trans (Nat.min_le_right _ _) (by rw [PyData.depth]; decide)
    omega
  · rw [count_bools]
    exact ⟨.int _, H, I.tok _, ⟨_, rfl⟩, q⟩
/-! ### isinstance(e, ..) in the suite that holds e -/
def rIsEx (K : PySem.W.Frag) (cls : Value) (d : Option Addr) (a : Addr) : List V → Hp → VK → Prop := fun xs H Q => ∃ (D : Addr) (c : V) (cv : Value) (b : Bool), cls = .ref D ∧ d = none ∧ L2.ExcC K D ∧ xs = [.ref a, c] ∧ (∀ u, RelV c u → u = cv) ∧ PySem.W.kitOne K (.ref D) cv = some b ∧ Q (.bl b) H
theorem call_isEx {X : Cx} {a : Addr} {cls : Value} {d : Option Addr} {oe : Obj} {pn : List (Addr × Obj)} (hz : Zc cls d oe) (hf : ∃ vs, oe.data = .fields vs) : CallR (X.suite a ((a, oe) :: pn)) (.builtin "isinstance") (rIsEx X.K cls d a) := by
  intro pins s σ H xs us Q I r h
  obtain ⟨D, c, cv, b, rfl, rfl, C, h⟩ := h
  exact call_isE C hz hf pins s σ H xs us Q I r ⟨c, cv, b, h⟩
theorem pe_no {X : Cx} {e : Expr} : PE X e (fun _ _ _ => False) := ⟨fun pins s σ H Q I h => h.elim⟩
/-- the slots are as many as the names -/
theorem pss_len {X : Cx} {sts : List Stmt} {t : TS} (n : Nat) (hn : X.N.length = n) (h : PSs X sts t) : PSs X sts (fun D σ H => σ.length = n → t D σ H) := ⟨fun pins s σ H D I q => h.run pins s σ H D I (q (I.len.trans hn))⟩
theorem ps_try_asL {X : Cx} {body suite : List Stmt} {b₀ : Stmt} {x n : Str} {np pos pos' : Pos} {i : Nat} {c : Value} {Wout : WX} {tb : WX → TS} {ts : Addr → Value → Option Addr → TS} (k : Nat) (hk : X.N.length = k) (hs : X.stack = X.env :: X.outer) (hf : X.env.frame = some X.env.locals) (hN : X.N.Nodup) (hi : X.N[i]? = some n) (hln : X.env.kindOf n = some .local) (hc : Names X x c) (tk : Takes X Wout)
    (hb : ∀ (W : WX) (pn : List (Addr × Obj)) (xe : Value → Shared → Prop), Takes (X.tr pn xe) W → PassesOwn (model X.prog X.w) X.A X.env xe → PSs (X.tr pn xe) body (tb W))
    (hsu : ∀ (a : Addr) (oe : Obj) (cls : Value) (d : Option Addr) (pn : List (Addr × Obj)), Zc cls d oe → (∃ vs, oe.data = .fields vs) → PSs (X.suite a ((a, oe) :: pn)) (b₀ :: suite) (ts a cls d)) :
    PS X (.Try body [.ExceptHandler (some (.Name x np)) (some n) (b₀ :: suite) pos'] [] [] pos) (fun D σ H => tb (wAs X.K c i (fun a cls d D σ H => σ.length = k → ts a cls d D σ H) Wout D) D σ H) :=
  ps_try_as hs hf hN hi hln hc tk hb (fun a oe cls d pn hz hf => pss_len k hk (hsu a oe cls d pn hz hf))
end SwA

namespace Sw
open PySem PySem.Spec PyProof.Rows L2 SwA
def wordN : List Str := ["tick", "number", "sign", "long", "other", "contradiction", "name", "unknown", "syntax", "check", "code", "operation"]
theorem xcB_ok {K : PySem.W.Frag} {D : Addr} (h : xcB K D = true) : L2.ExcC K D := by
  obtain ⟨h1, h⟩ := He.ba h
  obtain ⟨h2, h⟩ := He.ba h
  obtain ⟨h3, h⟩ := He.ba h
  obtain ⟨h4, h⟩ := He.ba h
  obtain ⟨h5, h⟩ := He.ba h
  obtain ⟨h6, h⟩ := He.ba h
  obtain ⟨h7, h8⟩ := He.ba h
  exact ⟨He.eqO_ok h1, He.eqO_ok h2, of_decide_eq_true h3, h4, He.eqO_ok h5, He.eqO_ok h6, of_decide_eq_true h7, of_decide_eq_true h8⟩
/-- an error's class, the j-th -/
structure EKind (K : PySem.W.Frag) (D : Str) (j : Nat) : Prop where
  ex : L2.ExcC K (He.ga K D)
  exm : PySem.W.exmOne K (.ref (He.ga K D)) (.ref (He.ga K "SweepError")) = some true
  ve : PySem.W.kitOne K (.ref (He.ga K D)) (.type "ValueError") = some true
  kd : ∀ q ∈ clsN.zipIdx, PySem.W.kitOne K (.ref (He.ga K D)) (.ref (He.ga K q.1)) = some (decide (q.2 = j))
theorem ekB_ok {K : PySem.W.Frag} {D : Str} {j : Nat} (h : ekB K D j = true) : EKind K D j := by
  obtain ⟨h1, h⟩ := He.ba h
  obtain ⟨h2, h⟩ := He.ba h
  obtain ⟨h3, h4⟩ := He.ba h
  exact ⟨xcB_ok h1, of_decide_eq_true h2, of_decide_eq_true h3, fun q hq => of_decide_eq_true (List.all_eq_true.mp h4 q hq)⟩
structure EofT (K : PySem.W.Frag) (mg : Str → Option Value) : Prop where
  isinstance : mg "isinstance" = none
  VE : mg "ValueError" = none
  sw : mg "SweepError" = some (.ref (He.ga K "SweepError"))
  g : ∀ n ∈ clsN, mg n = some (.ref (He.ga K n))
  d : DeT K mg "_law_error_of" s__law_error_of
abbrev eofN : List Str := ["_law_call", "e", "_law_kinds", "_law_names", "_law_name"]
theorem sc_eof : FnScope eofN ["_law_call"] (defScope s__law_error_of) := ⟨rfl, rfl, rfl, by decide +kernel, rfl, by decide +kernel, by decide +kernel⟩
/-- an error of no fields, told by the law -/
def ErrW (K : PySem.W.Frag) (cls : Value) (d : Option Addr) (H : Hp) (Q : VK) : Prop := ∃ (D : Str) (j : Nat) (z : Str), cls = .ref (He.ga K D) ∧ d = none ∧ EKind K D j ∧ j < 8 ∧ wordN[j]? = some z ∧ ∀ (t : Addr) (H' : Hp), Same H H' → H' t = some (.tup [.str z, .int 0]) → Q (.ref t) H'
def TErr (K : PySem.W.Frag) : (XK → Hp → VK → Prop) → Hp → VK → Prop := fun tl H Q => tl (fun cls d H' => ErrW K cls d H' Q) H (fun _ H' => Q .non H')
abbrev bsJ (j : Nat) : List Bool := [decide (0 = j), decide (1 = j), decide (2 = j), decide (3 = j), decide (4 = j), decide (5 = j), decide (6 = j), decide (7 = j), decide (8 = j), decide (9 = j), decide (10 = j), decide (11 = j)]
theorem bs_count : ∀ {j : Nat}, j < 12 → (bsJ j).countP id = 1 := by decide
theorem bs_at {j : Nat} (h : j < 12) : ((bsJ j).map V.bl)[j]? = some (.bl true) ∧ ∀ (m : Nat) (z : V), m < j → ((bsJ j).map V.bl)[m]? = some z → eqV z (.bl true) = false := by
  have a : ∀ j, j < 12 → (bsJ j)[j]? = some true ∧ ∀ m, m < j → (bsJ j)[m]? = some false := by decide
  obtain ⟨a1, a2⟩ := a j h
  refine ⟨by rw [List.getElem?_map, a1]; rfl, fun m z hm hz => ?_⟩
  rw [List.getElem?_map, a2 m hm] at hz
  cases hz
  rfl
theorem wordV {j : Nat} {z : Str} (h : wordN[j]? = some z) : (wordN.map V.str)[j]? = some (.str z) := by rw [List.getElem?_map, h]; rfl
theorem word_out {j : Nat} {z : Str} (hj : j < 8) (h : wordN[j]? = some z) : inV (.str z) [.str "syntax", .str "check"] = false ∧ inV (.str z) [.str "code", .str "operation"] = false := by
  have a : ∀ j, j < 8 → ∀ z, wordN[j]? = some z → inV (.str z) [.str "syntax", .str "check"] = false ∧ inV (.str z) [.str "code", .str "operation"] = false := by
    intro j hj z hz
    match j, hj with
    | 0, _ => cases hz; exact ⟨by decide +kernel, by decide +kernel⟩
    | 1, _ => cases hz; exact ⟨by decide +kernel, by decide +kernel⟩
    | 2, _ => cases hz; exact ⟨by decide +kernel, by decide +kernel⟩
    | 3, _ => cases hz; exact ⟨by decide +kernel, by decide +kernel⟩
    | 4, _ => cases hz; exact ⟨by decide +kernel, by decide +kernel⟩
    | 5, _ => cases hz; exact ⟨by decide +kernel, by decide +kernel⟩
    | 6, _ => cases hz; exact ⟨by decide +kernel, by decide +kernel⟩
    | 7, _ => cases hz; exact ⟨by decide +kernel, by decide +kernel⟩
  exact a j hj z h
section
variable {X : Cx}
def hdB : List Stmt → List Stmt
  | (.Try _ [.ExceptHandler _ _ b _] _ _ _) :: _ => b
  | _ => []
abbrev eofX (X : Cx) (g : Addr) (cdg : Value) (s : Shared) (H : Hp) : Cx := (cxOf C8.CX0 X.prog X.w X.K X.mg X.base eofN "_law_error_of" (defScope s__law_error_of) g cdg X.A X.stack s H C8.E0).nox
theorem err_gives (T : EofT X.K X.mg) {g : Addr} {cdg : Value} {q : Str} (hu3 : ∀ s : Shared, (X.A.deeper (envOfC "_law_error_of" (defScope s__law_error_of) s.heap.objs.size g cdg)).units + 3 < cLine) : LamX.GivesTo X eofN "_law_error_of" (defScope s__law_error_of) g cdg (defBody s__law_error_of) "_law_call" q (TErr X.K) := by
  intro f c' s H Q tl act hc h
  replace hu3 := hu3 s
  refine ⟨_, pss_cons (ps_try_asL (X := eofX X g cdg s H) (i := 1) (c := .ref (He.ga X.K "SweepError")) (ts := ?ts)
      (tb := fun W D σ H => ∃ Ech : XK, (∀ cls d σ' H', Ech cls d H' → W cls d σ' H') ∧ σ[0]? = some (some (.ref f)) ∧ H c' = some (LamX.CodeO c' q) ∧ tl Ech H (fun _ H' => D.nx σ H'))
      5 rfl rfl rfl sc_eof.nd rfl rfl ⟨rfl, by decide, .inl T.sw⟩ LamX.takes0 ?bo ?su)
    (pss_one (ps_ret pe_non)), ?fin⟩
  case su =>
    intro a oe cls d pn hz hf
    have su : PSs ((eofX X g cdg s H).suite a ((a, oe) :: pn)) (hdB (defBody s__law_error_of)) _ := (pss_cons (ps_set (i := 2) sc_eof.nd rfl (.inl rfl) (pe_lst (pa_cons (pe_callB (call_isEx (X := eofX X g cdg s H) hz hf) (by rfl) T.isinstance (by decide +kernel) (pa_cons (pv 1) (pa_cons (pe_glob (v := .ref (He.ga X.K "InvalidTick")) (by rfl) (T.g "InvalidTick" (by decide +kernel)) rfl) pa_nil))) (pa_cons (pe_callB (call_isEx (X := eofX X g cdg s H) hz hf) (by rfl) T.isinstance (by decide +kernel) (pa_cons (pv 1) (pa_cons (pe_glob (v := .ref (He.ga X.K "InvalidNumber")) (by rfl) (T.g "InvalidNumber" (by decide +kernel)) rfl) pa_nil))) (pa_cons (pe_callB (call_isEx (X := eofX X g cdg s H) hz hf) (by rfl) T.isinstance (by decide +kernel) (pa_cons (pv 1) (pa_cons (pe_glob (v := .ref (He.ga X.K "UnknownSign")) (by rfl) (T.g "UnknownSign" (by decide +kernel)) rfl) pa_nil))) pa_nil)))))
      (pss_cons (ps_set (i := 2) sc_eof.nd rfl (.inl rfl) (pe_op op_cat (pv 2) (pe_lst (pa_cons (pe_callB (call_isEx (X := eofX X g cdg s H) hz hf) (by rfl) T.isinstance (by decide +kernel) (pa_cons (pv 1) (pa_cons (pe_glob (v := .ref (He.ga X.K "TooLong")) (by rfl) (T.g "TooLong" (by decide +kernel)) rfl) pa_nil))) (pa_cons (pe_callB (call_isEx (X := eofX X g cdg s H) hz hf) (by rfl) T.isinstance (by decide +kernel) (pa_cons (pv 1) (pa_cons (pe_glob (v := .ref (He.ga X.K "OtherCorridor")) (by rfl) (T.g "OtherCorridor" (by decide +kernel)) rfl) pa_nil))) (pa_cons (pe_callB (call_isEx (X := eofX X g cdg s H) hz hf) (by rfl) T.isinstance (by decide +kernel) (pa_cons (pv 1) (pa_cons (pe_glob (v := .ref (He.ga X.K "Contradiction")) (by rfl) (T.g "Contradiction" (by decide +kernel)) rfl) pa_nil))) pa_nil))))))
      (pss_cons (ps_set (i := 2) sc_eof.nd rfl (.inl rfl) (pe_op op_cat (pv 2) (pe_lst (pa_cons (pe_callB (call_isEx (X := eofX X g cdg s H) hz hf) (by rfl) T.isinstance (by decide +kernel) (pa_cons (pv 1) (pa_cons (pe_glob (v := .ref (He.ga X.K "InvalidName")) (by rfl) (T.g "InvalidName" (by decide +kernel)) rfl) pa_nil))) (pa_cons (pe_callB (call_isEx (X := eofX X g cdg s H) hz hf) (by rfl) T.isinstance (by decide +kernel) (pa_cons (pv 1) (pa_cons (pe_glob (v := .ref (He.ga X.K "UnknownName")) (by rfl) (T.g "UnknownName" (by decide +kernel)) rfl) pa_nil))) (pa_cons (pe_callB (call_isEx (X := eofX X g cdg s H) hz hf) (by rfl) T.isinstance (by decide +kernel) (pa_cons (pv 1) (pa_cons (pe_glob (v := .ref (He.ga X.K "SyntaxFault")) (by rfl) (T.g "SyntaxFault" (by decide +kernel)) rfl) pa_nil))) pa_nil))))))
      (pss_cons (ps_set (i := 2) sc_eof.nd rfl (.inl rfl) (pe_op op_cat (pv 2) (pe_lst (pa_cons (pe_callB (call_isEx (X := eofX X g cdg s H) hz hf) (by rfl) T.isinstance (by decide +kernel) (pa_cons (pv 1) (pa_cons (pe_glob (v := .ref (He.ga X.K "CheckFault")) (by rfl) (T.g "CheckFault" (by decide +kernel)) rfl) pa_nil))) (pa_cons (pe_callB (call_isEx (X := eofX X g cdg s H) hz hf) (by rfl) T.isinstance (by decide +kernel) (pa_cons (pv 1) (pa_cons (pe_glob (v := .ref (He.ga X.K "InvalidCode")) (by rfl) (T.g "InvalidCode" (by decide +kernel)) rfl) pa_nil))) (pa_cons (pe_callB (call_isEx (X := eofX X g cdg s H) hz hf) (by rfl) T.isinstance (by decide +kernel) (pa_cons (pv 1) (pa_cons (pe_glob (v := .ref (He.ga X.K "InvalidOperation")) (by rfl) (T.g "InvalidOperation" (by decide +kernel)) rfl) pa_nil))) pa_nil))))))
      (pss_cons (ps_if (PW.pt (pw_or (pt_cmpR op_ne (pe_bm PySem.F.plainAttrs_list PySem.F.slot_list_count PySem.F.type_list_count (mt_bcount (X := (eofX X g cdg s H).suite a ((a, oe) :: pn)) hu3) (pv 2) (pa_cons pe_bl pa_nil)) pe_int (nomark _)) (pw_or1 (pt_not (pt_val (pe_callB (call_isEx (X := eofX X g cdg s H) hz hf) (by rfl) T.isinstance (by decide +kernel) (pa_cons (pv 1) (pa_cons (pe_bltn (v := .ty "ValueError") (by rfl) T.VE (by decide +kernel) rfl) pa_nil))))))))
        (pss_one (ps_ret (pe_tup (pa_cons pe_str (pa_cons pe_int pa_nil))))) pss_nil)
      (pss_cons (ps_set (i := 3) sc_eof.nd rfl (.inl rfl) (pe_lst (pa_cons pe_str (pa_cons pe_str (pa_cons pe_str (pa_cons pe_str (pa_cons pe_str (pa_cons pe_str (pa_cons pe_str (pa_cons pe_str (pa_cons pe_str (pa_cons pe_str pa_nil))))))))))))
      (pss_cons (ps_set (i := 4) sc_eof.nd rfl (.inl rfl) (pe_ix ix_list (pe_op op_cat (pv 3) (pe_lst (pa_cons pe_str (pa_cons pe_str pa_nil)))) (pe_bm PySem.F.plainAttrs_list PySem.F.slot_list_index PySem.F.type_list_index mt_index (pv 2) (pa_cons pe_bl pa_nil)) (fun _ _ => rfl)))
      (pss_cons (ps_if (pt_cmpR op_in_seq (pv 4) (pe_lst (pa_cons pe_str (pa_cons pe_str pa_nil))) (by rfl))
        (pss_one (ps_ret (pe_tup (pa_cons (pv 4) (pa_cons (pe_ifExp (pt_cmpR op_eq (pv 4) pe_str (nomark _)) pe_no pe_no) pa_nil))))) pss_nil)
      (pss_one (ps_ret (pe_tup (pa_cons (pv 4) (pa_cons (pe_ifExp (pt_cmpR op_in_seq (pv 4) (pe_lst (pa_cons pe_str (pa_cons pe_str pa_nil))) (by rfl)) pe_no pe_int) pa_nil)))))))))))))
    have hK : ((eofX X g cdg s H).suite a ((a, oe) :: pn)).K = X.K := rfl
    rw [hK] at su
    exact su
  case bo =>
    intro W pn xe tk _
    refine ⟨fun pins s' σ H' D I h' => ?_⟩
    obtain ⟨Ech, hW, h1, h2, h3⟩ := h'
    exact (pss_one (ps_expr (act W pn xe Ech _ _ tk hW))).run pins s' σ H' D I ⟨h1, h2, h3⟩
  case fin =>
    refine ⟨fun cls d H' => ErrW X.K cls d H' Q, fun cls d σ' H' hE => ?_, rfl, hc, h⟩
    obtain ⟨D, j, z, rfl, rfl, ek, hj, hz, kq⟩ := hE
    refine ⟨true, ek.exm, fun _ a na hl => ?_, fun z => nomatch z⟩
    obtain ⟨x0, x1, x2, x3, x4, rfl⟩ : ∃ x0 x1 x2 x3 x4, σ' = [x0, x1, x2, x3, x4] := by
      have hl : (σ'.set 1 (some (.ref a))).length = 5 := hl
      rw [List.length_set] at hl
      match σ', hl with
      | [x0, x1, x2, x3, x4], _ => exact ⟨x0, x1, x2, x3, x4, rfl⟩
    clear hl
    refine ⟨_, rfl, He.ga X.K D, _, _, decide (0 = j), rfl, rfl, ek.ex, rfl, (fun _ h => h), ek.kd ("InvalidTick", 0) (by decide +kernel), _, rfl, He.ga X.K D, _, _, decide (1 = j), rfl, rfl, ek.ex, rfl, (fun _ h => h), ek.kd ("InvalidNumber", 1) (by decide +kernel), _, rfl, He.ga X.K D, _, _, decide (2 = j), rfl, rfl, ek.ex, rfl, (fun _ h => h), ek.kd ("UnknownSign", 2) (by decide +kernel), (by show 3 ≤ sizeLine; decide), fun p1 np1 => ?_⟩
    have s1 := sameUpd (o := .lst [.bl (decide (0 = j)), .bl (decide (1 = j)), .bl (decide (2 = j))]) (Same.refl H') np1
    have hp1 := @upd_same H' p1 (.lst [.bl (decide (0 = j)), .bl (decide (1 = j)), .bl (decide (2 = j))])
    generalize upd H' p1 (.lst [.bl (decide (0 = j)), .bl (decide (1 = j)), .bl (decide (2 = j))]) = H1 at *
    refine ⟨_, rfl, _, rfl, He.ga X.K D, _, _, decide (3 = j), rfl, rfl, ek.ex, rfl, (fun _ h => h), ek.kd ("TooLong", 3) (by decide +kernel), _, rfl, He.ga X.K D, _, _, decide (4 = j), rfl, rfl, ek.ex, rfl, (fun _ h => h), ek.kd ("OtherCorridor", 4) (by decide +kernel), _, rfl, He.ga X.K D, _, _, decide (5 = j), rfl, rfl, ek.ex, rfl, (fun _ h => h), ek.kd ("Contradiction", 5) (by decide +kernel), (by show 3 ≤ sizeLine; decide), fun p2 np2 => ?_⟩
    have u0 := sameUpd (o := .lst [.bl (decide (3 = j)), .bl (decide (4 = j)), .bl (decide (5 = j))]) (Same.refl H1) np2
    have hp2 := @upd_same H1 p2 (.lst [.bl (decide (3 = j)), .bl (decide (4 = j)), .bl (decide (5 = j))])
    replace hp1 := u0 _ _ hp1
    replace s1 := s1.trans u0
    generalize upd H1 p2 (.lst [.bl (decide (3 = j)), .bl (decide (4 = j)), .bl (decide (5 = j))]) = H2 at *
    refine ⟨p1, p2, _, _, rfl, rfl, hp1, hp2, (by show 6 ≤ sizeLine; decide), fun p3 np3 => ?_⟩
    have u1 := sameUpd (o := .lst ([.bl (decide (0 = j)), .bl (decide (1 = j)), .bl (decide (2 = j))] ++ [.bl (decide (3 = j)), .bl (decide (4 = j)), .bl (decide (5 = j))])) (Same.refl H2) np3
    have hp3 := @upd_same H2 p3 (.lst ([.bl (decide (0 = j)), .bl (decide (1 = j)), .bl (decide (2 = j))] ++ [.bl (decide (3 = j)), .bl (decide (4 = j)), .bl (decide (5 = j))]))
    replace s1 := s1.trans u1
    generalize upd H2 p3 (.lst ([.bl (decide (0 = j)), .bl (decide (1 = j)), .bl (decide (2 = j))] ++ [.bl (decide (3 = j)), .bl (decide (4 = j)), .bl (decide (5 = j))])) = H3 at *
    refine ⟨_, rfl, _, rfl, He.ga X.K D, _, _, decide (6 = j), rfl, rfl, ek.ex, rfl, (fun _ h => h), ek.kd ("InvalidName", 6) (by decide +kernel), _, rfl, He.ga X.K D, _, _, decide (7 = j), rfl, rfl, ek.ex, rfl, (fun _ h => h), ek.kd ("UnknownName", 7) (by decide +kernel), _, rfl, He.ga X.K D, _, _, decide (8 = j), rfl, rfl, ek.ex, rfl, (fun _ h => h), ek.kd ("SyntaxFault", 8) (by decide +kernel), (by show 3 ≤ sizeLine; decide), fun p4 np4 => ?_⟩
    have u2 := sameUpd (o := .lst [.bl (decide (6 = j)), .bl (decide (7 = j)), .bl (decide (8 = j))]) (Same.refl H3) np4
    have hp4 := @upd_same H3 p4 (.lst [.bl (decide (6 = j)), .bl (decide (7 = j)), .bl (decide (8 = j))])
    replace hp3 := u2 _ _ hp3
    replace s1 := s1.trans u2
    generalize upd H3 p4 (.lst [.bl (decide (6 = j)), .bl (decide (7 = j)), .bl (decide (8 = j))]) = H4 at *
    refine ⟨p3, p4, _, _, rfl, rfl, hp3, hp4, (by show 9 ≤ sizeLine; decide), fun p5 np5 => ?_⟩
    have u3 := sameUpd (o := .lst (([.bl (decide (0 = j)), .bl (decide (1 = j)), .bl (decide (2 = j))] ++ [.bl (decide (3 = j)), .bl (decide (4 = j)), .bl (decide (5 = j))]) ++ [.bl (decide (6 = j)), .bl (decide (7 = j)), .bl (decide (8 = j))])) (Same.refl H4) np5
    have hp5 := @upd_same H4 p5 (.lst (([.bl (decide (0 = j)), .bl (decide (1 = j)), .bl (decide (2 = j))] ++ [.bl (decide (3 = j)), .bl (decide (4 = j)), .bl (decide (5 = j))]) ++ [.bl (decide (6 = j)), .bl (decide (7 = j)), .bl (decide (8 = j))]))
    replace s1 := s1.trans u3
    generalize upd H4 p5 (.lst (([.bl (decide (0 = j)), .bl (decide (1 = j)), .bl (decide (2 = j))] ++ [.bl (decide (3 = j)), .bl (decide (4 = j)), .bl (decide (5 = j))]) ++ [.bl (decide (6 = j)), .bl (decide (7 = j)), .bl (decide (8 = j))])) = H5 at *
    refine ⟨_, rfl, _, rfl, He.ga X.K D, _, _, decide (9 = j), rfl, rfl, ek.ex, rfl, (fun _ h => h), ek.kd ("CheckFault", 9) (by decide +kernel), _, rfl, He.ga X.K D, _, _, decide (10 = j), rfl, rfl, ek.ex, rfl, (fun _ h => h), ek.kd ("InvalidCode", 10) (by decide +kernel), _, rfl, He.ga X.K D, _, _, decide (11 = j), rfl, rfl, ek.ex, rfl, (fun _ h => h), ek.kd ("InvalidOperation", 11) (by decide +kernel), (by show 3 ≤ sizeLine; decide), fun p6 np6 => ?_⟩
    have u4 := sameUpd (o := .lst [.bl (decide (9 = j)), .bl (decide (10 = j)), .bl (decide (11 = j))]) (Same.refl H5) np6
    have hp6 := @upd_same H5 p6 (.lst [.bl (decide (9 = j)), .bl (decide (10 = j)), .bl (decide (11 = j))])
    replace hp5 := u4 _ _ hp5
    replace s1 := s1.trans u4
    generalize upd H5 p6 (.lst [.bl (decide (9 = j)), .bl (decide (10 = j)), .bl (decide (11 = j))]) = H6 at *
    refine ⟨p5, p6, _, _, rfl, rfl, hp5, hp6, (by show 12 ≤ sizeLine; decide), fun p7 np7 => ?_⟩
    have u5 := sameUpd (o := .lst ((([.bl (decide (0 = j)), .bl (decide (1 = j)), .bl (decide (2 = j))] ++ [.bl (decide (3 = j)), .bl (decide (4 = j)), .bl (decide (5 = j))]) ++ [.bl (decide (6 = j)), .bl (decide (7 = j)), .bl (decide (8 = j))]) ++ [.bl (decide (9 = j)), .bl (decide (10 = j)), .bl (decide (11 = j))])) (Same.refl H6) np7
    have hp7 := @upd_same H6 p7 (.lst ((([.bl (decide (0 = j)), .bl (decide (1 = j)), .bl (decide (2 = j))] ++ [.bl (decide (3 = j)), .bl (decide (4 = j)), .bl (decide (5 = j))]) ++ [.bl (decide (6 = j)), .bl (decide (7 = j)), .bl (decide (8 = j))]) ++ [.bl (decide (9 = j)), .bl (decide (10 = j)), .bl (decide (11 = j))]))
    replace s1 := s1.trans u5
    generalize upd H6 p7 (.lst ((([.bl (decide (0 = j)), .bl (decide (1 = j)), .bl (decide (2 = j))] ++ [.bl (decide (3 = j)), .bl (decide (4 = j)), .bl (decide (5 = j))]) ++ [.bl (decide (6 = j)), .bl (decide (7 = j)), .bl (decide (8 = j))]) ++ [.bl (decide (9 = j)), .bl (decide (10 = j)), .bl (decide (11 = j))])) = H7 at *
    have hk : H7 p7 = some (.lst ((bsJ j).map V.bl)) := hp7
    have hj12 : j < 12 := by omega
    refine ⟨_, rfl, .inl ⟨rfl, _, SqL.of hk⟩, p7, bsJ j, rfl, rfl, SqL.of hk, ?_⟩
    rw [bs_count hj12]
    refine ⟨rfl, false, rfl, iteF ?_⟩
    refine ⟨_, rfl, He.ga X.K D, _, _, true, rfl, rfl, ek.ex, rfl, (fun _ h => h), ek.ve, _, rfl, ?_⟩
    refine ⟨(by show 10 ≤ sizeLine; decide), fun p8 np8 => ?_⟩
    have u6 := sameUpd (o := .lst [.str "tick", .str "number", .str "sign", .str "long", .str "other", .str "contradiction", .str "name", .str "unknown", .str "syntax", .str "check"]) (Same.refl H7) np8
    have hp8 := @upd_same H7 p8 (.lst [.str "tick", .str "number", .str "sign", .str "long", .str "other", .str "contradiction", .str "name", .str "unknown", .str "syntax", .str "check"])
    replace hk := u6 _ _ hk
    replace s1 := s1.trans u6
    generalize upd H7 p8 (.lst [.str "tick", .str "number", .str "sign", .str "long", .str "other", .str "contradiction", .str "name", .str "unknown", .str "syntax", .str "check"]) = H8 at *
    refine ⟨_, rfl, (by show 2 ≤ sizeLine; decide), fun p9 np9 => ?_⟩
    have u7 := sameUpd (o := .lst [.str "code", .str "operation"]) (Same.refl H8) np9
    have hp9 := @upd_same H8 p9 (.lst [.str "code", .str "operation"])
    replace hk := u7 _ _ hk
    replace hp8 := u7 _ _ hp8
    replace s1 := s1.trans u7
    generalize upd H8 p9 (.lst [.str "code", .str "operation"]) = H9 at *
    refine ⟨p8, p9, _, _, rfl, rfl, hp8, hp9, (by show 12 ≤ sizeLine; decide), fun p10 np10 => ?_⟩
    have u8 := sameUpd (o := .lst ([.str "tick", .str "number", .str "sign", .str "long", .str "other", .str "contradiction", .str "name", .str "unknown", .str "syntax", .str "check"] ++ [.str "code", .str "operation"])) (Same.refl H9) np10
    have hp10 := @upd_same H9 p10 (.lst ([.str "tick", .str "number", .str "sign", .str "long", .str "other", .str "contradiction", .str "name", .str "unknown", .str "syntax", .str "check"] ++ [.str "code", .str "operation"]))
    replace hk := u8 _ _ hk
    replace s1 := s1.trans u8
    generalize upd H9 p10 (.lst ([.str "tick", .str "number", .str "sign", .str "long", .str "other", .str "contradiction", .str "name", .str "unknown", .str "syntax", .str "check"] ++ [.str "code", .str "operation"])) = H10 at *
    obtain ⟨b1, b2⟩ := bs_at hj12
    refine ⟨_, rfl, .inl ⟨rfl, _, SqL.of hk⟩, p7, _, _, j, .bl true, rfl, rfl, SqL.of hk, rfl, rfl, b1, rfl, b2, p10, _, _, _, rfl, rfl, SqL.of hp10, atI_nat (wordV hz), ?_⟩
    obtain ⟨w1, w2⟩ := word_out hj hz
    refine ⟨_, rfl, (by show 2 ≤ sizeLine; decide), fun p11 np11 => ?_⟩
    have u9 := sameUpd (o := .lst [.str "syntax", .str "check"]) (Same.refl H10) np11
    have hp11 := @upd_same H10 p11 (.lst [.str "syntax", .str "check"])
    replace s1 := s1.trans u9
    generalize upd H10 p11 (.lst [.str "syntax", .str "check"]) = H11 at *
    refine ⟨p11, _, rfl, .inl (SqL.of hp11), rfl, rfl, false, congrArg V.bl w1, iteF ?_⟩
    refine ⟨_, rfl, _, rfl, (by show 2 ≤ sizeLine; decide), fun p12 np12 => ?_⟩
    have u10 := sameUpd (o := .lst [.str "code", .str "operation"]) (Same.refl H11) np12
    have hp12 := @upd_same H11 p12 (.lst [.str "code", .str "operation"])
    replace s1 := s1.trans u10
    generalize upd H11 p12 (.lst [.str "code", .str "operation"]) = H12 at *
    refine ⟨p12, _, rfl, .inl (SqL.of hp12), rfl, rfl, false, congrArg V.bl w2, iteF ?_⟩
    exact ⟨(by show 2 ≤ sizeLine; decide), fun t nt => kq t _ (s1.trans (sameUpd (Same.refl _) nt)) upd_same⟩
end
end Sw

end

section
set_option maxRecDepth 100000
set_option maxHeartbeats 4000000
/-! a lambda with parameters, handed to a method that calls it: its object is tracked, what it captured lies in a larger base -/
namespace SwA
open PySem PySem.Spec PyProof.Rows L2 LamX NdefX
/-- the object at f is the lambda F, its body e -/
def LamO (f : Addr) (F : NF) (e : Expr) : HO := .ext fun h => ∃ (od : Option Addr) (sl : Array (Option Value)) (pm ctv : Value), h.get? f = some (⟨.type "function", od, .func (PySem.W.kla_fn F.name F.qual F.params e F.scope F.cl pm (.ref F.c) ctv), sl⟩ : Obj)
theorem lamO_ne {f : Addr} {F : NF} {e : Expr} (ps : Array Value) : LamO f F e ≠ .tbl ps := fun z => by
  unfold LamO at z
  cases z
theorem lamO_at {P : Program} {w : World} {H : Hp} {h : Heap} {f : Addr} {F : NF} {e : Expr} (hok : HOk P w H h) (q : H f = some (LamO f F e)) :
    ∃ (od : Option Addr) (sl : Array (Option Value)) (pm ctv : Value), h.get? f = some (⟨.type "function", od, .func (PySem.W.kla_fn F.name F.qual F.params e F.scope F.cl pm (.ref F.c) ctv), sl⟩ : Obj) := (hok f _ q).1
section
variable {X : Cx} {pins : List (Addr × Obj)} {σ : L2.St} {H : Hp} {s : Shared}
theorem inv_lam {F : NF} {e : Expr} {o : Obj} {tk : Nat} {pm ctv : Value} (I : Inv X pins σ H s) (ho : o = PySem.W.kla_obj F.name F.qual F.params e F.scope F.cl pm F.c ctv) :
    Inv X pins σ (upd H s.heap.objs.size (LamO s.heap.objs.size F e)) { s with heap := s.heap.push o, toks := tk } := by
  have g : (s.heap.push o).get? s.heap.objs.size = some o := Heap.get?_push_size _ (by rw [ho]; rfl)
  refine I.laid (a := s.heap.objs.size) (fun b u q => Heap.get?_push_of_some _ q) (Nat.le_refl _) ⟨⟨none, #[], pm, ctv, ?_⟩, ⟨o, g⟩, fun h1 h2 z st => ?_⟩
  · rw [g, ho]
  · obtain ⟨a, b, c, d, z⟩ := z
    exact ⟨a, b, c, d, st _ z⟩
abbrev mkL (X : Cx) (params : Arguments) (scope : Scope) (c' : Addr) : NF := ⟨"<lambda>", X.env.qual ++ "<lambda>", params, [], scope, cloFrom X.env.cells scope.names [], c'⟩
theorem lam_track {T : List (Addr × Str)} {c P : Addr} {params : Arguments} {body : Expr} {scope : Scope} {pos : Pos} {E Q : Value → Shared → Prop} (I : Inv X pins σ H s) (TB : TabB X.base X.mg c P) (hcode : X.env.code = .ref c)
    (hm : (P, X.env.qual ++ "<lambda>") ∈ T) (hu : ∀ p ∈ T, p.1 = P → p.2 = X.env.qual ++ "<lambda>") (hT : Tabs T H) (hdef : defaultsOf params X.env = ([], [])) (hfree : ∀ y ∈ scope.names, y.2 = .free → ∃ c, X.env.cells.lookup y.1 = some c)
    (h : ∀ (f c' : Addr) (H1 : Hp) (s' : Shared), Inv X pins σ H1 s' → ExtN H H1 → Tabs T H1 → H f = none → H1 f = some (LamO f (mkL X params scope c') body) → H1 c' = some (CodeO c' (X.env.qual ++ "<lambda>")) → Q (.ref f) s') :
    wpAny (model X.prog X.w) X.A (eval (.Lambda params body scope pos) X.env) Q E s := by
  obtain ⟨ps, hP, ht, ha⟩ := hT _ hm
  have bP := TB.bm.keeps I.bk
  have gP : s.heap.get? P = some { cls := .none, data := .fields ps } := I.hok P _ hP
  refine PySem.W.kla_eval hdef ?_
  -- the end: the function's object is tracked
  have fin : ∀ (H1 : Hp) (h1 : Heap) (t1 tk : Nat) (c' : Addr) (ctv : Value), Inv X pins σ H1 { s with heap := h1, toks := t1 } → ExtN H H1 → Tabs T H1 → H1 c' = some (CodeO c' (X.env.qual ++ "<lambda>")) → s.heap.objs.size ≤ h1.objs.size →
      Q (.ref h1.objs.size) { s with heap := h1.push (PySem.W.kla_obj "<lambda>" (X.env.qual ++ "<lambda>") params body scope (cloFrom X.env.cells scope.names []) ((X.mg "__name__").getD .none) c' ctv), toks := tk } := fun H1 h1 t1 tk c' ctv I1 e1 T1 hc hz => by
    have n1 : H1 h1.objs.size = none := I1.hok.fresh (Nat.le_refl _)
    have I2 := inv_lam (F := mkL X params scope c') (e := body) (tk := tk) (pm := (X.mg "__name__").getD .none) (ctv := ctv) I1 rfl
    have up : ∀ b o, H1 b = some o → upd H1 h1.objs.size (LamO h1.objs.size (mkL X params scope c') body) b = some o := fun b o q => (upd_ne (ne_of_none q n1)).trans q
    exact h h1.objs.size c' _ _ I2 (fun b o q n => up b o (e1 b o q n)) (T1.ext up) (I.hok.fresh hz) upd_same (up _ _ hc)
  cases hc : codeAmong pos ps.toList with
  | some cv =>
    obtain ⟨c', e, hco⟩ := ha pos cv hc
    subst e
    exact PySem.W.kla_makeFunctionHit (mg := X.mg) (c := c) (P := P) (ps := ps) (closure_ok hfree) I.ok.glob (I.mod.glob.keeps I.bk) hcode (TB.code.keeps I.bk) gP ht hc bP fun ctv h' tk hx hz =>
      fin H h' tk tk c' ctv (I.kept hx) (ExtN.refl H) hT hco hz
  | none =>
    refine PySem.W.kla_makeFunction (mg := X.mg) (c := c) (P := P) (ps := ps) (closure_ok hfree) I.ok.glob (I.mod.glob.keeps I.bk) hcode (TB.code.keeps I.bk) gP ht hc TB.gP bP fun c' ctv h' tk hx hge hlt hrec htb => ?_
    obtain ⟨c2, oc, vs, t, e2, r⟩ := hrec
    cases e2
    have nC : H c' = none := I.hok.fresh hge
    have I1 := inv_table (t' := tk) (more := #[rawInt pos.line, rawInt pos.col, .ref c']) (h' := h') (q := X.env.qual ++ "<lambda>") I hP (fun b o nb q => hx b o nb q) htb hge ⟨oc, vs, t, r⟩
    have up : ExtN H (upd (upd H P (.tbl (ps ++ #[rawInt pos.line, rawInt pos.col, .ref c']))) c' (CodeO c' (X.env.qual ++ "<lambda>"))) := fun b o q n =>
      (upd_ne (ne_of_none q nC)).trans ((upd_ne fun (z : b = P) => n ps (Option.some.inj (q.symm.trans (by rw [z]; exact hP)))).trans q)
    refine fin _ h' tk tk c' ctv I1 up (fun p hp => ?_) upd_same (Nat.le_trans hge (Nat.le_of_lt hlt))
    by_cases hb : p.1 = P
    · have eL : (ps ++ #[rawInt pos.line, rawInt pos.col, .ref c']).toList = ps.toList ++ [rawInt pos.line, rawInt pos.col, .ref c'] := by simp
      rw [hu p hp hb, hb]
      refine ⟨_, (upd_ne (ne_of_none hP nC)).trans upd_same, eL ▸ PySem.TriplesOk_snoc _ _ _ _ ht, fun p' cv hcv => ?_⟩
      rcases among_app _ ht (eL ▸ hcv) with z | z
      · obtain ⟨c0, z1, z2⟩ := ha p' cv z
        exact ⟨c0, z1, up _ _ z2 codeO_ne⟩
      · exact ⟨c', z, upd_same⟩
    · obtain ⟨qs, a1, a2, a3⟩ := hT p hp
      refine ⟨qs, (upd_ne (ne_of_none a1 nC)).trans ((upd_ne hb).trans a1), a2, fun p' cv hcv => ?_⟩
      obtain ⟨c0, z1, z2⟩ := a3 p' cv hcv
      exact ⟨c0, z1, up _ _ z2 codeO_ne⟩
end
/-- the reading of a lambda: a new function that is known from now on -/
def tLamT (T : List (Addr × Str)) (mk : Addr → NF) (e : Expr) : TE := fun σ H Q => Tabs T H ∧ ∀ (f c' : Addr) (H1 : Hp), ExtN H H1 → Tabs T H1 → H f = none → H1 f = some (LamO f (mk c') e) → H1 c' = some (CodeO c' (mk c').qual) → Q (.ref f) H1
theorem pe_lamT {X : Cx} {T : List (Addr × Str)} {c P : Addr} {params : Arguments} {body : Expr} {scope : Scope} {pos : Pos} (TB : TabB X.base X.mg c P) (hcode : X.env.code = .ref c) (hm : (P, X.env.qual ++ "<lambda>") ∈ T) (hu : ∀ p ∈ T, p.1 = P → p.2 = X.env.qual ++ "<lambda>")
    (hdef : defaultsOf params X.env = ([], [])) (hfree : ∀ y ∈ scope.names, y.2 = .free → X.env.scope.names.lookup y.1 = some .cell ∨ X.env.scope.names.lookup y.1 = some .free) : PE X (.Lambda params body scope pos) (tLamT T (mkL X params scope) body) :=
  ⟨fun pins s σ H Q I ⟨hT, h⟩ => lam_track I TB hcode hm hu hT hdef (fun y hy e => (hfree y hy e).elim (fun z => I.ok.has _ (.inl z)) fun z => I.ok.has _ (.inr z)) fun f c' H1 s' I1 e1 T1 n f1 c1 => ⟨.ref f, H1, I1, rfl, h f c' H1 e1 T1 n f1 c1⟩⟩
/-- what the function at f promises while G stands -/
structure VOk (P : Program) (w : World) (K : PySem.W.Frag) (mg : Str → Option Value) (base : Heap) (CX : CXT) (k : Nat) (f : Addr) (G : Hp → Prop) (sp : Sp) : Prop where
  isf : ∀ {H : Hp} {h : Heap}, HOk P w H h → G H → PySem.W.FnAt f h
  run : ∀ (A : Around) (outer : List Env) (s : Shared) (H : Hp) (us : List Value) (vs : List V) (Q : VK) (E : XK), Room k A → Env0 P w K mg base A outer s H → G H → Vals vs us → sp vs H Q E → codeAny (model P w) A (.call (.ref f) ⟨us, []⟩) (CR CX outer P w H s Q E) s
abbrev gLam (f : Addr) (F : NF) (e : Expr) : Hp → Prop := fun H => H f = some (LamO f F e) ∧ H F.c = some (CodeO F.c F.qual)
section
variable {CX : CXT} {P : Program} {w : World} {K : PySem.W.Frag} {mg : Str → Option Value} {base : Heap} {N ps fr : List Str} {F : NF} {f : Addr} {e : Expr} {k j : Nat} {sp : Sp} {ws : List (Option V)}
theorem cells_base {cl : List (Str × Addr)} {h : Heap} {H : Hp} (C : CellsAt cl fr ws base fun _ => none) (hb : ∀ b o, base.get? b = some o → h.get? b = some o ∧ H b = none) : CellsAt cl fr ws h H := by
  have kp : ∀ {c : Addr} {v : Option Value}, base.IsCell c v → h.IsCell c v ∧ H c = none := fun ⟨o, ho, hd⟩ => ⟨⟨o, (hb _ _ ho).1, hd⟩, (hb _ _ ho).2⟩
  refine ⟨C.len, fun y c q => ?_, C.inj, fun i y q => ?_⟩
  · obtain ⟨_, v, z⟩ := C.all y c q
    exact ⟨(kp z).2, v, (kp z).1⟩
  · obtain ⟨c, hc, hv⟩ := C.has i y q
    refine ⟨c, hc, fun v ev => ?_⟩
    obtain ⟨u, r, z⟩ := hv v ev
    exact ⟨u, r, (kp z).1⟩
/-- a lambda by its body, what it captured lies in the base -/
theorem vok_lam (S : NScope N ps fr F.scope) (hbind : ∀ (pm ctv : Value) (us : List Value), us.length = ps.length → bindArgs (PySem.W.kla_fn F.name F.qual F.params e F.scope F.cl pm (.ref F.c) ctv) ⟨us, []⟩ = pure (ps.zip us)) (C : CellsAt F.cl fr ws base fun _ => none)
    (len : ∀ vs H Q E, sp vs H Q E → vs.length = ps.length)
    (hbody : ∀ (A : Around) (outer : List Env) (s : Shared) (H : Hp) (vs : List V) (Q : VK) (E : XK), Room k (A.deeper (envF F f s.heap.objs.size)) → sp vs H Q E → ∃ t, PE (ncx CX P w K mg base N F f A outer s H E) e t ∧ t (startF N vs ws) H Q) :
    VOk P w K mg base CX (k + 1) f (gLam f F e) sp := by
  refine ⟨fun hok ⟨g, _⟩ => ?_, fun A outer s H us vs Q E hr e0 ⟨hf, hc⟩ r hsp => ?_⟩
  · obtain ⟨od, sl, pm, ctv, z⟩ := lamO_at hok g
    exact ⟨_, od, _, sl, z⟩
  have hl := len _ _ _ _ hsp
  obtain ⟨od, sl, pm, ctv, ho⟩ := lamO_at e0.hok hf
  refine PySem.W.kla_callFunE hr.depth ho rfl S.co S.gen rfl (codeO_at e0.hok hc) ?_
  rw [hbind pm ctv us (by rw [← r.length]; exact hl)]
  have lim : s.heap.NoLimit := e0.mod.nolimit.keeps fun b o q => (e0.bs b o q).1
  refine wpAny_pure (wpAny_newFunctionEnv S.nocell (fun ⟨n, _⟩ hy => S.par n (List.of_mem_zip hy).1) (fun h₁ hns hsb => ⟨lim.fresh _ hsb, ?_⟩) S.kind)
  show codeAny _ _ (.expr e (envF F f s.heap.objs.size)) _ _
  have kp : ∀ b o, s.heap.get? b = some o → h₁.get? b = some o := fun b o q => hsb.extBut b o (Nat.ne_of_lt (Heap.lt_size q)) (Heap.get?_push_of_some _ q)
  obtain ⟨t, ht, hq⟩ := hbody A outer s H vs Q E (hr.deeper _) hsp
  have J := inv_startN (CX := CX) (E := E) (f := f) (tk := s.toks + (ps.zip us).length) S hr.hd e0 hl r (cells_base C e0.bs) hns kp
  refine PySem.W.kla_codeExpr (wpAny_mono (ht.run [] _ (startF N vs ws) H Q J hq) (fun v s' z => ?_) fun _ _ z => z)
  obtain ⟨x, H', J', rv, q⟩ := z
  exact ⟨x, H', J'.os, J'.bare, J'.base, J'.hok, rv, q⟩
end
/-- x(..), x a name that holds the function at f -/
def tCallVal (f : Addr) (G : Hp → Prop) (i : Nat) (sp : Sp) (E : XK) (t : TA) : TE := fun σ H Q => σ[i]? = some (some (.ref f)) ∧ G H ∧ t σ H fun vs H1 => G H1 ∧ sp vs H1 Q E
section
variable {X : Cx} {CX : CXT} {i j k : Nat} {x : Str} {f : Addr} {G : Hp → Prop} {sp : Sp} {E : XK} {t : TA} {e : Expr} {es : List Expr} {p pos apos : Pos}
theorem run_val {pins : List (Addr × Obj)} {σ : L2.St} {H : Hp} {s : Shared} {Q : VK} {us : List Value} {vs : List V} (V : VOk X.prog X.w X.K X.mg X.base CX k f G sp) (hr : Room k X.A) (hx : Passes CX X E) (I : Inv X pins σ H s) (g : G H) (r : Vals vs us) (q : sp vs H Q E) :
    wpAny (model X.prog X.w) X.A (call (.ref f) us) (EP X pins σ Q) X.xe s := by
  refine wpAny_call (codeAny_mono (V.run X.A X.stack s H us vs Q E hr I.env0 g r q) fun r s' hq => ?_)
  match r, hq with
  | .error e, hq => exact hx pins σ H s e s' I hq
  | .ok (.ret u), hq => exact I.after hq
theorem pe_callVal (V : VOk X.prog X.w X.K X.mg X.base CX k f G sp) (hr : Room k X.A) (hx : Passes CX X E) (hN : X.N[i]? = some x) (hv : Vis X.env.scope x) (ha : PA X (e :: es) t)
    (hd : (x == ("__debug__" : Str)) = false := by decide) (hcd : (x == ("__classdict__" : Str)) = false := by decide)
    (he : starEach (e :: es) X.env = (false, eval e X.env) :: starEach es X.env := by rfl) (hpl : (backTo pos (starEach es X.env)).any (·.1) = false := by rfl) :
    PE X (.Call (.Name x p) (e :: es) [] pos) (tCallVal f G i sp E t) := by
  refine ⟨fun pins s σ H Q I ⟨hs, g, ht⟩ => ?_⟩
  refine wpAny_Call_Name_kw (thn ((pe_var (pos := p) hN hv hd hcd).run pins s σ H (fun v H1 => v = .ref f ∧ H1 = H) I ⟨.ref f, hs, rfl, rfl⟩) fun u s1 ⟨v, H1, I1, r1, ev, eH⟩ => ?_)
  subst ev eH
  obtain rfl : u = Value.ref f := r1
  exact PySem.W.callWith_F (first := []) (V.isf I1.hok g) (thn (ha.run pos pins s1 σ _ _ I1 ht) fun us s2 ⟨vs, H2, I2, r, g2, q⟩ => ⟨V.isf I2.hok g2, run_val V hr hx I2 g2 r q⟩) he hpl
end
/-! a method whose argument reads cells of the running def: the base grows by all that is not tracked -/
theorem frames_base {h base base' : Heap} : ∀ {l : List Env}, (∀ b ∈ frs l, base'.get? b = none) → h.FunFrames base l → h.FunFrames base' l
  | [], _, _ => trivial
  | env :: r, hn, ⟨hk, ⟨L, o, hf, _, ho⟩, hr⟩ => by
    have e : frs (env :: r) = L :: frs r := by
      unfold frs
      rw [List.filterMap_cons, hf]
    rw [e] at hn
    exact ⟨hk, ⟨L, o, hf, hn L List.mem_cons_self, ho⟩, frames_base (fun b hb => hn b (List.mem_cons_of_mem _ hb)) hr⟩
section
variable {X : Cx} {CX : CXT} {k : Nat} {C g : Addr} {fd : FuncData} {ps : List Str} {E : XK} {m : Str} {p pos apos : Pos} {z o : Expr} {zs : List Expr} {ta : TE} {t : TA} {cl : List (Str × Addr)} {fr : List Str} {js : List Nat} {ws : List (Option V)}
theorem run_lent {pins : List (Addr × Obj)} {σ : L2.St} {H : Hp} {s : Shared} {Q : VK} {us : List Value} {vs : List V} {sp : Sp} (I : Inv X pins σ H s) (hfn : ∀ y, X.fn y = true) (hcl : ∀ y c, cl.lookup y = some c → X.env.cells.lookup y = some c) (Cs : CellsAt cl fr ws s.heap H)
    (F : ∀ base' : Heap, (∀ b ob, X.base.get? b = some ob → base'.get? b = some ob) → (CellsAt cl fr ws base' fun _ => none) → FnOk X.prog X.w X.K X.mg base' CX k g fd ps sp) (hr : Room k X.A) (hb : L2.Binds X.K fd ps []) (hx : Passes CX X E) (r : Vals vs us) (h : sp vs H Q E) :
    wpAny (model X.prog X.w) X.A (call (.ref g) us) (EP X pins σ Q) X.xe s := by
  obtain ⟨B, hB⟩ : ∃ B, B = PySem.W.hideAll s.heap (trk s.heap H ++ frs X.stack) := ⟨_, rfl⟩
  have hid : ∀ b, b ∈ trk s.heap H ++ frs X.stack → B.get? b = none := fun b hb => hB ▸ PySem.W.hideAll_none _ hb
  have ofB : ∀ b ob, B.get? b = some ob → s.heap.get? b = some ob ∧ H b = none := fun b ob q => by
    have q' : s.heap.get? b = some ob := PySem.W.of_hideAll _ (hB ▸ q)
    refine ⟨q', ?_⟩
    cases hz : H b with
    | none => rfl
    | some u =>
      have := hid b (List.mem_append_left _ (List.mem_filter.mpr ⟨List.mem_range.mpr (Heap.lt_size q'), by rw [hz]; rfl⟩))
      rw [this] at q
      cases q
  have toB : ∀ b ob, s.heap.get? b = some ob → H b = none → b ∉ frs X.stack → B.get? b = some ob := fun b ob q n nf => by
    rw [hB]
    refine PySem.W.hideAll_get _ q fun hm => ?_
    rcases List.mem_append.mp hm with z | z
    · have z2 := (List.mem_filter.mp z).2
      rw [n] at z2
      cases z2
    · exact nf z
  have kb : ∀ b ob, X.base.get? b = some ob → B.get? b = some ob := fun b ob q => toB b ob (I.bs b ob q).1 (I.bs b ob q).2 fun z => by
    have := (I.stack.mem z).1
    rw [q] at this
    cases this
  have nfr : ∀ y c, cl.lookup y = some c → c ∉ frs X.stack := fun y c q z => by
    have qe := hcl y c q
    rcases List.mem_cons.mp (I.stkSub c z) with z | z
    · exact I.cne y c qe z
    · obtain ⟨_, ob, ho, _⟩ := I.ok.funs.mem z
      exact absurd (Nat.lt_of_lt_of_le (Heap.lt_size ho) (I.ok.cab y c (hfn y) qe)) (Nat.lt_irrefl _)
  have cB : CellsAt cl fr ws B fun _ => none := by
    have kc : ∀ {y c} {v : Option Value}, cl.lookup y = some c → s.heap.IsCell c v → B.IsCell c v := fun {y c v} q ⟨ob, ho, hd⟩ => ⟨ob, toB c ob ho (Cs.all y c q).1 (nfr y c q), hd⟩
    refine ⟨Cs.len, fun y c q => ?_, Cs.inj, fun i y q => ?_⟩
    · obtain ⟨_, v, z⟩ := Cs.all y c q
      exact ⟨rfl, v, kc q z⟩
    · obtain ⟨c, hc, hv⟩ := Cs.has i y q
      refine ⟨c, hc, fun v ev => ?_⟩
      obtain ⟨u, ru, z⟩ := hv v ev
      exact ⟨u, ru, kc hc z⟩
  have M : Mod X.K X.mg B := ⟨I.mod.kin.keeps kb, I.mod.glob.keeps kb, let ⟨mb, h1, h2⟩ := I.mod.blt; ⟨mb, h1.keeps kb, h2⟩, I.mod.nolimit.keeps kb⟩
  have e0 : Env0 X.prog X.w X.K X.mg B X.A X.stack s H := ⟨I.ok.frames, M, ofB, Nat.le_of_eq (by rw [hB, PySem.W.hideAll_size]), frames_base (fun b hb => hid b (List.mem_append_right _ hb)) I.stack, I.stkFree, I.hok, I.bare⟩
  have Fn := F B kb cB
  have hl : (us ++ []).length = ps.length := by
    rw [List.append_nil, ← r.length]
    exact Fn.len _ _ _ _ h
  have hb2 := hb s us I.kIn hl
  rw [List.append_nil] at hb2
  refine wpAny_call (codeAny_mono (Fn.run X.A X.stack s H ⟨us, []⟩ us vs Q E hr e0 hb2 r h) fun r s' hq => ?_)
  match r, hq with
  | .error e, hq => exact hx pins σ H s e s' I hq
  | .ok (.ret u), hq => exact I.after hq
/-- o.m(e, ..), one of the arguments a lambda that was just made -/
def tMethB (C : Addr) (m : Str) (sp : Addr → Addr → List (Option V) → Sp) (js : List Nat) (E : XK) (ta : TE) (t : TA) : TE := fun σ H Q => ta σ H fun x H1 => ∃ a dx fs, x = .ref a ∧ H1 a = some (.ins C dx fs) ∧ fs.lookup m = none ∧
  t σ H1 fun vs H2 => ∃ f c', sp f c' (js.map (slotAt σ)) (x :: vs) H2 Q E
theorem pe_methB {pl : Sem Bool} {sp : Addr → Addr → List (Option V) → Sp} (hfn : ∀ y, X.fn y = true) (he : PE X o ta) (c : Cls X.K C) (hm : Meth X.K C m g) (cp : X.Ok → NdefX.Caps X cl fr js)
    (F : ∀ (f c' : Addr) (ws : List (Option V)) (base' : Heap), (∀ b ob, X.base.get? b = some ob → base'.get? b = some ob) → (CellsAt cl fr ws base' fun _ => none) → FnOk X.prog X.w X.K X.mg base' CX k g fd ps (sp f c' ws))
    (hr : Room k X.A) (hb : L2.Binds X.K fd ps []) (hx : Passes CX X E) (ha : PA X (z :: zs) t)
    (hst : starEach (z :: zs) X.env = (false, eval z X.env) :: starEach zs X.env := by rfl)
    (hpl : (backTo pos (starEach zs X.env)).any (·.1) = false := by rfl)
    (ht : eval (.Call (.Attribute o m apos) (z :: zs) [] pos) X.env = (do let ov ← eval o X.env; standAt apos.atName; let (f, first) ← holding [ov] (getMethod ov m pl); callWith pos f first (backTo pos (starEach (z :: zs) X.env)) (backToKw pos (keywordEach [] X.env))) := by rfl) :
    PE X (.Call (.Attribute o m apos) (z :: zs) [] pos) (tMethB C m sp js E ta t) := by
  refine ⟨fun pins s σ H Q I h => ?_⟩
  refine PySem.W.methodCall_KW (pl := pl) (thn (he.run pins s σ H _ I h) fun u s1 ⟨x, H1, I1, rx, a, dx, fs, ex, ea, l, q⟩ => by
    subst ex
    cases (show u = Value.ref a from rx)
    refine getmeth_ok I1 ea c hm l (PySem.W.callWith_K (first := [.ref a]) (h₀ := X.base) I.ok.mod.kin hm.kp (thn (ha.run pos pins s1 σ H1 _ I1 q) fun us s2 ⟨vs, H2, I2, r, f, c', q2⟩ => ⟨I2.kIn, ?_⟩) hst hpl)
    exact run_lent (us := .ref a :: us) (vs := .ref a :: vs) I2 hfn (cp I2.ok).sub (cells_of I2 (cp I2.ok)) (F f c' _) hr hb hx (.cons rfl r) q2) ht
end
end SwA

end

section
set_option maxRecDepth 100000
set_option maxHeartbeats 4000000
/-! lambdas without parameters or with one that has a default, laid in lists and called by other defs -/
namespace SwA
open PySem PySem.Spec PyProof.Rows L2 LamX NdefX
/-- the object at f is the lambda F, its body e, its defaults dV -/
def LamV (f : Addr) (F : NF) (e : Expr) (dV : Value) : HO := .ext fun h => ∃ (od : Option Addr) (sl : Array (Option Value)) (doc pm ctv : Value), h.get? f = some (⟨.type "function", od, .func (PySem.W.kdv_fn F.name F.qual F.params (.expr e) F.scope F.cl dV doc pm (.ref F.c) ctv), sl⟩ : Obj)
theorem lamV_ne {f : Addr} {F : NF} {e : Expr} {dV : Value} (ps : Array Value) : LamV f F e dV ≠ .tbl ps := fun z => by
  unfold LamV at z
  cases z
theorem lamV_at {P : Program} {w : World} {H : Hp} {h : Heap} {f : Addr} {F : NF} {e : Expr} {dV : Value} (hok : HOk P w H h) (q : H f = some (LamV f F e dV)) :
    ∃ (od : Option Addr) (sl : Array (Option Value)) (doc pm ctv : Value), h.get? f = some (⟨.type "function", od, .func (PySem.W.kdv_fn F.name F.qual F.params (.expr e) F.scope F.cl dV doc pm (.ref F.c) ctv), sl⟩ : Obj) := (hok f _ q).1
section
variable {X : Cx} {pins : List (Addr × Obj)} {σ : L2.St} {H : Hp} {s : Shared}
theorem inv_lamV {F : NF} {e : Expr} {dV : Value} {o : Obj} {tk : Nat} {doc pm ctv : Value} (I : Inv X pins σ H s) (ho : o = PySem.W.kdv_obj F.name F.qual F.params (.expr e) F.scope F.cl dV doc pm F.c ctv) :
    Inv X pins σ (upd H s.heap.objs.size (LamV s.heap.objs.size F e dV)) { s with heap := s.heap.push o, toks := tk } := by
  have g : (s.heap.push o).get? s.heap.objs.size = some o := Heap.get?_push_size _ (by rw [ho]; rfl)
  refine I.laid (a := s.heap.objs.size) (fun b u q => Heap.get?_push_of_some _ q) (Nat.le_refl _) ⟨⟨none, #[], doc, pm, ctv, ?_⟩, ⟨o, g⟩, fun h1 h2 z st => ?_⟩
  · rw [g, ho]
  · obtain ⟨a, b, c, d, e, z⟩ := z
    exact ⟨a, b, c, d, e, st _ z⟩
/-- the function is made: its object is known from now on -/
theorem tail_track {T : List (Addr × Str)} {c P : Addr} {params : Arguments} {body : Expr} {scope : Scope} {dV : Value} {pos : Pos} {E Q : Value → Shared → Prop} (I : Inv X pins σ H s) (TB : TabB X.base X.mg c P) (hcode : X.env.code = .ref c)
    (hm : (P, X.env.qual ++ "<lambda>") ∈ T) (hu : ∀ p ∈ T, p.1 = P → p.2 = X.env.qual ++ "<lambda>") (hT : Tabs T H) (hfree : ∀ y ∈ scope.names, y.2 = .free → ∃ c, X.env.cells.lookup y.1 = some c)
    (h : ∀ (f c' : Addr) (H1 : Hp) (s' : Shared), Inv X pins σ H1 s' → ExtN H H1 → Tabs T H1 → H f = none → H1 f = some (LamV f (mkL X params scope c') body dV) → H1 c' = some (CodeO c' (X.env.qual ++ "<lambda>")) → Q (.ref f) s') :
    wpAny (model X.prog X.w) X.A (makeTail "<lambda>" (X.env.qual ++ "<lambda>") params (.expr body) scope X.env dV .none none pos pos.line) Q E s := by
  obtain ⟨ps, hP, ht, ha⟩ := hT _ hm
  have bP := TB.bm.keeps I.bk
  have gP : s.heap.get? P = some { cls := .none, data := .fields ps } := I.hok P _ hP
  -- the end: the function's object is tracked
  have fin : ∀ (H1 : Hp) (h1 : Heap) (t1 tk : Nat) (c' : Addr) (doc ctv : Value), Inv X pins σ H1 { s with heap := h1, toks := t1 } → ExtN H H1 → Tabs T H1 → H1 c' = some (CodeO c' (X.env.qual ++ "<lambda>")) → s.heap.objs.size ≤ h1.objs.size →
      Q (.ref h1.objs.size) { s with heap := h1.push (PySem.W.kdv_obj "<lambda>" (X.env.qual ++ "<lambda>") params (.expr body) scope (cloFrom X.env.cells scope.names []) dV doc ((X.mg "__name__").getD .none) c' ctv), toks := tk } := fun H1 h1 t1 tk c' doc ctv I1 e1 T1 hc hz => by
    have n1 : H1 h1.objs.size = none := I1.hok.fresh (Nat.le_refl _)
    have I2 := inv_lamV (F := mkL X params scope c') (e := body) (dV := dV) (tk := tk) (doc := doc) (pm := (X.mg "__name__").getD .none) (ctv := ctv) I1 rfl
    have up : ∀ b o, H1 b = some o → upd H1 h1.objs.size (LamV h1.objs.size (mkL X params scope c') body dV) b = some o := fun b o q => (upd_ne (ne_of_none q n1)).trans q
    exact h h1.objs.size c' _ _ I2 (fun b o q n => up b o (e1 b o q n)) (T1.ext up) (I.hok.fresh hz) upd_same (up _ _ hc)
  cases hc : codeAmong pos ps.toList with
  | some cv =>
    obtain ⟨c', e, hco⟩ := ha pos cv hc
    subst e
    exact PySem.W.kdv_makeTailHit (mg := X.mg) (c := c) (P := P) (ps := ps) (closure_ok hfree) I.ok.glob (I.mod.glob.keeps I.bk) hcode (TB.code.keeps I.bk) gP ht hc bP fun ctv doc h' tk hx hz =>
      fin H h' tk tk c' doc ctv (I.kept hx) (ExtN.refl H) hT hco hz
  | none =>
    refine PySem.W.kdv_makeTail (mg := X.mg) (c := c) (P := P) (ps := ps) (closure_ok hfree) I.ok.glob (I.mod.glob.keeps I.bk) hcode (TB.code.keeps I.bk) gP ht hc TB.gP bP fun c' ctv doc h' tk hx hge hlt hrec htb => ?_
    obtain ⟨c2, oc, vs, t, e2, r⟩ := hrec
    cases e2
    have nC : H c' = none := I.hok.fresh hge
    have I1 := inv_table (t' := tk) (more := #[rawInt pos.line, rawInt pos.col, .ref c']) (h' := h') (q := X.env.qual ++ "<lambda>") I hP (fun b o nb q => hx b o nb q) htb hge ⟨oc, vs, t, r⟩
    have up : ExtN H (upd (upd H P (.tbl (ps ++ #[rawInt pos.line, rawInt pos.col, .ref c']))) c' (CodeO c' (X.env.qual ++ "<lambda>"))) := fun b o q n =>
      (upd_ne (ne_of_none q nC)).trans ((upd_ne fun (z : b = P) => n ps (Option.some.inj (q.symm.trans (by rw [z]; exact hP)))).trans q)
    refine fin _ h' tk tk c' doc ctv I1 up (fun p hp => ?_) upd_same (Nat.le_trans hge (Nat.le_of_lt hlt))
    by_cases hb : p.1 = P
    · have eL : (ps ++ #[rawInt pos.line, rawInt pos.col, .ref c']).toList = ps.toList ++ [rawInt pos.line, rawInt pos.col, .ref c'] := by simp
      rw [hu p hp hb, hb]
      refine ⟨_, (upd_ne (ne_of_none hP nC)).trans upd_same, eL ▸ PySem.TriplesOk_snoc _ _ _ _ ht, fun p' cv hcv => ?_⟩
      rcases among_app _ ht (eL ▸ hcv) with z | z
      · obtain ⟨c0, z1, z2⟩ := ha p' cv z
        exact ⟨c0, z1, up _ _ z2 codeO_ne⟩
      · exact ⟨c', z, upd_same⟩
    · obtain ⟨qs, a1, a2, a3⟩ := hT p hp
      refine ⟨qs, (upd_ne (ne_of_none a1 nC)).trans ((upd_ne hb).trans a1), a2, fun p' cv hcv => ?_⟩
      obtain ⟨c0, z1, z2⟩ := a3 p' cv hcv
      exact ⟨c0, z1, up _ _ z2 codeO_ne⟩
end
/-- the readings: a new function that is known from now on; without defaults, and with one default, the number 0 -/
def tLamV0 (T : List (Addr × Str)) (mk : Addr → NF) (e : Expr) : TE := fun σ H Q => Tabs T H ∧ ∀ (f c' : Addr) (H1 : Hp), ExtN H H1 → Tabs T H1 → H f = none → H1 f = some (LamV f (mk c') e .none) → H1 c' = some (CodeO c' (mk c').qual) → Q (.ref f) H1
def tLamV1 (T : List (Addr × Str)) (mk : Addr → NF) (e : Expr) : TE := fun σ H Q => Tabs T H ∧ ∀ (f c' t0 : Addr) (H1 : Hp), ExtN H H1 → Tabs T H1 → H f = none → H1 t0 = some (.tup [.int 0]) → H1 f = some (LamV f (mk c') e (.ref t0)) → H1 c' = some (CodeO c' (mk c').qual) → Q (.ref f) H1
theorem pe_lamV0 {X : Cx} {T : List (Addr × Str)} {c P : Addr} {params : Arguments} {body : Expr} {scope : Scope} {pos : Pos} (TB : TabB X.base X.mg c P) (hcode : X.env.code = .ref c) (hm : (P, X.env.qual ++ "<lambda>") ∈ T) (hu : ∀ p ∈ T, p.1 = P → p.2 = X.env.qual ++ "<lambda>")
    (hdef : defaultsOf params X.env = ([], [])) (hfree : ∀ y ∈ scope.names, y.2 = .free → X.env.scope.names.lookup y.1 = some .cell ∨ X.env.scope.names.lookup y.1 = some .free) : PE X (.Lambda params body scope pos) (tLamV0 T (mkL X params scope) body) := by
  refine ⟨fun pins s σ H Q I ⟨hT, h⟩ => ?_⟩
  refine PySem.W.kla_eval hdef ?_
  rw [makeFunction_eq]
  simp only [List.zip_nil_right, List.filterMap_nil, List.isEmpty_nil, if_true, pure_bind]
  exact tail_track I TB hcode hm hu hT (fun y hy e => (hfree y hy e).elim (fun z => I.ok.has _ (.inl z)) fun z => I.ok.has _ (.inr z)) fun f c' H1 s' I1 e1 T1 n f1 c1 => ⟨.ref f, H1, I1, rfl, h f c' H1 e1 T1 n f1 c1⟩
theorem pe_lamV1 {X : Cx} {T : List (Addr × Str)} {c P : Addr} {params : Arguments} {body e0 : Expr} {scope : Scope} {pos : Pos} (TB : TabB X.base X.mg c P) (hcode : X.env.code = .ref c) (hm : (P, X.env.qual ++ "<lambda>") ∈ T) (hu : ∀ p ∈ T, p.1 = P → p.2 = X.env.qual ++ "<lambda>")
    (hdef : params.defaults = [e0]) (hkw : params.kw_defaults = []) (he0 : PE X e0 (tC (.int 0))) (hfree : ∀ y ∈ scope.names, y.2 = .free → X.env.scope.names.lookup y.1 = some .cell ∨ X.env.scope.names.lookup y.1 = some .free) : PE X (.Lambda params body scope pos) (tLamV1 T (mkL X params scope) body) := by
  refine ⟨fun pins s σ H Q I ⟨hT, h⟩ => ?_⟩
  refine PySem.W.kdv_lam (by rw [hdef]; rfl) hkw ?_
  rw [hdef]
  refine PySem.W.kdv_all1 (wpAny_mono (he0.run pins s σ H (fun v H1 => v = .int 0 ∧ H1 = H) I ⟨rfl, rfl⟩) (fun u s1 z => ?_) fun _ _ z => z)
  obtain ⟨x, H1, I1, rx, rfl, rfl⟩ := z
  refine PySem.W.kdv_all0 ?_
  rw [makeFunction_eq]
  simp only [List.zip_nil_right, List.filterMap_nil, List.isEmpty_nil, if_true, pure_bind, List.isEmpty_cons, Bool.false_eq_true, if_false]
  refine wpAny_bind (wpAny_newTextTuple ?_)
  have hf : H1 s1.heap.objs.size = none := I1.hok.fresh (Nat.le_refl _)
  have I2 : Inv X pins σ (upd H1 s1.heap.objs.size (.tup [.int 0])) { s1 with heap := s1.heap.push { cls := .type "tuple", data := .seq [u].toArray } } :=
    I1.laid (t' := s1.toks) (fun b u e => Heap.get?_push_of_some _ e) (Nat.le_refl _) ⟨(by show 1 ≤ sizeLine; decide), [u], .cons rx .nil, ⟨_, Heap.get?_push_size _ rfl, rfl, _, rfl⟩⟩
  have s12 : ∀ b o, H1 b = some o → upd H1 s1.heap.objs.size (.tup [.int 0]) b = some o := fun b o q => (upd_ne (ne_of_none q hf)).trans q
  refine tail_track I2 TB hcode hm hu (hT.ext fun b o q => s12 b o q) (fun y hy e => (hfree y hy e).elim (fun z => I.ok.has _ (.inl z)) fun z => I.ok.has _ (.inr z)) fun f c' H3 s' I3 e3 T3 n f1 c1 => ⟨.ref f, H3, I3, rfl, ?_⟩
  exact h f c' s1.heap.objs.size H3 (fun b o q m => e3 b o (s12 b o q) m) T3 (by cases hz : H1 f with | none => rfl | some o => rw [s12 f o hz] at n; cases n) (e3 _ _ upd_same fun ps z => by cases z) f1 c1
/-! what such a function promises -/
abbrev gLamV0 (f : Addr) (F : NF) (e : Expr) : Hp → Prop := fun H => H f = some (LamV f F e .none) ∧ H F.c = some (CodeO F.c F.qual)
abbrev gLamV1 (f t0 : Addr) (F : NF) (e : Expr) : Hp → Prop := fun H => H f = some (LamV f F e (.ref t0)) ∧ H t0 = some (.tup [.int 0]) ∧ H F.c = some (CodeO F.c F.qual)
section
variable {CX : CXT} {P : Program} {w : World} {K : PySem.W.Frag} {mg : Str → Option Value} {base : Heap} {N ps fr : List Str} {F : NF} {f t0 : Addr} {e : Expr} {k : Nat} {sp : Sp} {ws : List (Option V)}
theorem vok_V {G : Hp → Prop} {dV : Value} {vs0 : List V} (S : NScope N ps fr F.scope) (hG : ∀ H, G H → H f = some (LamV f F e dV) ∧ H F.c = some (CodeO F.c F.qual)) (hl : vs0.length = ps.length)
    (hbind : ∀ (H : Hp) (s : Shared), HOk P w H s.heap → G H → ∃ us, Vals vs0 us ∧ ∀ (doc pm ctv : Value), BindsTo s (PySem.W.kdv_fn F.name F.qual F.params (.expr e) F.scope F.cl dV doc pm (.ref F.c) ctv) ⟨[], []⟩ (ps.zip us)) (C : CellsAt F.cl fr ws base fun _ => none)
    (hbody : ∀ (A : Around) (outer : List Env) (s : Shared) (H : Hp) (Q : VK) (E : XK), Room k (A.deeper (envF F f s.heap.objs.size)) → sp [] H Q E → ∃ t, PE (ncx CX P w K mg base N F f A outer s H E) e t ∧ t (startF N vs0 ws) H Q) :
    VOk P w K mg base CX (k + 1) f G (fun vs H Q E => vs = [] ∧ sp [] H Q E) := by
  refine ⟨fun hok g => ?_, fun A outer s H us vs Q E hr e0 g r hsp => ?_⟩
  · obtain ⟨od, sl, doc, pm, ctv, z⟩ := lamV_at hok (hG _ g).1
    exact ⟨_, od, _, sl, z⟩
  obtain ⟨rfl, hsp⟩ := hsp
  obtain rfl : us = [] := by cases r; rfl
  obtain ⟨od, sl, doc, pm, ctv, ho⟩ := lamV_at e0.hok (hG _ g).1
  obtain ⟨us0, r0, hb⟩ := hbind H s e0.hok g
  refine PySem.W.kla_callFunE hr.depth ho rfl S.co S.gen rfl (codeO_at e0.hok (hG _ g).2) (hb doc pm ctv _ _ _ _ ?_)
  have lim : s.heap.NoLimit := e0.mod.nolimit.keeps fun b o q => (e0.bs b o q).1
  refine wpAny_newFunctionEnv S.nocell (fun ⟨n, _⟩ hy => S.par n (List.of_mem_zip hy).1) (fun h₁ hns hsb => ⟨lim.fresh _ hsb, ?_⟩) S.kind
  show codeAny _ _ (.expr e (envF F f s.heap.objs.size)) _ _
  have kp : ∀ b o, s.heap.get? b = some o → h₁.get? b = some o := fun b o q => hsb.extBut b o (Nat.ne_of_lt (Heap.lt_size q)) (Heap.get?_push_of_some _ q)
  obtain ⟨t, ht, hq⟩ := hbody A outer s H Q E (hr.deeper _) hsp
  have J := inv_startN (CX := CX) (E := E) (f := f) (tk := s.toks + (ps.zip us0).length) S hr.hd e0 hl r0 (cells_base C e0.bs) hns kp
  refine PySem.W.kla_codeExpr (wpAny_mono (ht.run [] _ (startF N vs0 ws) H Q J hq) (fun v s' z => ?_) fun _ _ z => z)
  obtain ⟨x, H', J', rv, q⟩ := z
  exact ⟨x, H', J'.os, J'.bare, J'.base, J'.hok, rv, q⟩
/-- no parameters -/
theorem vok_V0 (S : NScope N [] fr F.scope) (hbind : ∀ (doc pm ctv : Value), bindArgs (PySem.W.kdv_fn F.name F.qual F.params (.expr e) F.scope F.cl .none doc pm (.ref F.c) ctv) ⟨[], []⟩ = pure []) (C : CellsAt F.cl fr ws base fun _ => none)
    (hbody : ∀ (A : Around) (outer : List Env) (s : Shared) (H : Hp) (Q : VK) (E : XK), Room k (A.deeper (envF F f s.heap.objs.size)) → sp [] H Q E → ∃ t, PE (ncx CX P w K mg base N F f A outer s H E) e t ∧ t (startF N [] ws) H Q) :
    VOk P w K mg base CX (k + 1) f (gLamV0 f F e) (fun vs H Q E => vs = [] ∧ sp [] H Q E) :=
  vok_V (vs0 := []) S (fun H g => g) rfl (fun H s _ _ => ⟨[], .nil, fun doc pm ctv => BindsTo.of_eq (hbind doc pm ctv)⟩) C hbody
/-- one parameter, its default 0 -/
theorem vok_V1 {x : Str} (S : NScope N [x] fr F.scope) (hbind : ∀ (doc pm ctv : Value), ∃ kk : Option (Array Value) → Sem (List (Str × Value)), bindArgs (PySem.W.kdv_fn F.name F.qual F.params (.expr e) F.scope F.cl (.ref t0) doc pm (.ref F.c) ctv) ⟨[], []⟩ = seqItems? (.ref t0) >>= kk ∧ ∀ u : Value, kk (some #[u]) = pure [(x, u)]) (C : CellsAt F.cl fr ws base fun _ => none)
    (hbody : ∀ (A : Around) (outer : List Env) (s : Shared) (H : Hp) (Q : VK) (E : XK), Room k (A.deeper (envF F f s.heap.objs.size)) → sp [] H Q E → ∃ t, PE (ncx CX P w K mg base N F f A outer s H E) e t ∧ t (startF N [.int 0] ws) H Q) :
    VOk P w K mg base CX (k + 1) f (gLamV1 f t0 F e) (fun vs H Q E => vs = [] ∧ sp [] H Q E) := by
  refine vok_V (vs0 := [.int 0]) S (fun H g => ⟨g.1, g.2.2⟩) rfl (fun H s hok g => ?_) C hbody
  obtain ⟨_, its, rv, o, ho, hc, n, hd⟩ := (show ObjOk P w H s.heap t0 (.tup [.int 0]) from hok t0 _ g.2.1)
  obtain ⟨u, rfl, ru⟩ := rv.one
  refine ⟨[u], .cons ru .nil, fun doc pm ctv => ?_⟩
  obtain ⟨kk, h1, h2⟩ := hbind doc pm ctv
  exact BindsTo.of_defaults (T := t0) rfl ho hd h1 (h2 u)
end
/-- x(), x a name that holds the function at f -/
def tCallVal0 (f : Addr) (G : Hp → Prop) (i : Nat) (sp : Sp) (E : XK) : TE := fun σ H Q => σ[i]? = some (some (.ref f)) ∧ G H ∧ sp [] H Q E
section
variable {X : Cx} {CX : CXT} {i k : Nat} {x : Str} {f : Addr} {G : Hp → Prop} {sp : Sp} {E : XK} {p pos : Pos}
theorem pe_callVal0 (V : VOk X.prog X.w X.K X.mg X.base CX k f G sp) (hr : Room k X.A) (hx : Passes CX X E) (hN : X.N[i]? = some x) (hv : Vis X.env.scope x)
    (hd : (x == ("__debug__" : Str)) = false := by decide) (hcd : (x == ("__classdict__" : Str)) = false := by decide) :
    PE X (.Call (.Name x p) [] [] pos) (tCallVal0 f G i sp E) := by
  refine ⟨fun pins s σ H Q I ⟨hs, g, ht⟩ => ?_⟩
  refine wpAny_Call_Name_kw (thn ((pe_var (pos := p) hN hv hd hcd).run pins s σ H (fun v H1 => v = .ref f ∧ H1 = H) I ⟨.ref f, hs, rfl, rfl⟩) fun u s1 ⟨v, H1, I1, r1, ev, eH⟩ => ?_)
  subst ev eH
  obtain rfl : u = Value.ref f := r1
  exact PySem.W.callWith_F0 (first := []) (V.isf I1.hok g) (run_val V hr hx I1 g .nil ht)
end
/-! a def called with arguments that read cells of the running def: the base grows by all that is not tracked -/
/-- what is told of the larger base -/
structure Lent (X : Cx) (σ : L2.St) (base' : Heap) : Prop where
  up : ∀ b ob, X.base.get? b = some ob → base'.get? b = some ob
  ce : ∀ (cl : List (Str × Addr)) (fr : List Str) (js : List Nat), (X.Ok → NdefX.Caps X cl fr js) → CellsAt cl fr (js.map (slotAt σ)) base' fun _ => none
def tCallL (X : Cx) (sp : Heap → Sp) (E : XK) (t : TA) : TE := fun σ H Q => t σ H fun vs H1 => ∀ base' : Heap, Lent X σ base' → sp base' vs H1 Q E
section
variable {X : Cx} {CX : CXT} {k : Nat} {g : Addr} {ps : List Str} {E : XK} {x : Str} {p pos : Pos} {e : Expr} {es : List Expr} {t : TA}
theorem run_lentL {pins : List (Addr × Obj)} {σ : L2.St} {H : Hp} {s : Shared} {Q : VK} {us : List Value} {vs : List V} {sp : Heap → Sp} (I : Inv X pins σ H s) (hfn : ∀ y, X.fn y = true)
    (F : ∀ base' : Heap, ∃ fd, FnOk X.prog X.w X.K X.mg base' CX k g fd ps (sp base') ∧ L2.Binds X.K fd ps []) (hr : Room k X.A) (hx : Passes CX X E) (r : Vals vs us) (h : ∀ base', Lent X σ base' → sp base' vs H Q E) :
    wpAny (model X.prog X.w) X.A (call (.ref g) us) (EP X pins σ Q) X.xe s := by
  obtain ⟨B, hB⟩ : ∃ B, B = PySem.W.hideAll s.heap (trk s.heap H ++ frs X.stack) := ⟨_, rfl⟩
  have hid : ∀ b, b ∈ trk s.heap H ++ frs X.stack → B.get? b = none := fun b hb => hB ▸ PySem.W.hideAll_none _ hb
  have ofB : ∀ b ob, B.get? b = some ob → s.heap.get? b = some ob ∧ H b = none := fun b ob q => by
    have q' : s.heap.get? b = some ob := PySem.W.of_hideAll _ (hB ▸ q)
    refine ⟨q', ?_⟩
    cases hz : H b with
    | none => rfl
    | some u =>
      have := hid b (List.mem_append_left _ (List.mem_filter.mpr ⟨List.mem_range.mpr (Heap.lt_size q'), by rw [hz]; rfl⟩))
      rw [this] at q
      cases q
  have toB : ∀ b ob, s.heap.get? b = some ob → H b = none → b ∉ frs X.stack → B.get? b = some ob := fun b ob q n nf => by
    rw [hB]
    refine PySem.W.hideAll_get _ q fun hm => ?_
    rcases List.mem_append.mp hm with z | z
    · have z2 := (List.mem_filter.mp z).2
      rw [n] at z2
      cases z2
    · exact nf z
  have kb : ∀ b ob, X.base.get? b = some ob → B.get? b = some ob := fun b ob q => toB b ob (I.bs b ob q).1 (I.bs b ob q).2 fun z => by
    have := (I.stack.mem z).1
    rw [q] at this
    cases this
  have cB : ∀ (cl : List (Str × Addr)) (fr : List Str) (js : List Nat), (X.Ok → NdefX.Caps X cl fr js) → CellsAt cl fr (js.map (slotAt σ)) B fun _ => none := fun cl fr js cp => by
    have Cs := cells_of I (cp I.ok)
    have hcl := (cp I.ok).sub
    have nfr : ∀ y c, cl.lookup y = some c → c ∉ frs X.stack := fun y c q z => by
      have qe := hcl y c q
      rcases List.mem_cons.mp (I.stkSub c z) with z | z
      · exact I.cne y c qe z
      · obtain ⟨_, ob, ho, _⟩ := I.ok.funs.mem z
        exact absurd (Nat.lt_of_lt_of_le (Heap.lt_size ho) (I.ok.cab y c (hfn y) qe)) (Nat.lt_irrefl _)
    have kc : ∀ {y c} {v : Option Value}, cl.lookup y = some c → s.heap.IsCell c v → B.IsCell c v := fun {y c v} q ⟨ob, ho, hd⟩ => ⟨ob, toB c ob ho (Cs.all y c q).1 (nfr y c q), hd⟩
    refine ⟨Cs.len, fun y c q => ?_, Cs.inj, fun i y q => ?_⟩
    · obtain ⟨_, v, z⟩ := Cs.all y c q
      exact ⟨rfl, v, kc q z⟩
    · obtain ⟨c, hc, hv⟩ := Cs.has i y q
      refine ⟨c, hc, fun v ev => ?_⟩
      obtain ⟨u, ru, z⟩ := hv v ev
      exact ⟨u, ru, kc hc z⟩
  have M : Mod X.K X.mg B := ⟨I.mod.kin.keeps kb, I.mod.glob.keeps kb, let ⟨mb, h1, h2⟩ := I.mod.blt; ⟨mb, h1.keeps kb, h2⟩, I.mod.nolimit.keeps kb⟩
  have e0 : Env0 X.prog X.w X.K X.mg B X.A X.stack s H := ⟨I.ok.frames, M, ofB, Nat.le_of_eq (by rw [hB, PySem.W.hideAll_size]), frames_base (fun b hb => hid b (List.mem_append_right _ hb)) I.stack, I.stkFree, I.hok, I.bare⟩
  obtain ⟨fd, Fn, hb⟩ := F B
  have q := h B ⟨kb, cB⟩
  have hl : (us ++ []).length = ps.length := by
    rw [List.append_nil, ← r.length]
    exact Fn.len _ _ _ _ q
  have hb2 := hb s us I.kIn hl
  rw [List.append_nil] at hb2
  refine wpAny_call (codeAny_mono (Fn.run X.A X.stack s H ⟨us, []⟩ us vs Q E hr e0 hb2 r q) fun r s' hq => ?_)
  match r, hq with
  | .error e, hq => exact hx pins σ H s e s' I hq
  | .ok (.ret u), hq => exact I.after hq
theorem pe_callL {sp : Heap → Sp} (hfn : ∀ y, X.fn y = true) (F : ∀ base' : Heap, ∃ fd, FnOk X.prog X.w X.K X.mg base' CX k g fd ps (sp base') ∧ L2.Binds X.K fd ps []) (hr : Room k X.A) (hg : Gl X x) (hm : X.mg x = some (.ref g)) (hk : PySem.W.keepIn X.K (.ref g) = true)
    (hx : Passes CX X E) (ha : PA X (e :: es) t) (hdb : (x == ("__debug__" : Str)) = false := by decide)
    (he : starEach (e :: es) X.env = (false, eval e X.env) :: starEach es X.env := by rfl) (hpl : (backTo pos (starEach es X.env)).any (·.1) = false := by rfl) :
    PE X (.Call (.Name x p) (e :: es) [] pos) (tCallL X sp E t) := by
  refine ⟨fun pins s σ H Q I h => ?_⟩
  refine wpAny_Call_Name_kw (ld_glob I hg hm ?_ hdb)
  exact PySem.W.callWith_K (h₀ := X.base) I.ok.mod.kin hk (thn (ha.run pos pins s σ H _ I h) fun us s1 ⟨vs, H1, I1, r, q⟩ => ⟨I1.kIn, run_lentL I1 hfn F hr hx r q⟩) he hpl
end
end SwA

end

section
set_option maxRecDepth 100000
set_option maxHeartbeats 4000000
/-! the law's own: the error of a call, the call a function value -/
namespace Sw
open PySem PySem.Spec PyProof.Rows L2 SwA
def spEof (P : Program) (w : World) (K : PySem.W.Frag) (mg : Str → Option Value) (n : Nat) (base : Heap) : Sp := fun vs H Q _ => ∃ (f : Addr) (G : Hp → Prop) (sp : Sp), vs = [.ref f] ∧ VOk P w K mg base (L2.CX P w) n f G sp ∧ G H ∧ sp [] H (fun _ H' => Q .non H') (fun cls d H' => ErrW K cls d H' Q)
abbrev eoX (P : Program) (w : World) (K : PySem.W.Frag) (mg : Str → Option Value) (base : Heap) (cdv : Value) (A : Around) (outer : List Env) (s : Shared) (H : Hp) (E : XK) : Cx := (cxOf CX0 P w K mg base eofN "_law_error_of" (defScope s__law_error_of) (He.fAd K ("_law_error_of", none)) cdv A outer s H E).nox
section
variable {P : Program} {w : World} {K : PySem.W.Frag} {mg : Str → Option Value} {base : Heap}
theorem ok_eofV (T : EofT K mg) (n : Nat) : FnE P w K mg base CX0 (n + 1) ("_law_error_of", none) ["_law_call"] (spEof P w K mg n base) := by
  obtain ⟨fd, F⟩ := T.d.d
  refine ⟨fd, F.ok sc_eof (fun vs H Q E h => ?_) (fun cdv A outer s H vs Q E hr h => ?_), F.bindsN fun _ _ _ _ _ _ us hl => match us, hl with | [_], _ => rfl, F.kp⟩
  · obtain ⟨f, G, sp, rfl, _⟩ := h
    rfl
  · obtain ⟨f, G, sp, rfl, hVo, hG, hsp⟩ := h
    have hu3 : (eoX P w K mg base cdv A outer s H E).A.units + 3 < cLine := by
      have := hr.un
      show (A.deeper (envOfC "_law_error_of" (defScope s__law_error_of) s.heap.objs.size (He.fAd K ("_law_error_of", none)) cdv)).units + 3 < cLine
      omega
    refine ⟨_, PSs.nox (pss_cons (ps_try_asL (X := eoX P w K mg base cdv A outer s H E) (i := 1) (c := .ref (He.ga K "SweepError")) (ts := ?ts)
        (tb := fun W D σ H => ∃ Ech : XK, (∀ cls d σ' H', Ech cls d H' → W cls d σ' H') ∧ σ[0]? = some (some (.ref f)) ∧ G H ∧ sp [] H (fun _ H' => D.nx σ H') Ech)
        5 rfl rfl rfl sc_eof.nd rfl rfl ⟨rfl, by decide, .inl T.sw⟩ takes0 ?bo ?su)
      (pss_one (ps_ret pe_non))), ?fin⟩
    case su =>
      intro a oe cls d pn hz hf
      have su : PSs ((eoX P w K mg base cdv A outer s H E).suite a ((a, oe) :: pn)) (hdB (defBody s__law_error_of)) _ := (pss_cons (ps_set (i := 2) sc_eof.nd rfl (.inl rfl) (pe_lst (pa_cons (pe_callB (call_isEx (X := eoX P w K mg base cdv A outer s H E) hz hf) (by rfl) T.isinstance (by decide +kernel) (pa_cons (pv 1) (pa_cons (pe_glob (v := .ref (He.ga K "InvalidTick")) (by rfl) (T.g "InvalidTick" (by decide +kernel)) rfl) pa_nil))) (pa_cons (pe_callB (call_isEx (X := eoX P w K mg base cdv A outer s H E) hz hf) (by rfl) T.isinstance (by decide +kernel) (pa_cons (pv 1) (pa_cons (pe_glob (v := .ref (He.ga K "InvalidNumber")) (by rfl) (T.g "InvalidNumber" (by decide +kernel)) rfl) pa_nil))) (pa_cons (pe_callB (call_isEx (X := eoX P w K mg base cdv A outer s H E) hz hf) (by rfl) T.isinstance (by decide +kernel) (pa_cons (pv 1) (pa_cons (pe_glob (v := .ref (He.ga K "UnknownSign")) (by rfl) (T.g "UnknownSign" (by decide +kernel)) rfl) pa_nil))) pa_nil)))))
        (pss_cons (ps_set (i := 2) sc_eof.nd rfl (.inl rfl) (pe_op op_cat (pv 2) (pe_lst (pa_cons (pe_callB (call_isEx (X := eoX P w K mg base cdv A outer s H E) hz hf) (by rfl) T.isinstance (by decide +kernel) (pa_cons (pv 1) (pa_cons (pe_glob (v := .ref (He.ga K "TooLong")) (by rfl) (T.g "TooLong" (by decide +kernel)) rfl) pa_nil))) (pa_cons (pe_callB (call_isEx (X := eoX P w K mg base cdv A outer s H E) hz hf) (by rfl) T.isinstance (by decide +kernel) (pa_cons (pv 1) (pa_cons (pe_glob (v := .ref (He.ga K "OtherCorridor")) (by rfl) (T.g "OtherCorridor" (by decide +kernel)) rfl) pa_nil))) (pa_cons (pe_callB (call_isEx (X := eoX P w K mg base cdv A outer s H E) hz hf) (by rfl) T.isinstance (by decide +kernel) (pa_cons (pv 1) (pa_cons (pe_glob (v := .ref (He.ga K "Contradiction")) (by rfl) (T.g "Contradiction" (by decide +kernel)) rfl) pa_nil))) pa_nil))))))
        (pss_cons (ps_set (i := 2) sc_eof.nd rfl (.inl rfl) (pe_op op_cat (pv 2) (pe_lst (pa_cons (pe_callB (call_isEx (X := eoX P w K mg base cdv A outer s H E) hz hf) (by rfl) T.isinstance (by decide +kernel) (pa_cons (pv 1) (pa_cons (pe_glob (v := .ref (He.ga K "InvalidName")) (by rfl) (T.g "InvalidName" (by decide +kernel)) rfl) pa_nil))) (pa_cons (pe_callB (call_isEx (X := eoX P w K mg base cdv A outer s H E) hz hf) (by rfl) T.isinstance (by decide +kernel) (pa_cons (pv 1) (pa_cons (pe_glob (v := .ref (He.ga K "UnknownName")) (by rfl) (T.g "UnknownName" (by decide +kernel)) rfl) pa_nil))) (pa_cons (pe_callB (call_isEx (X := eoX P w K mg base cdv A outer s H E) hz hf) (by rfl) T.isinstance (by decide +kernel) (pa_cons (pv 1) (pa_cons (pe_glob (v := .ref (He.ga K "SyntaxFault")) (by rfl) (T.g "SyntaxFault" (by decide +kernel)) rfl) pa_nil))) pa_nil))))))
        (pss_cons (ps_set (i := 2) sc_eof.nd rfl (.inl rfl) (pe_op op_cat (pv 2) (pe_lst (pa_cons (pe_callB (call_isEx (X := eoX P w K mg base cdv A outer s H E) hz hf) (by rfl) T.isinstance (by decide +kernel) (pa_cons (pv 1) (pa_cons (pe_glob (v := .ref (He.ga K "CheckFault")) (by rfl) (T.g "CheckFault" (by decide +kernel)) rfl) pa_nil))) (pa_cons (pe_callB (call_isEx (X := eoX P w K mg base cdv A outer s H E) hz hf) (by rfl) T.isinstance (by decide +kernel) (pa_cons (pv 1) (pa_cons (pe_glob (v := .ref (He.ga K "InvalidCode")) (by rfl) (T.g "InvalidCode" (by decide +kernel)) rfl) pa_nil))) (pa_cons (pe_callB (call_isEx (X := eoX P w K mg base cdv A outer s H E) hz hf) (by rfl) T.isinstance (by decide +kernel) (pa_cons (pv 1) (pa_cons (pe_glob (v := .ref (He.ga K "InvalidOperation")) (by rfl) (T.g "InvalidOperation" (by decide +kernel)) rfl) pa_nil))) pa_nil))))))
        (pss_cons (ps_if (PW.pt (pw_or (pt_cmpR op_ne (pe_bm PySem.F.plainAttrs_list PySem.F.slot_list_count PySem.F.type_list_count (mt_bcount (X := (eoX P w K mg base cdv A outer s H E).suite a ((a, oe) :: pn)) hu3) (pv 2) (pa_cons pe_bl pa_nil)) pe_int (nomark _)) (pw_or1 (pt_not (pt_val (pe_callB (call_isEx (X := eoX P w K mg base cdv A outer s H E) hz hf) (by rfl) T.isinstance (by decide +kernel) (pa_cons (pv 1) (pa_cons (pe_bltn (v := .ty "ValueError") (by rfl) T.VE (by decide +kernel) rfl) pa_nil))))))))
          (pss_one (ps_ret (pe_tup (pa_cons pe_str (pa_cons pe_int pa_nil))))) pss_nil)
        (pss_cons (ps_set (i := 3) sc_eof.nd rfl (.inl rfl) (pe_lst (pa_cons pe_str (pa_cons pe_str (pa_cons pe_str (pa_cons pe_str (pa_cons pe_str (pa_cons pe_str (pa_cons pe_str (pa_cons pe_str (pa_cons pe_str (pa_cons pe_str pa_nil))))))))))))
        (pss_cons (ps_set (i := 4) sc_eof.nd rfl (.inl rfl) (pe_ix ix_list (pe_op op_cat (pv 3) (pe_lst (pa_cons pe_str (pa_cons pe_str pa_nil)))) (pe_bm PySem.F.plainAttrs_list PySem.F.slot_list_index PySem.F.type_list_index mt_index (pv 2) (pa_cons pe_bl pa_nil)) (fun _ _ => rfl)))
        (pss_cons (ps_if (pt_cmpR op_in_seq (pv 4) (pe_lst (pa_cons pe_str (pa_cons pe_str pa_nil))) (by rfl))
          (pss_one (ps_ret (pe_tup (pa_cons (pv 4) (pa_cons (pe_ifExp (pt_cmpR op_eq (pv 4) pe_str (nomark _)) pe_no pe_no) pa_nil))))) pss_nil)
        (pss_one (ps_ret (pe_tup (pa_cons (pv 4) (pa_cons (pe_ifExp (pt_cmpR op_in_seq (pv 4) (pe_lst (pa_cons pe_str (pa_cons pe_str pa_nil))) (by rfl)) pe_no pe_int) pa_nil)))))))))))))
      have hK : ((eoX P w K mg base cdv A outer s H E).suite a ((a, oe) :: pn)).K = K := rfl
      rw [hK] at su
      exact su
    case bo =>
      intro W pn xe tk _
      refine ⟨fun pins s' σ H' D I h' => ?_⟩
      obtain ⟨Ech, hW, h1, h2, h3⟩ := h'
      exact (pss_one (ps_expr (pe_callVal0 (X := (eoX P w K mg base cdv A outer s H E).tr pn xe) (i := 0) hVo hr (passes_call tk hW) rfl (.inl rfl)))).run pins s' σ H' D I ⟨h1, h2, h3⟩
    case fin =>
      refine ⟨fun cls d H' => ErrW K cls d H' Q, fun cls d σ' H' hE => ?_, rfl, hG, hsp⟩
      obtain ⟨D, j, z, rfl, rfl, ek, hj, hz, kq⟩ := hE
      refine ⟨true, ek.exm, fun _ a na hl => ?_, fun z => nomatch z⟩
      obtain ⟨x0, x1, x2, x3, x4, rfl⟩ : ∃ x0 x1 x2 x3 x4, σ' = [x0, x1, x2, x3, x4] := by
        have hl : (σ'.set 1 (some (.ref a))).length = 5 := hl
        rw [List.length_set] at hl
        match σ', hl with
        | [x0, x1, x2, x3, x4], _ => exact ⟨x0, x1, x2, x3, x4, rfl⟩
      clear hl
      refine ⟨_, rfl, He.ga K D, _, _, decide (0 = j), rfl, rfl, ek.ex, rfl, (fun _ h => h), ek.kd ("InvalidTick", 0) (by decide +kernel), _, rfl, He.ga K D, _, _, decide (1 = j), rfl, rfl, ek.ex, rfl, (fun _ h => h), ek.kd ("InvalidNumber", 1) (by decide +kernel), _, rfl, He.ga K D, _, _, decide (2 = j), rfl, rfl, ek.ex, rfl, (fun _ h => h), ek.kd ("UnknownSign", 2) (by decide +kernel), (by show 3 ≤ sizeLine; decide), fun p1 np1 => ?_⟩
      have s1 := sameUpd (o := .lst [.bl (decide (0 = j)), .bl (decide (1 = j)), .bl (decide (2 = j))]) (Same.refl H') np1
      have hp1 := @upd_same H' p1 (.lst [.bl (decide (0 = j)), .bl (decide (1 = j)), .bl (decide (2 = j))])
      generalize upd H' p1 (.lst [.bl (decide (0 = j)), .bl (decide (1 = j)), .bl (decide (2 = j))]) = H1 at *
      refine ⟨_, rfl, _, rfl, He.ga K D, _, _, decide (3 = j), rfl, rfl, ek.ex, rfl, (fun _ h => h), ek.kd ("TooLong", 3) (by decide +kernel), _, rfl, He.ga K D, _, _, decide (4 = j), rfl, rfl, ek.ex, rfl, (fun _ h => h), ek.kd ("OtherCorridor", 4) (by decide +kernel), _, rfl, He.ga K D, _, _, decide (5 = j), rfl, rfl, ek.ex, rfl, (fun _ h => h), ek.kd ("Contradiction", 5) (by decide +kernel), (by show 3 ≤ sizeLine; decide), fun p2 np2 => ?_⟩
      have u0 := sameUpd (o := .lst [.bl (decide (3 = j)), .bl (decide (4 = j)), .bl (decide (5 = j))]) (Same.refl H1) np2
      have hp2 := @upd_same H1 p2 (.lst [.bl (decide (3 = j)), .bl (decide (4 = j)), .bl (decide (5 = j))])
      replace hp1 := u0 _ _ hp1
      replace s1 := s1.trans u0
      generalize upd H1 p2 (.lst [.bl (decide (3 = j)), .bl (decide (4 = j)), .bl (decide (5 = j))]) = H2 at *
      refine ⟨p1, p2, _, _, rfl, rfl, hp1, hp2, (by show 6 ≤ sizeLine; decide), fun p3 np3 => ?_⟩
      have u1 := sameUpd (o := .lst ([.bl (decide (0 = j)), .bl (decide (1 = j)), .bl (decide (2 = j))] ++ [.bl (decide (3 = j)), .bl (decide (4 = j)), .bl (decide (5 = j))])) (Same.refl H2) np3
      have hp3 := @upd_same H2 p3 (.lst ([.bl (decide (0 = j)), .bl (decide (1 = j)), .bl (decide (2 = j))] ++ [.bl (decide (3 = j)), .bl (decide (4 = j)), .bl (decide (5 = j))]))
      replace s1 := s1.trans u1
      generalize upd H2 p3 (.lst ([.bl (decide (0 = j)), .bl (decide (1 = j)), .bl (decide (2 = j))] ++ [.bl (decide (3 = j)), .bl (decide (4 = j)), .bl (decide (5 = j))])) = H3 at *
      refine ⟨_, rfl, _, rfl, He.ga K D, _, _, decide (6 = j), rfl, rfl, ek.ex, rfl, (fun _ h => h), ek.kd ("InvalidName", 6) (by decide +kernel), _, rfl, He.ga K D, _, _, decide (7 = j), rfl, rfl, ek.ex, rfl, (fun _ h => h), ek.kd ("UnknownName", 7) (by decide +kernel), _, rfl, He.ga K D, _, _, decide (8 = j), rfl, rfl, ek.ex, rfl, (fun _ h => h), ek.kd ("SyntaxFault", 8) (by decide +kernel), (by show 3 ≤ sizeLine; decide), fun p4 np4 => ?_⟩
      have u2 := sameUpd (o := .lst [.bl (decide (6 = j)), .bl (decide (7 = j)), .bl (decide (8 = j))]) (Same.refl H3) np4
      have hp4 := @upd_same H3 p4 (.lst [.bl (decide (6 = j)), .bl (decide (7 = j)), .bl (decide (8 = j))])
      replace hp3 := u2 _ _ hp3
      replace s1 := s1.trans u2
      generalize upd H3 p4 (.lst [.bl (decide (6 = j)), .bl (decide (7 = j)), .bl (decide (8 = j))]) = H4 at *
      refine ⟨p3, p4, _, _, rfl, rfl, hp3, hp4, (by show 9 ≤ sizeLine; decide), fun p5 np5 => ?_⟩
      have u3 := sameUpd (o := .lst (([.bl (decide (0 = j)), .bl (decide (1 = j)), .bl (decide (2 = j))] ++ [.bl (decide (3 = j)), .bl (decide (4 = j)), .bl (decide (5 = j))]) ++ [.bl (decide (6 = j)), .bl (decide (7 = j)), .bl (decide (8 = j))])) (Same.refl H4) np5
      have hp5 := @upd_same H4 p5 (.lst (([.bl (decide (0 = j)), .bl (decide (1 = j)), .bl (decide (2 = j))] ++ [.bl (decide (3 = j)), .bl (decide (4 = j)), .bl (decide (5 = j))]) ++ [.bl (decide (6 = j)), .bl (decide (7 = j)), .bl (decide (8 = j))]))
      replace s1 := s1.trans u3
      generalize upd H4 p5 (.lst (([.bl (decide (0 = j)), .bl (decide (1 = j)), .bl (decide (2 = j))] ++ [.bl (decide (3 = j)), .bl (decide (4 = j)), .bl (decide (5 = j))]) ++ [.bl (decide (6 = j)), .bl (decide (7 = j)), .bl (decide (8 = j))])) = H5 at *
      refine ⟨_, rfl, _, rfl, He.ga K D, _, _, decide (9 = j), rfl, rfl, ek.ex, rfl, (fun _ h => h), ek.kd ("CheckFault", 9) (by decide +kernel), _, rfl, He.ga K D, _, _, decide (10 = j), rfl, rfl, ek.ex, rfl, (fun _ h => h), ek.kd ("InvalidCode", 10) (by decide +kernel), _, rfl, He.ga K D, _, _, decide (11 = j), rfl, rfl, ek.ex, rfl, (fun _ h => h), ek.kd ("InvalidOperation", 11) (by decide +kernel), (by show 3 ≤ sizeLine; decide), fun p6 np6 => ?_⟩
      have u4 := sameUpd (o := .lst [.bl (decide (9 = j)), .bl (decide (10 = j)), .bl (decide (11 = j))]) (Same.refl H5) np6
      have hp6 := @upd_same H5 p6 (.lst [.bl (decide (9 = j)), .bl (decide (10 = j)), .bl (decide (11 = j))])
      replace hp5 := u4 _ _ hp5
      replace s1 := s1.trans u4
      generalize upd H5 p6 (.lst [.bl (decide (9 = j)), .bl (decide (10 = j)), .bl (decide (11 = j))]) = H6 at *
      refine ⟨p5, p6, _, _, rfl, rfl, hp5, hp6, (by show 12 ≤ sizeLine; decide), fun p7 np7 => ?_⟩
      have u5 := sameUpd (o := .lst ((([.bl (decide (0 = j)), .bl (decide (1 = j)), .bl (decide (2 = j))] ++ [.bl (decide (3 = j)), .bl (decide (4 = j)), .bl (decide (5 = j))]) ++ [.bl (decide (6 = j)), .bl (decide (7 = j)), .bl (decide (8 = j))]) ++ [.bl (decide (9 = j)), .bl (decide (10 = j)), .bl (decide (11 = j))])) (Same.refl H6) np7
      have hp7 := @upd_same H6 p7 (.lst ((([.bl (decide (0 = j)), .bl (decide (1 = j)), .bl (decide (2 = j))] ++ [.bl (decide (3 = j)), .bl (decide (4 = j)), .bl (decide (5 = j))]) ++ [.bl (decide (6 = j)), .bl (decide (7 = j)), .bl (decide (8 = j))]) ++ [.bl (decide (9 = j)), .bl (decide (10 = j)), .bl (decide (11 = j))]))
      replace s1 := s1.trans u5
      generalize upd H6 p7 (.lst ((([.bl (decide (0 = j)), .bl (decide (1 = j)), .bl (decide (2 = j))] ++ [.bl (decide (3 = j)), .bl (decide (4 = j)), .bl (decide (5 = j))]) ++ [.bl (decide (6 = j)), .bl (decide (7 = j)), .bl (decide (8 = j))]) ++ [.bl (decide (9 = j)), .bl (decide (10 = j)), .bl (decide (11 = j))])) = H7 at *
      have hk : H7 p7 = some (.lst ((bsJ j).map V.bl)) := hp7
      have hj12 : j < 12 := by omega
      refine ⟨_, rfl, .inl ⟨rfl, _, SqL.of hk⟩, p7, bsJ j, rfl, rfl, SqL.of hk, ?_⟩
      rw [bs_count hj12]
      refine ⟨rfl, false, rfl, iteF ?_⟩
      refine ⟨_, rfl, He.ga K D, _, _, true, rfl, rfl, ek.ex, rfl, (fun _ h => h), ek.ve, _, rfl, ?_⟩
      refine ⟨(by show 10 ≤ sizeLine; decide), fun p8 np8 => ?_⟩
      have u6 := sameUpd (o := .lst [.str "tick", .str "number", .str "sign", .str "long", .str "other", .str "contradiction", .str "name", .str "unknown", .str "syntax", .str "check"]) (Same.refl H7) np8
      have hp8 := @upd_same H7 p8 (.lst [.str "tick", .str "number", .str "sign", .str "long", .str "other", .str "contradiction", .str "name", .str "unknown", .str "syntax", .str "check"])
      replace hk := u6 _ _ hk
      replace s1 := s1.trans u6
      generalize upd H7 p8 (.lst [.str "tick", .str "number", .str "sign", .str "long", .str "other", .str "contradiction", .str "name", .str "unknown", .str "syntax", .str "check"]) = H8 at *
      refine ⟨_, rfl, (by show 2 ≤ sizeLine; decide), fun p9 np9 => ?_⟩
      have u7 := sameUpd (o := .lst [.str "code", .str "operation"]) (Same.refl H8) np9
      have hp9 := @upd_same H8 p9 (.lst [.str "code", .str "operation"])
      replace hk := u7 _ _ hk
      replace hp8 := u7 _ _ hp8
      replace s1 := s1.trans u7
      generalize upd H8 p9 (.lst [.str "code", .str "operation"]) = H9 at *
      refine ⟨p8, p9, _, _, rfl, rfl, hp8, hp9, (by show 12 ≤ sizeLine; decide), fun p10 np10 => ?_⟩
      have u8 := sameUpd (o := .lst ([.str "tick", .str "number", .str "sign", .str "long", .str "other", .str "contradiction", .str "name", .str "unknown", .str "syntax", .str "check"] ++ [.str "code", .str "operation"])) (Same.refl H9) np10
      have hp10 := @upd_same H9 p10 (.lst ([.str "tick", .str "number", .str "sign", .str "long", .str "other", .str "contradiction", .str "name", .str "unknown", .str "syntax", .str "check"] ++ [.str "code", .str "operation"]))
      replace hk := u8 _ _ hk
      replace s1 := s1.trans u8
      generalize upd H9 p10 (.lst ([.str "tick", .str "number", .str "sign", .str "long", .str "other", .str "contradiction", .str "name", .str "unknown", .str "syntax", .str "check"] ++ [.str "code", .str "operation"])) = H10 at *
      obtain ⟨b1, b2⟩ := bs_at hj12
      refine ⟨_, rfl, .inl ⟨rfl, _, SqL.of hk⟩, p7, _, _, j, .bl true, rfl, rfl, SqL.of hk, rfl, rfl, b1, rfl, b2, p10, _, _, _, rfl, rfl, SqL.of hp10, atI_nat (wordV hz), ?_⟩
      obtain ⟨w1, w2⟩ := word_out hj hz
      refine ⟨_, rfl, (by show 2 ≤ sizeLine; decide), fun p11 np11 => ?_⟩
      have u9 := sameUpd (o := .lst [.str "syntax", .str "check"]) (Same.refl H10) np11
      have hp11 := @upd_same H10 p11 (.lst [.str "syntax", .str "check"])
      replace s1 := s1.trans u9
      generalize upd H10 p11 (.lst [.str "syntax", .str "check"]) = H11 at *
      refine ⟨p11, _, rfl, .inl (SqL.of hp11), rfl, rfl, false, congrArg V.bl w1, iteF ?_⟩
      refine ⟨_, rfl, _, rfl, (by show 2 ≤ sizeLine; decide), fun p12 np12 => ?_⟩
      have u10 := sameUpd (o := .lst [.str "code", .str "operation"]) (Same.refl H11) np12
      have hp12 := @upd_same H11 p12 (.lst [.str "code", .str "operation"])
      replace s1 := s1.trans u10
      generalize upd H11 p12 (.lst [.str "code", .str "operation"]) = H12 at *
      refine ⟨p12, _, rfl, .inl (SqL.of hp12), rfl, rfl, false, congrArg V.bl w2, iteF ?_⟩
      exact ⟨(by show 2 ≤ sizeLine; decide), fun t nt => kq t _ (s1.trans (sameUpd (Same.refl _) nt)) upd_same⟩
end
end Sw

end

section
set_option maxRecDepth 100000
set_option maxHeartbeats 4000000
/-! the law's own: the error of a call, with what the error tells: its place -/
namespace SwA
open PySem PySem.Spec PyProof.Rows L2
def XDat (d : Option Addr) (H : Hp) : Prop := d = none ∨ ∃ (dd : Addr) (fs : List (Str × V)), d = some dd ∧ H dd = some (.xd fs)
theorem XDat.same {d : Option Addr} {H H' : Hp} (h : XDat d H) (s : Same H H') : XDat d H' := h.elim .inl fun ⟨dd, fs, e, q⟩ => .inr ⟨dd, fs, e, s _ _ q⟩
def rIsEy (K : PySem.W.Frag) (cls : Value) (d : Option Addr) (a : Addr) : List V → Hp → VK → Prop := fun xs H Q => ∃ (D : Addr) (c : V) (cv : Value) (b : Bool), cls = .ref D ∧ XDat d H ∧ L2.ExcC K D ∧ xs = [.ref a, c] ∧ (∀ u, RelV c u → u = cv) ∧ PySem.W.kitOne K (.ref D) cv = some b ∧ Q (.bl b) H
theorem call_isEy {X : Cx} {a : Addr} {cls : Value} {d : Option Addr} {oe : Obj} {pn : List (Addr × Obj)} (hz : Zc cls d oe) (hf : ∃ vs, oe.data = .fields vs) : CallR (X.suite a ((a, oe) :: pn)) (.builtin "isinstance") (rIsEy X.K cls d a) := by
  intro pins s σ H xs us Q I r h
  obtain ⟨D, c, cv, b, rfl, hx, C, h⟩ := h
  rcases hx with rfl | ⟨dd, fs, rfl, hdd⟩
  · exact call_isE C hz hf pins s σ H xs us Q I r ⟨c, cv, b, h⟩
  obtain ⟨rfl, hcv, e, q⟩ := h
  obtain ⟨u1, rest, rfl, r1, r2⟩ : ∃ u1 rest, us = u1 :: rest ∧ RelV (.ref a) u1 ∧ Vals [c] rest := by
    cases r with
    | cons rx rr => exact ⟨_, _, rfl, rx, rr⟩
  obtain ⟨u2, rfl, r3⟩ := r2.one
  cases r1
  obtain rfl := hcv _ r3
  have hget := (I.pin (a, oe) (List.mem_append_left _ List.mem_cons_self)).1
  obtain ⟨vs, hv⟩ := hf
  have hok : ObjOk X.prog X.w H s.heap dd (.xd fs) := I.hok dd _ hdd
  obtain ⟨mA, hns, _⟩ := hok
  obtain ⟨od, ho, _⟩ := lookIn_ns hns
  have J : PySem.W.InstAt s.heap a oe D (some od) := ⟨hget, hz.1, by unfold PySem.W.notCls; rw [hv] <;> rfl, by rw [hz.2]; exact ho⟩
  obtain ⟨cd, hcd, _⟩ := PySem.W.any_some C.hd
  have hcl : (PySem.W.clsIn X.K D).isSome = true := by rw [hcd]; rfl
  exact PySem.W.kia_one (PySem.W.kitx_exc hcl C.hg C.hk C.hs C.ha C.hn C.ht C.hm) I.kIn J e (fun z => nomatch z) fun tk => ⟨.bl b, H, I.kept (t' := tk) fun _ _ z => z, rfl, q⟩
/-- a field of the exception that the suite holds in a name; its class is told by the promise -/
def tXfy (K : PySem.W.Frag) (a : Addr) (cls : Value) (d : Option Addr) (i : Nat) (n : Str) : TE := fun σ H Q => ∃ C : Addr, XfC K C ∧ PySem.W.findIn K (.ref C) n = some none ∧ tXf a cls d C n (tVar i) σ H Q
theorem pe_xfy {X : Cx} {a : Addr} {oe : Obj} {cls : Value} {d : Option Addr} {pn : List (Addr × Obj)} {e : Expr} {pos : Pos} {n : Str} {i : Nat} (hz : Zc cls d oe) (hf : ∃ vs, oe.data = .fields vs) (he : PE (X.suite a ((a, oe) :: pn)) e (tVar i)) (hb : attributeBase e n X.env (eval e X.env) = eval e X.env := by rfl) :
    PE (X.suite a ((a, oe) :: pn)) (.Attribute e n pos) (tXfy X.K a cls d i n) :=
  ⟨fun pins s σ H Q I ⟨_, T, hno, h⟩ => (pe_xf T hno hz hf he hb).run pins s σ H Q I h⟩
end SwA
namespace Sw
open PySem PySem.Spec PyProof.Rows L2 SwA
/-- an error, told by the law, with what it tells -/
def ErrX (K : PySem.W.Frag) (cls : Value) (d : Option Addr) (H : Hp) (Q : VK) : Prop := ∃ (D : Str) (j : Nat) (z : Str), cls = .ref (He.ga K D) ∧ EKind K D j ∧ wordN[j]? = some z ∧
  ((j < 8 ∧ d = none ∧ ∀ (t : Addr) (H' : Hp), Same H H' → H' t = some (.tup [.str z, .int 0]) → Q (.ref t) H') ∨
   ((j = 10 ∨ j = 11) ∧ XfC K (He.ga K D) ∧ PySem.W.findIn K (.ref (He.ga K D)) "place" = some none ∧ ∃ (dd : Addr) (fs : List (Str × V)) (i : Int), d = some dd ∧ H dd = some (.xd fs) ∧ List.lookup ("place" : Str) fs = some (V.int i) ∧ ∀ (t : Addr) (H' : Hp), Same H H' → H' t = some (.tup [.str z, .int i]) → Q (.ref t) H') ∨
   (j = 8 ∧ XfC K (He.ga K D) ∧ PySem.W.findIn K (.ref (He.ga K D)) "line" = some none ∧ PySem.W.findIn K (.ref (He.ga K D)) "column" = some none ∧ ∃ (dd : Addr) (fs : List (Str × V)) (l c : Int), d = some dd ∧ H dd = some (.xd fs) ∧ List.lookup ("line" : Str) fs = some (V.int l) ∧ List.lookup ("column" : Str) fs = some (V.int c) ∧
     ∀ (t t2 : Addr) (H' : Hp), Same H H' → H' t2 = some (.tup [.int l, .int c]) → H' t = some (.tup [.str z, .ref t2]) → Q (.ref t) H'))
def spEofX (P : Program) (w : World) (K : PySem.W.Frag) (mg : Str → Option Value) (n : Nat) (base : Heap) : Sp := fun vs H Q _ => ∃ (f : Addr) (G : Hp → Prop) (sp : Sp), vs = [.ref f] ∧ VOk P w K mg base (L2.CX P w) n f G sp ∧ G H ∧ sp [] H (fun _ H' => Q .non H') (fun cls d H' => ErrX K cls d H' Q)
section
variable {P : Program} {w : World} {K : PySem.W.Frag} {mg : Str → Option Value} {base : Heap}
theorem ok_eofX (T : EofT K mg) (n : Nat) : FnE P w K mg base CX0 (n + 1) ("_law_error_of", none) ["_law_call"] (spEofX P w K mg n base) := by
  obtain ⟨fd, F⟩ := T.d.d
  refine ⟨fd, F.ok sc_eof (fun vs H Q E h => ?_) (fun cdv A outer s H vs Q E hr h => ?_), F.bindsN fun _ _ _ _ _ _ us hl => match us, hl with | [_], _ => rfl, F.kp⟩
  · obtain ⟨f, G, sp, rfl, _⟩ := h
    rfl
  · obtain ⟨f, G, sp, rfl, hVo, hG, hsp⟩ := h
    have hu3 : (eoX P w K mg base cdv A outer s H E).A.units + 3 < cLine := by
      have := hr.un
      show (A.deeper (envOfC "_law_error_of" (defScope s__law_error_of) s.heap.objs.size (He.fAd K ("_law_error_of", none)) cdv)).units + 3 < cLine
      omega
    refine ⟨_, PSs.nox (pss_cons (ps_try_asL (X := eoX P w K mg base cdv A outer s H E) (i := 1) (c := .ref (He.ga K "SweepError")) (ts := ?ts)
        (tb := fun W D σ H => ∃ Ech : XK, (∀ cls d σ' H', Ech cls d H' → W cls d σ' H') ∧ σ[0]? = some (some (.ref f)) ∧ G H ∧ sp [] H (fun _ H' => D.nx σ H') Ech)
        5 rfl rfl rfl sc_eof.nd rfl rfl ⟨rfl, by decide, .inl T.sw⟩ takes0 ?bo ?su)
      (pss_one (ps_ret pe_non))), ?fin⟩
    case su =>
      intro a oe cls d pn hz hf
      have su : PSs ((eoX P w K mg base cdv A outer s H E).suite a ((a, oe) :: pn)) (hdB (defBody s__law_error_of)) _ := (pss_cons (ps_set (i := 2) sc_eof.nd rfl (.inl rfl) (pe_lst (pa_cons (pe_callB (call_isEy (X := eoX P w K mg base cdv A outer s H E) hz hf) (by rfl) T.isinstance (by decide +kernel) (pa_cons (pv 1) (pa_cons (pe_glob (v := .ref (He.ga K "InvalidTick")) (by rfl) (T.g "InvalidTick" (by decide +kernel)) rfl) pa_nil))) (pa_cons (pe_callB (call_isEy (X := eoX P w K mg base cdv A outer s H E) hz hf) (by rfl) T.isinstance (by decide +kernel) (pa_cons (pv 1) (pa_cons (pe_glob (v := .ref (He.ga K "InvalidNumber")) (by rfl) (T.g "InvalidNumber" (by decide +kernel)) rfl) pa_nil))) (pa_cons (pe_callB (call_isEy (X := eoX P w K mg base cdv A outer s H E) hz hf) (by rfl) T.isinstance (by decide +kernel) (pa_cons (pv 1) (pa_cons (pe_glob (v := .ref (He.ga K "UnknownSign")) (by rfl) (T.g "UnknownSign" (by decide +kernel)) rfl) pa_nil))) pa_nil)))))
        (pss_cons (ps_set (i := 2) sc_eof.nd rfl (.inl rfl) (pe_op op_cat (pv 2) (pe_lst (pa_cons (pe_callB (call_isEy (X := eoX P w K mg base cdv A outer s H E) hz hf) (by rfl) T.isinstance (by decide +kernel) (pa_cons (pv 1) (pa_cons (pe_glob (v := .ref (He.ga K "TooLong")) (by rfl) (T.g "TooLong" (by decide +kernel)) rfl) pa_nil))) (pa_cons (pe_callB (call_isEy (X := eoX P w K mg base cdv A outer s H E) hz hf) (by rfl) T.isinstance (by decide +kernel) (pa_cons (pv 1) (pa_cons (pe_glob (v := .ref (He.ga K "OtherCorridor")) (by rfl) (T.g "OtherCorridor" (by decide +kernel)) rfl) pa_nil))) (pa_cons (pe_callB (call_isEy (X := eoX P w K mg base cdv A outer s H E) hz hf) (by rfl) T.isinstance (by decide +kernel) (pa_cons (pv 1) (pa_cons (pe_glob (v := .ref (He.ga K "Contradiction")) (by rfl) (T.g "Contradiction" (by decide +kernel)) rfl) pa_nil))) pa_nil))))))
        (pss_cons (ps_set (i := 2) sc_eof.nd rfl (.inl rfl) (pe_op op_cat (pv 2) (pe_lst (pa_cons (pe_callB (call_isEy (X := eoX P w K mg base cdv A outer s H E) hz hf) (by rfl) T.isinstance (by decide +kernel) (pa_cons (pv 1) (pa_cons (pe_glob (v := .ref (He.ga K "InvalidName")) (by rfl) (T.g "InvalidName" (by decide +kernel)) rfl) pa_nil))) (pa_cons (pe_callB (call_isEy (X := eoX P w K mg base cdv A outer s H E) hz hf) (by rfl) T.isinstance (by decide +kernel) (pa_cons (pv 1) (pa_cons (pe_glob (v := .ref (He.ga K "UnknownName")) (by rfl) (T.g "UnknownName" (by decide +kernel)) rfl) pa_nil))) (pa_cons (pe_callB (call_isEy (X := eoX P w K mg base cdv A outer s H E) hz hf) (by rfl) T.isinstance (by decide +kernel) (pa_cons (pv 1) (pa_cons (pe_glob (v := .ref (He.ga K "SyntaxFault")) (by rfl) (T.g "SyntaxFault" (by decide +kernel)) rfl) pa_nil))) pa_nil))))))
        (pss_cons (ps_set (i := 2) sc_eof.nd rfl (.inl rfl) (pe_op op_cat (pv 2) (pe_lst (pa_cons (pe_callB (call_isEy (X := eoX P w K mg base cdv A outer s H E) hz hf) (by rfl) T.isinstance (by decide +kernel) (pa_cons (pv 1) (pa_cons (pe_glob (v := .ref (He.ga K "CheckFault")) (by rfl) (T.g "CheckFault" (by decide +kernel)) rfl) pa_nil))) (pa_cons (pe_callB (call_isEy (X := eoX P w K mg base cdv A outer s H E) hz hf) (by rfl) T.isinstance (by decide +kernel) (pa_cons (pv 1) (pa_cons (pe_glob (v := .ref (He.ga K "InvalidCode")) (by rfl) (T.g "InvalidCode" (by decide +kernel)) rfl) pa_nil))) (pa_cons (pe_callB (call_isEy (X := eoX P w K mg base cdv A outer s H E) hz hf) (by rfl) T.isinstance (by decide +kernel) (pa_cons (pv 1) (pa_cons (pe_glob (v := .ref (He.ga K "InvalidOperation")) (by rfl) (T.g "InvalidOperation" (by decide +kernel)) rfl) pa_nil))) pa_nil))))))
        (pss_cons (ps_if (PW.pt (pw_or (pt_cmpR op_ne (pe_bm PySem.F.plainAttrs_list PySem.F.slot_list_count PySem.F.type_list_count (mt_bcount (X := (eoX P w K mg base cdv A outer s H E).suite a ((a, oe) :: pn)) hu3) (pv 2) (pa_cons pe_bl pa_nil)) pe_int (nomark _)) (pw_or1 (pt_not (pt_val (pe_callB (call_isEy (X := eoX P w K mg base cdv A outer s H E) hz hf) (by rfl) T.isinstance (by decide +kernel) (pa_cons (pv 1) (pa_cons (pe_bltn (v := .ty "ValueError") (by rfl) T.VE (by decide +kernel) rfl) pa_nil))))))))
          (pss_one (ps_ret (pe_tup (pa_cons pe_str (pa_cons pe_int pa_nil))))) pss_nil)
        (pss_cons (ps_set (i := 3) sc_eof.nd rfl (.inl rfl) (pe_lst (pa_cons pe_str (pa_cons pe_str (pa_cons pe_str (pa_cons pe_str (pa_cons pe_str (pa_cons pe_str (pa_cons pe_str (pa_cons pe_str (pa_cons pe_str (pa_cons pe_str pa_nil))))))))))))
        (pss_cons (ps_set (i := 4) sc_eof.nd rfl (.inl rfl) (pe_ix ix_list (pe_op op_cat (pv 3) (pe_lst (pa_cons pe_str (pa_cons pe_str pa_nil)))) (pe_bm PySem.F.plainAttrs_list PySem.F.slot_list_index PySem.F.type_list_index mt_index (pv 2) (pa_cons pe_bl pa_nil)) (fun _ _ => rfl)))
        (pss_cons (ps_if (pt_cmpR op_in_seq (pv 4) (pe_lst (pa_cons pe_str (pa_cons pe_str pa_nil))) (by rfl))
          (pss_one (ps_ret (pe_tup (pa_cons (pv 4) (pa_cons (pe_ifExp (pt_cmpR op_eq (pv 4) pe_str (nomark _)) (pe_tup (pa_cons (pe_xfy (X := eoX P w K mg base cdv A outer s H E) (n := "line") hz hf (pv 1)) (pa_cons (pe_xfy (X := eoX P w K mg base cdv A outer s H E) (n := "column") hz hf (pv 1)) pa_nil))) pe_no) pa_nil))))) pss_nil)
        (pss_one (ps_ret (pe_tup (pa_cons (pv 4) (pa_cons (pe_ifExp (pt_cmpR op_in_seq (pv 4) (pe_lst (pa_cons pe_str (pa_cons pe_str pa_nil))) (by rfl)) (pe_xfy (X := eoX P w K mg base cdv A outer s H E) (n := "place") hz hf (pv 1)) pe_int) pa_nil)))))))))))))
      have hK : ((eoX P w K mg base cdv A outer s H E).suite a ((a, oe) :: pn)).K = K := rfl
      rw [hK] at su
      exact su
    case bo =>
      intro W pn xe tk _
      refine ⟨fun pins s' σ H' D I h' => ?_⟩
      obtain ⟨Ech, hW, h1, h2, h3⟩ := h'
      exact (pss_one (ps_expr (pe_callVal0 (X := (eoX P w K mg base cdv A outer s H E).tr pn xe) (i := 0) hVo hr (passes_call tk hW) rfl (.inl rfl)))).run pins s' σ H' D I ⟨h1, h2, h3⟩
    case fin =>
      refine ⟨fun cls d H' => ErrX K cls d H' Q, fun cls d σ' H' hE => ?_, rfl, hG, hsp⟩
      obtain ⟨D, j, z, rfl, ek, hz, hcs⟩ := hE
      have xd : XDat d H' := by
        rcases hcs with ⟨_, e, _⟩ | ⟨_, _, _, dd, fs, _, e, q, _⟩ | ⟨_, _, _, _, dd, fs, _, _, e, q, _⟩
        · exact .inl e
        · exact .inr ⟨dd, fs, e, q⟩
        · exact .inr ⟨dd, fs, e, q⟩
      have hj12 : j < 12 := (List.getElem?_eq_some_iff.mp hz).1
      refine ⟨true, ek.exm, fun _ a na hl => ?_, fun z => nomatch z⟩
      obtain ⟨x0, x1, x2, x3, x4, rfl⟩ : ∃ x0 x1 x2 x3 x4, σ' = [x0, x1, x2, x3, x4] := by
        have hl : (σ'.set 1 (some (.ref a))).length = 5 := hl
        rw [List.length_set] at hl
        match σ', hl with
        | [x0, x1, x2, x3, x4], _ => exact ⟨x0, x1, x2, x3, x4, rfl⟩
      clear hl
      refine ⟨_, rfl, He.ga K D, _, _, decide (0 = j), rfl, xd, ek.ex, rfl, (fun _ h => h), ek.kd ("InvalidTick", 0) (by decide +kernel), _, rfl, He.ga K D, _, _, decide (1 = j), rfl, xd, ek.ex, rfl, (fun _ h => h), ek.kd ("InvalidNumber", 1) (by decide +kernel), _, rfl, He.ga K D, _, _, decide (2 = j), rfl, xd, ek.ex, rfl, (fun _ h => h), ek.kd ("UnknownSign", 2) (by decide +kernel), (by show 3 ≤ sizeLine; decide), fun p1 np1 => ?_⟩
      have s1 := sameUpd (o := .lst [.bl (decide (0 = j)), .bl (decide (1 = j)), .bl (decide (2 = j))]) (Same.refl H') np1
      have hp1 := @upd_same H' p1 (.lst [.bl (decide (0 = j)), .bl (decide (1 = j)), .bl (decide (2 = j))])
      generalize upd H' p1 (.lst [.bl (decide (0 = j)), .bl (decide (1 = j)), .bl (decide (2 = j))]) = H1 at *
      refine ⟨_, rfl, _, rfl, He.ga K D, _, _, decide (3 = j), rfl, xd.same s1, ek.ex, rfl, (fun _ h => h), ek.kd ("TooLong", 3) (by decide +kernel), _, rfl, He.ga K D, _, _, decide (4 = j), rfl, xd.same s1, ek.ex, rfl, (fun _ h => h), ek.kd ("OtherCorridor", 4) (by decide +kernel), _, rfl, He.ga K D, _, _, decide (5 = j), rfl, xd.same s1, ek.ex, rfl, (fun _ h => h), ek.kd ("Contradiction", 5) (by decide +kernel), (by show 3 ≤ sizeLine; decide), fun p2 np2 => ?_⟩
      have u0 := sameUpd (o := .lst [.bl (decide (3 = j)), .bl (decide (4 = j)), .bl (decide (5 = j))]) (Same.refl H1) np2
      have hp2 := @upd_same H1 p2 (.lst [.bl (decide (3 = j)), .bl (decide (4 = j)), .bl (decide (5 = j))])
      replace hp1 := u0 _ _ hp1
      replace s1 := s1.trans u0
      generalize upd H1 p2 (.lst [.bl (decide (3 = j)), .bl (decide (4 = j)), .bl (decide (5 = j))]) = H2 at *
      refine ⟨p1, p2, _, _, rfl, rfl, hp1, hp2, (by show 6 ≤ sizeLine; decide), fun p3 np3 => ?_⟩
      have u1 := sameUpd (o := .lst ([.bl (decide (0 = j)), .bl (decide (1 = j)), .bl (decide (2 = j))] ++ [.bl (decide (3 = j)), .bl (decide (4 = j)), .bl (decide (5 = j))])) (Same.refl H2) np3
      have hp3 := @upd_same H2 p3 (.lst ([.bl (decide (0 = j)), .bl (decide (1 = j)), .bl (decide (2 = j))] ++ [.bl (decide (3 = j)), .bl (decide (4 = j)), .bl (decide (5 = j))]))
      replace s1 := s1.trans u1
      generalize upd H2 p3 (.lst ([.bl (decide (0 = j)), .bl (decide (1 = j)), .bl (decide (2 = j))] ++ [.bl (decide (3 = j)), .bl (decide (4 = j)), .bl (decide (5 = j))])) = H3 at *
      refine ⟨_, rfl, _, rfl, He.ga K D, _, _, decide (6 = j), rfl, xd.same s1, ek.ex, rfl, (fun _ h => h), ek.kd ("InvalidName", 6) (by decide +kernel), _, rfl, He.ga K D, _, _, decide (7 = j), rfl, xd.same s1, ek.ex, rfl, (fun _ h => h), ek.kd ("UnknownName", 7) (by decide +kernel), _, rfl, He.ga K D, _, _, decide (8 = j), rfl, xd.same s1, ek.ex, rfl, (fun _ h => h), ek.kd ("SyntaxFault", 8) (by decide +kernel), (by show 3 ≤ sizeLine; decide), fun p4 np4 => ?_⟩
      have u2 := sameUpd (o := .lst [.bl (decide (6 = j)), .bl (decide (7 = j)), .bl (decide (8 = j))]) (Same.refl H3) np4
      have hp4 := @upd_same H3 p4 (.lst [.bl (decide (6 = j)), .bl (decide (7 = j)), .bl (decide (8 = j))])
      replace hp3 := u2 _ _ hp3
      replace s1 := s1.trans u2
      generalize upd H3 p4 (.lst [.bl (decide (6 = j)), .bl (decide (7 = j)), .bl (decide (8 = j))]) = H4 at *
      refine ⟨p3, p4, _, _, rfl, rfl, hp3, hp4, (by show 9 ≤ sizeLine; decide), fun p5 np5 => ?_⟩
      have u3 := sameUpd (o := .lst (([.bl (decide (0 = j)), .bl (decide (1 = j)), .bl (decide (2 = j))] ++ [.bl (decide (3 = j)), .bl (decide (4 = j)), .bl (decide (5 = j))]) ++ [.bl (decide (6 = j)), .bl (decide (7 = j)), .bl (decide (8 = j))])) (Same.refl H4) np5
      have hp5 := @upd_same H4 p5 (.lst (([.bl (decide (0 = j)), .bl (decide (1 = j)), .bl (decide (2 = j))] ++ [.bl (decide (3 = j)), .bl (decide (4 = j)), .bl (decide (5 = j))]) ++ [.bl (decide (6 = j)), .bl (decide (7 = j)), .bl (decide (8 = j))]))
      replace s1 := s1.trans u3
      generalize upd H4 p5 (.lst (([.bl (decide (0 = j)), .bl (decide (1 = j)), .bl (decide (2 = j))] ++ [.bl (decide (3 = j)), .bl (decide (4 = j)), .bl (decide (5 = j))]) ++ [.bl (decide (6 = j)), .bl (decide (7 = j)), .bl (decide (8 = j))])) = H5 at *
      refine ⟨_, rfl, _, rfl, He.ga K D, _, _, decide (9 = j), rfl, xd.same s1, ek.ex, rfl, (fun _ h => h), ek.kd ("CheckFault", 9) (by decide +kernel), _, rfl, He.ga K D, _, _, decide (10 = j), rfl, xd.same s1, ek.ex, rfl, (fun _ h => h), ek.kd ("InvalidCode", 10) (by decide +kernel), _, rfl, He.ga K D, _, _, decide (11 = j), rfl, xd.same s1, ek.ex, rfl, (fun _ h => h), ek.kd ("InvalidOperation", 11) (by decide +kernel), (by show 3 ≤ sizeLine; decide), fun p6 np6 => ?_⟩
      have u4 := sameUpd (o := .lst [.bl (decide (9 = j)), .bl (decide (10 = j)), .bl (decide (11 = j))]) (Same.refl H5) np6
      have hp6 := @upd_same H5 p6 (.lst [.bl (decide (9 = j)), .bl (decide (10 = j)), .bl (decide (11 = j))])
      replace hp5 := u4 _ _ hp5
      replace s1 := s1.trans u4
      generalize upd H5 p6 (.lst [.bl (decide (9 = j)), .bl (decide (10 = j)), .bl (decide (11 = j))]) = H6 at *
      refine ⟨p5, p6, _, _, rfl, rfl, hp5, hp6, (by show 12 ≤ sizeLine; decide), fun p7 np7 => ?_⟩
      have u5 := sameUpd (o := .lst ((([.bl (decide (0 = j)), .bl (decide (1 = j)), .bl (decide (2 = j))] ++ [.bl (decide (3 = j)), .bl (decide (4 = j)), .bl (decide (5 = j))]) ++ [.bl (decide (6 = j)), .bl (decide (7 = j)), .bl (decide (8 = j))]) ++ [.bl (decide (9 = j)), .bl (decide (10 = j)), .bl (decide (11 = j))])) (Same.refl H6) np7
      have hp7 := @upd_same H6 p7 (.lst ((([.bl (decide (0 = j)), .bl (decide (1 = j)), .bl (decide (2 = j))] ++ [.bl (decide (3 = j)), .bl (decide (4 = j)), .bl (decide (5 = j))]) ++ [.bl (decide (6 = j)), .bl (decide (7 = j)), .bl (decide (8 = j))]) ++ [.bl (decide (9 = j)), .bl (decide (10 = j)), .bl (decide (11 = j))]))
      replace s1 := s1.trans u5
      generalize upd H6 p7 (.lst ((([.bl (decide (0 = j)), .bl (decide (1 = j)), .bl (decide (2 = j))] ++ [.bl (decide (3 = j)), .bl (decide (4 = j)), .bl (decide (5 = j))]) ++ [.bl (decide (6 = j)), .bl (decide (7 = j)), .bl (decide (8 = j))]) ++ [.bl (decide (9 = j)), .bl (decide (10 = j)), .bl (decide (11 = j))])) = H7 at *
      have hk : H7 p7 = some (.lst ((bsJ j).map V.bl)) := hp7
      refine ⟨_, rfl, .inl ⟨rfl, _, SqL.of hk⟩, p7, bsJ j, rfl, rfl, SqL.of hk, ?_⟩
      rw [bs_count hj12]
      refine ⟨rfl, false, rfl, iteF ?_⟩
      refine ⟨_, rfl, He.ga K D, _, _, true, rfl, xd.same s1, ek.ex, rfl, (fun _ h => h), ek.ve, _, rfl, ?_⟩
      refine ⟨(by show 10 ≤ sizeLine; decide), fun p8 np8 => ?_⟩
      have u6 := sameUpd (o := .lst [.str "tick", .str "number", .str "sign", .str "long", .str "other", .str "contradiction", .str "name", .str "unknown", .str "syntax", .str "check"]) (Same.refl H7) np8
      have hp8 := @upd_same H7 p8 (.lst [.str "tick", .str "number", .str "sign", .str "long", .str "other", .str "contradiction", .str "name", .str "unknown", .str "syntax", .str "check"])
      replace hk := u6 _ _ hk
      replace s1 := s1.trans u6
      generalize upd H7 p8 (.lst [.str "tick", .str "number", .str "sign", .str "long", .str "other", .str "contradiction", .str "name", .str "unknown", .str "syntax", .str "check"]) = H8 at *
      refine ⟨_, rfl, (by show 2 ≤ sizeLine; decide), fun p9 np9 => ?_⟩
      have u7 := sameUpd (o := .lst [.str "code", .str "operation"]) (Same.refl H8) np9
      have hp9 := @upd_same H8 p9 (.lst [.str "code", .str "operation"])
      replace hk := u7 _ _ hk
      replace hp8 := u7 _ _ hp8
      replace s1 := s1.trans u7
      generalize upd H8 p9 (.lst [.str "code", .str "operation"]) = H9 at *
      refine ⟨p8, p9, _, _, rfl, rfl, hp8, hp9, (by show 12 ≤ sizeLine; decide), fun p10 np10 => ?_⟩
      have u8 := sameUpd (o := .lst ([.str "tick", .str "number", .str "sign", .str "long", .str "other", .str "contradiction", .str "name", .str "unknown", .str "syntax", .str "check"] ++ [.str "code", .str "operation"])) (Same.refl H9) np10
      have hp10 := @upd_same H9 p10 (.lst ([.str "tick", .str "number", .str "sign", .str "long", .str "other", .str "contradiction", .str "name", .str "unknown", .str "syntax", .str "check"] ++ [.str "code", .str "operation"]))
      replace hk := u8 _ _ hk
      replace s1 := s1.trans u8
      generalize upd H9 p10 (.lst ([.str "tick", .str "number", .str "sign", .str "long", .str "other", .str "contradiction", .str "name", .str "unknown", .str "syntax", .str "check"] ++ [.str "code", .str "operation"])) = H10 at *
      obtain ⟨b1, b2⟩ := bs_at hj12
      refine ⟨_, rfl, .inl ⟨rfl, _, SqL.of hk⟩, p7, _, _, j, .bl true, rfl, rfl, SqL.of hk, rfl, rfl, b1, rfl, b2, p10, _, _, _, rfl, rfl, SqL.of hp10, atI_nat (wordV hz), ?_⟩
      rcases hcs with ⟨hj, rfl, kq⟩ | ⟨hj, hxf, hno, dd, fs, ip, rfl, hdd, hlk, kq⟩ | ⟨rfl, hxf, hno1, hno2, dd, fs, il, ic, rfl, hdd, hl1, hl2, kq⟩
      · obtain ⟨w1, w2⟩ := word_out hj hz
        refine ⟨_, rfl, (by show 2 ≤ sizeLine; decide), fun p11 np11 => ?_⟩
        have u9 := sameUpd (o := .lst [.str "syntax", .str "check"]) (Same.refl H10) np11
        have hp11 := @upd_same H10 p11 (.lst [.str "syntax", .str "check"])
        replace s1 := s1.trans u9
        generalize upd H10 p11 (.lst [.str "syntax", .str "check"]) = H11 at *
        refine ⟨p11, _, rfl, .inl (SqL.of hp11), rfl, rfl, false, congrArg V.bl w1, iteF ?_⟩
        refine ⟨_, rfl, _, rfl, (by show 2 ≤ sizeLine; decide), fun p12 np12 => ?_⟩
        have u10 := sameUpd (o := .lst [.str "code", .str "operation"]) (Same.refl H11) np12
        have hp12 := @upd_same H11 p12 (.lst [.str "code", .str "operation"])
        replace s1 := s1.trans u10
        generalize upd H11 p12 (.lst [.str "code", .str "operation"]) = H12 at *
        refine ⟨p12, _, rfl, .inl (SqL.of hp12), rfl, rfl, false, congrArg V.bl w2, iteF ?_⟩
        exact ⟨(by show 2 ≤ sizeLine; decide), fun t nt => kq t _ (s1.trans (sameUpd (Same.refl _) nt)) upd_same⟩
      · have hw : inV (.str z) [.str "syntax", .str "check"] = false ∧ inV (.str z) [.str "code", .str "operation"] = true := by
          rcases hj with rfl | rfl <;> (cases hz; exact ⟨by decide +kernel, by decide +kernel⟩)
        obtain ⟨w1, w2⟩ := hw
        refine ⟨_, rfl, (by show 2 ≤ sizeLine; decide), fun p11 np11 => ?_⟩
        have u9 := sameUpd (o := .lst [.str "syntax", .str "check"]) (Same.refl H10) np11
        have hp11 := @upd_same H10 p11 (.lst [.str "syntax", .str "check"])
        replace s1 := s1.trans u9
        generalize upd H10 p11 (.lst [.str "syntax", .str "check"]) = H11 at *
        refine ⟨p11, _, rfl, .inl (SqL.of hp11), rfl, rfl, false, congrArg V.bl w1, iteF ?_⟩
        refine ⟨_, rfl, _, rfl, (by show 2 ≤ sizeLine; decide), fun p12 np12 => ?_⟩
        have u10 := sameUpd (o := .lst [.str "code", .str "operation"]) (Same.refl H11) np12
        have hp12 := @upd_same H11 p12 (.lst [.str "code", .str "operation"])
        replace s1 := s1.trans u10
        generalize upd H11 p12 (.lst [.str "code", .str "operation"]) = H12 at *
        refine ⟨p12, _, rfl, .inl (SqL.of hp12), rfl, rfl, true, congrArg V.bl w2, iteT ?_⟩
        refine ⟨He.ga K D, hxf, hno, _, rfl, rfl, rfl, dd, fs, .int ip, rfl, s1 _ _ hdd, hlk, ?_⟩
        exact ⟨(by show 2 ≤ sizeLine; decide), fun t nt => kq t _ (s1.trans (sameUpd (Same.refl _) nt)) upd_same⟩
      · have hw : inV (.str z) [.str "syntax", .str "check"] = true := by
          cases hz
          decide +kernel
        refine ⟨_, rfl, (by show 2 ≤ sizeLine; decide), fun p11 np11 => ?_⟩
        have u9 := sameUpd (o := .lst [.str "syntax", .str "check"]) (Same.refl H10) np11
        have hp11 := @upd_same H10 p11 (.lst [.str "syntax", .str "check"])
        replace s1 := s1.trans u9
        generalize upd H10 p11 (.lst [.str "syntax", .str "check"]) = H11 at *
        refine ⟨p11, _, rfl, .inl (SqL.of hp11), rfl, rfl, true, congrArg V.bl hw, iteT ?_⟩
        have ez : z = "syntax" := by
          cases hz
          rfl
        refine ⟨_, rfl, _, rfl, rfl, _, rfl, ?_⟩
        rw [decide_eq_true (show V.str z = V.str "syntax" by rw [ez])]
        refine iteT ⟨He.ga K D, hxf, hno1, _, rfl, rfl, rfl, dd, fs, .int il, rfl, s1 _ _ hdd, hl1, He.ga K D, hxf, hno2, _, rfl, rfl, rfl, dd, fs, .int ic, rfl, s1 _ _ hdd, hl2, (by show 2 ≤ sizeLine; decide), fun t2 nt2 => ?_⟩
        have u10 := sameUpd (o := .tup [.int il, .int ic]) (Same.refl H11) nt2
        have ht2 := @upd_same H11 t2 (.tup [.int il, .int ic])
        replace s1 := s1.trans u10
        generalize upd H11 t2 (.tup [.int il, .int ic]) = H12 at *
        exact ⟨(by show 2 ≤ sizeLine; decide), fun t nt => kq t t2 _ (s1.trans (sameUpd (Same.refl _) nt)) (sameUpd (Same.refl _) nt _ _ ht2) upd_same⟩
end
end Sw

end

section
set_option maxRecDepth 100000
set_option maxHeartbeats 4000000
/-! the law's own: the error of a call, CheckFault's reason and place too -/
namespace Sw
open PySem PySem.Spec PyProof.Rows L2 SwA
/-- an error, told by the law, with what it tells -/
def ErrC (K : PySem.W.Frag) (cls : Value) (d : Option Addr) (H : Hp) (Q : VK) : Prop := ∃ (D : Str) (j : Nat) (z : Str), cls = .ref (He.ga K D) ∧ EKind K D j ∧ wordN[j]? = some z ∧
  ((j < 8 ∧ d = none ∧ ∀ (t : Addr) (H' : Hp), Same H H' → H' t = some (.tup [.str z, .int 0]) → Q (.ref t) H') ∨
   ((j = 10 ∨ j = 11) ∧ XfC K (He.ga K D) ∧ PySem.W.findIn K (.ref (He.ga K D)) "place" = some none ∧ ∃ (dd : Addr) (fs : List (Str × V)) (i : Int), d = some dd ∧ H dd = some (.xd fs) ∧ List.lookup ("place" : Str) fs = some (V.int i) ∧ ∀ (t : Addr) (H' : Hp), Same H H' → H' t = some (.tup [.str z, .int i]) → Q (.ref t) H') ∨
   (j = 8 ∧ XfC K (He.ga K D) ∧ PySem.W.findIn K (.ref (He.ga K D)) "line" = some none ∧ PySem.W.findIn K (.ref (He.ga K D)) "column" = some none ∧ ∃ (dd : Addr) (fs : List (Str × V)) (l c : Int), d = some dd ∧ H dd = some (.xd fs) ∧ List.lookup ("line" : Str) fs = some (V.int l) ∧ List.lookup ("column" : Str) fs = some (V.int c) ∧
     ∀ (t t2 : Addr) (H' : Hp), Same H H' → H' t2 = some (.tup [.int l, .int c]) → H' t = some (.tup [.str z, .ref t2]) → Q (.ref t) H') ∨
   (j = 9 ∧ XfC K (He.ga K D) ∧ PySem.W.findIn K (.ref (He.ga K D)) "reason" = some none ∧ PySem.W.findIn K (.ref (He.ga K D)) "line" = some none ∧ PySem.W.findIn K (.ref (He.ga K D)) "column" = some none ∧ ∃ (dd : Addr) (fs : List (Str × V)) (r : Str) (l c : Int), d = some dd ∧ H dd = some (.xd fs) ∧ List.lookup ("reason" : Str) fs = some (V.str r) ∧ List.lookup ("line" : Str) fs = some (V.int l) ∧ List.lookup ("column" : Str) fs = some (V.int c) ∧
     ∀ (t t2 : Addr) (H' : Hp), Same H H' → H' t2 = some (.tup [.str r, .int l, .int c]) → H' t = some (.tup [.str z, .ref t2]) → Q (.ref t) H'))
def spEofC (P : Program) (w : World) (K : PySem.W.Frag) (mg : Str → Option Value) (n : Nat) (base : Heap) : Sp := fun vs H Q _ => ∃ (f : Addr) (G : Hp → Prop) (sp : Sp), vs = [.ref f] ∧ VOk P w K mg base (L2.CX P w) n f G sp ∧ G H ∧ sp [] H (fun _ H' => Q .non H') (fun cls d H' => ErrC K cls d H' Q)
section
variable {P : Program} {w : World} {K : PySem.W.Frag} {mg : Str → Option Value} {base : Heap}
theorem ok_eofC (T : EofT K mg) (n : Nat) : FnE P w K mg base CX0 (n + 1) ("_law_error_of", none) ["_law_call"] (spEofC P w K mg n base) := by
  obtain ⟨fd, F⟩ := T.d.d
  refine ⟨fd, F.ok sc_eof (fun vs H Q E h => ?_) (fun cdv A outer s H vs Q E hr h => ?_), F.bindsN fun _ _ _ _ _ _ us hl => match us, hl with | [_], _ => rfl, F.kp⟩
  · obtain ⟨f, G, sp, rfl, _⟩ := h
    rfl
  · obtain ⟨f, G, sp, rfl, hVo, hG, hsp⟩ := h
    have hu3 : (eoX P w K mg base cdv A outer s H E).A.units + 3 < cLine := by
      have := hr.un
      show (A.deeper (envOfC "_law_error_of" (defScope s__law_error_of) s.heap.objs.size (He.fAd K ("_law_error_of", none)) cdv)).units + 3 < cLine
      omega
    refine ⟨_, PSs.nox (pss_cons (ps_try_asL (X := eoX P w K mg base cdv A outer s H E) (i := 1) (c := .ref (He.ga K "SweepError")) (ts := ?ts)
        (tb := fun W D σ H => ∃ Ech : XK, (∀ cls d σ' H', Ech cls d H' → W cls d σ' H') ∧ σ[0]? = some (some (.ref f)) ∧ G H ∧ sp [] H (fun _ H' => D.nx σ H') Ech)
        5 rfl rfl rfl sc_eof.nd rfl rfl ⟨rfl, by decide, .inl T.sw⟩ takes0 ?bo ?su)
      (pss_one (ps_ret pe_non))), ?fin⟩
    case su =>
      intro a oe cls d pn hz hf
      have su : PSs ((eoX P w K mg base cdv A outer s H E).suite a ((a, oe) :: pn)) (hdB (defBody s__law_error_of)) _ := (pss_cons (ps_set (i := 2) sc_eof.nd rfl (.inl rfl) (pe_lst (pa_cons (pe_callB (call_isEy (X := eoX P w K mg base cdv A outer s H E) hz hf) (by rfl) T.isinstance (by decide +kernel) (pa_cons (pv 1) (pa_cons (pe_glob (v := .ref (He.ga K "InvalidTick")) (by rfl) (T.g "InvalidTick" (by decide +kernel)) rfl) pa_nil))) (pa_cons (pe_callB (call_isEy (X := eoX P w K mg base cdv A outer s H E) hz hf) (by rfl) T.isinstance (by decide +kernel) (pa_cons (pv 1) (pa_cons (pe_glob (v := .ref (He.ga K "InvalidNumber")) (by rfl) (T.g "InvalidNumber" (by decide +kernel)) rfl) pa_nil))) (pa_cons (pe_callB (call_isEy (X := eoX P w K mg base cdv A outer s H E) hz hf) (by rfl) T.isinstance (by decide +kernel) (pa_cons (pv 1) (pa_cons (pe_glob (v := .ref (He.ga K "UnknownSign")) (by rfl) (T.g "UnknownSign" (by decide +kernel)) rfl) pa_nil))) pa_nil)))))
        (pss_cons (ps_set (i := 2) sc_eof.nd rfl (.inl rfl) (pe_op op_cat (pv 2) (pe_lst (pa_cons (pe_callB (call_isEy (X := eoX P w K mg base cdv A outer s H E) hz hf) (by rfl) T.isinstance (by decide +kernel) (pa_cons (pv 1) (pa_cons (pe_glob (v := .ref (He.ga K "TooLong")) (by rfl) (T.g "TooLong" (by decide +kernel)) rfl) pa_nil))) (pa_cons (pe_callB (call_isEy (X := eoX P w K mg base cdv A outer s H E) hz hf) (by rfl) T.isinstance (by decide +kernel) (pa_cons (pv 1) (pa_cons (pe_glob (v := .ref (He.ga K "OtherCorridor")) (by rfl) (T.g "OtherCorridor" (by decide +kernel)) rfl) pa_nil))) (pa_cons (pe_callB (call_isEy (X := eoX P w K mg base cdv A outer s H E) hz hf) (by rfl) T.isinstance (by decide +kernel) (pa_cons (pv 1) (pa_cons (pe_glob (v := .ref (He.ga K "Contradiction")) (by rfl) (T.g "Contradiction" (by decide +kernel)) rfl) pa_nil))) pa_nil))))))
        (pss_cons (ps_set (i := 2) sc_eof.nd rfl (.inl rfl) (pe_op op_cat (pv 2) (pe_lst (pa_cons (pe_callB (call_isEy (X := eoX P w K mg base cdv A outer s H E) hz hf) (by rfl) T.isinstance (by decide +kernel) (pa_cons (pv 1) (pa_cons (pe_glob (v := .ref (He.ga K "InvalidName")) (by rfl) (T.g "InvalidName" (by decide +kernel)) rfl) pa_nil))) (pa_cons (pe_callB (call_isEy (X := eoX P w K mg base cdv A outer s H E) hz hf) (by rfl) T.isinstance (by decide +kernel) (pa_cons (pv 1) (pa_cons (pe_glob (v := .ref (He.ga K "UnknownName")) (by rfl) (T.g "UnknownName" (by decide +kernel)) rfl) pa_nil))) (pa_cons (pe_callB (call_isEy (X := eoX P w K mg base cdv A outer s H E) hz hf) (by rfl) T.isinstance (by decide +kernel) (pa_cons (pv 1) (pa_cons (pe_glob (v := .ref (He.ga K "SyntaxFault")) (by rfl) (T.g "SyntaxFault" (by decide +kernel)) rfl) pa_nil))) pa_nil))))))
        (pss_cons (ps_set (i := 2) sc_eof.nd rfl (.inl rfl) (pe_op op_cat (pv 2) (pe_lst (pa_cons (pe_callB (call_isEy (X := eoX P w K mg base cdv A outer s H E) hz hf) (by rfl) T.isinstance (by decide +kernel) (pa_cons (pv 1) (pa_cons (pe_glob (v := .ref (He.ga K "CheckFault")) (by rfl) (T.g "CheckFault" (by decide +kernel)) rfl) pa_nil))) (pa_cons (pe_callB (call_isEy (X := eoX P w K mg base cdv A outer s H E) hz hf) (by rfl) T.isinstance (by decide +kernel) (pa_cons (pv 1) (pa_cons (pe_glob (v := .ref (He.ga K "InvalidCode")) (by rfl) (T.g "InvalidCode" (by decide +kernel)) rfl) pa_nil))) (pa_cons (pe_callB (call_isEy (X := eoX P w K mg base cdv A outer s H E) hz hf) (by rfl) T.isinstance (by decide +kernel) (pa_cons (pv 1) (pa_cons (pe_glob (v := .ref (He.ga K "InvalidOperation")) (by rfl) (T.g "InvalidOperation" (by decide +kernel)) rfl) pa_nil))) pa_nil))))))
        (pss_cons (ps_if (PW.pt (pw_or (pt_cmpR op_ne (pe_bm PySem.F.plainAttrs_list PySem.F.slot_list_count PySem.F.type_list_count (mt_bcount (X := (eoX P w K mg base cdv A outer s H E).suite a ((a, oe) :: pn)) hu3) (pv 2) (pa_cons pe_bl pa_nil)) pe_int (nomark _)) (pw_or1 (pt_not (pt_val (pe_callB (call_isEy (X := eoX P w K mg base cdv A outer s H E) hz hf) (by rfl) T.isinstance (by decide +kernel) (pa_cons (pv 1) (pa_cons (pe_bltn (v := .ty "ValueError") (by rfl) T.VE (by decide +kernel) rfl) pa_nil))))))))
          (pss_one (ps_ret (pe_tup (pa_cons pe_str (pa_cons pe_int pa_nil))))) pss_nil)
        (pss_cons (ps_set (i := 3) sc_eof.nd rfl (.inl rfl) (pe_lst (pa_cons pe_str (pa_cons pe_str (pa_cons pe_str (pa_cons pe_str (pa_cons pe_str (pa_cons pe_str (pa_cons pe_str (pa_cons pe_str (pa_cons pe_str (pa_cons pe_str pa_nil))))))))))))
        (pss_cons (ps_set (i := 4) sc_eof.nd rfl (.inl rfl) (pe_ix ix_list (pe_op op_cat (pv 3) (pe_lst (pa_cons pe_str (pa_cons pe_str pa_nil)))) (pe_bm PySem.F.plainAttrs_list PySem.F.slot_list_index PySem.F.type_list_index mt_index (pv 2) (pa_cons pe_bl pa_nil)) (fun _ _ => rfl)))
        (pss_cons (ps_if (pt_cmpR op_in_seq (pv 4) (pe_lst (pa_cons pe_str (pa_cons pe_str pa_nil))) (by rfl))
          (pss_one (ps_ret (pe_tup (pa_cons (pv 4) (pa_cons (pe_ifExp (pt_cmpR op_eq (pv 4) pe_str (nomark _)) (pe_tup (pa_cons (pe_xfy (X := eoX P w K mg base cdv A outer s H E) (n := "line") hz hf (pv 1)) (pa_cons (pe_xfy (X := eoX P w K mg base cdv A outer s H E) (n := "column") hz hf (pv 1)) pa_nil))) (pe_tup (pa_cons (pe_xfy (X := eoX P w K mg base cdv A outer s H E) (n := "reason") hz hf (pv 1)) (pa_cons (pe_xfy (X := eoX P w K mg base cdv A outer s H E) (n := "line") hz hf (pv 1)) (pa_cons (pe_xfy (X := eoX P w K mg base cdv A outer s H E) (n := "column") hz hf (pv 1)) pa_nil))))) pa_nil))))) pss_nil)
        (pss_one (ps_ret (pe_tup (pa_cons (pv 4) (pa_cons (pe_ifExp (pt_cmpR op_in_seq (pv 4) (pe_lst (pa_cons pe_str (pa_cons pe_str pa_nil))) (by rfl)) (pe_xfy (X := eoX P w K mg base cdv A outer s H E) (n := "place") hz hf (pv 1)) pe_int) pa_nil)))))))))))))
      have hK : ((eoX P w K mg base cdv A outer s H E).suite a ((a, oe) :: pn)).K = K := rfl
      rw [hK] at su
      exact su
    case bo =>
      intro W pn xe tk _
      refine ⟨fun pins s' σ H' D I h' => ?_⟩
      obtain ⟨Ech, hW, h1, h2, h3⟩ := h'
      exact (pss_one (ps_expr (pe_callVal0 (X := (eoX P w K mg base cdv A outer s H E).tr pn xe) (i := 0) hVo hr (passes_call tk hW) rfl (.inl rfl)))).run pins s' σ H' D I ⟨h1, h2, h3⟩
    case fin =>
      refine ⟨fun cls d H' => ErrC K cls d H' Q, fun cls d σ' H' hE => ?_, rfl, hG, hsp⟩
      obtain ⟨D, j, z, rfl, ek, hz, hcs⟩ := hE
      have xd : XDat d H' := by
        rcases hcs with ⟨_, e, _⟩ | ⟨_, _, _, dd, fs, _, e, q, _⟩ | ⟨_, _, _, _, dd, fs, _, _, e, q, _⟩ | ⟨_, _, _, _, _, dd, fs, _, _, _, e, q, _⟩
        · exact .inl e
        · exact .inr ⟨dd, fs, e, q⟩
        · exact .inr ⟨dd, fs, e, q⟩
        · exact .inr ⟨dd, fs, e, q⟩
      have hj12 : j < 12 := (List.getElem?_eq_some_iff.mp hz).1
      refine ⟨true, ek.exm, fun _ a na hl => ?_, fun z => nomatch z⟩
      obtain ⟨x0, x1, x2, x3, x4, rfl⟩ : ∃ x0 x1 x2 x3 x4, σ' = [x0, x1, x2, x3, x4] := by
        have hl : (σ'.set 1 (some (.ref a))).length = 5 := hl
        rw [List.length_set] at hl
        match σ', hl with
        | [x0, x1, x2, x3, x4], _ => exact ⟨x0, x1, x2, x3, x4, rfl⟩
      clear hl
      refine ⟨_, rfl, He.ga K D, _, _, decide (0 = j), rfl, xd, ek.ex, rfl, (fun _ h => h), ek.kd ("InvalidTick", 0) (by decide +kernel), _, rfl, He.ga K D, _, _, decide (1 = j), rfl, xd, ek.ex, rfl, (fun _ h => h), ek.kd ("InvalidNumber", 1) (by decide +kernel), _, rfl, He.ga K D, _, _, decide (2 = j), rfl, xd, ek.ex, rfl, (fun _ h => h), ek.kd ("UnknownSign", 2) (by decide +kernel), (by show 3 ≤ sizeLine; decide), fun p1 np1 => ?_⟩
      have s1 := sameUpd (o := .lst [.bl (decide (0 = j)), .bl (decide (1 = j)), .bl (decide (2 = j))]) (Same.refl H') np1
      have hp1 := @upd_same H' p1 (.lst [.bl (decide (0 = j)), .bl (decide (1 = j)), .bl (decide (2 = j))])
      generalize upd H' p1 (.lst [.bl (decide (0 = j)), .bl (decide (1 = j)), .bl (decide (2 = j))]) = H1 at *
      refine ⟨_, rfl, _, rfl, He.ga K D, _, _, decide (3 = j), rfl, xd.same s1, ek.ex, rfl, (fun _ h => h), ek.kd ("TooLong", 3) (by decide +kernel), _, rfl, He.ga K D, _, _, decide (4 = j), rfl, xd.same s1, ek.ex, rfl, (fun _ h => h), ek.kd ("OtherCorridor", 4) (by decide +kernel), _, rfl, He.ga K D, _, _, decide (5 = j), rfl, xd.same s1, ek.ex, rfl, (fun _ h => h), ek.kd ("Contradiction", 5) (by decide +kernel), (by show 3 ≤ sizeLine; decide), fun p2 np2 => ?_⟩
      have u0 := sameUpd (o := .lst [.bl (decide (3 = j)), .bl (decide (4 = j)), .bl (decide (5 = j))]) (Same.refl H1) np2
      have hp2 := @upd_same H1 p2 (.lst [.bl (decide (3 = j)), .bl (decide (4 = j)), .bl (decide (5 = j))])
      replace hp1 := u0 _ _ hp1
      replace s1 := s1.trans u0
      generalize upd H1 p2 (.lst [.bl (decide (3 = j)), .bl (decide (4 = j)), .bl (decide (5 = j))]) = H2 at *
      refine ⟨p1, p2, _, _, rfl, rfl, hp1, hp2, (by show 6 ≤ sizeLine; decide), fun p3 np3 => ?_⟩
      have u1 := sameUpd (o := .lst ([.bl (decide (0 = j)), .bl (decide (1 = j)), .bl (decide (2 = j))] ++ [.bl (decide (3 = j)), .bl (decide (4 = j)), .bl (decide (5 = j))])) (Same.refl H2) np3
      have hp3 := @upd_same H2 p3 (.lst ([.bl (decide (0 = j)), .bl (decide (1 = j)), .bl (decide (2 = j))] ++ [.bl (decide (3 = j)), .bl (decide (4 = j)), .bl (decide (5 = j))]))
      replace s1 := s1.trans u1
      generalize upd H2 p3 (.lst ([.bl (decide (0 = j)), .bl (decide (1 = j)), .bl (decide (2 = j))] ++ [.bl (decide (3 = j)), .bl (decide (4 = j)), .bl (decide (5 = j))])) = H3 at *
      refine ⟨_, rfl, _, rfl, He.ga K D, _, _, decide (6 = j), rfl, xd.same s1, ek.ex, rfl, (fun _ h => h), ek.kd ("InvalidName", 6) (by decide +kernel), _, rfl, He.ga K D, _, _, decide (7 = j), rfl, xd.same s1, ek.ex, rfl, (fun _ h => h), ek.kd ("UnknownName", 7) (by decide +kernel), _, rfl, He.ga K D, _, _, decide (8 = j), rfl, xd.same s1, ek.ex, rfl, (fun _ h => h), ek.kd ("SyntaxFault", 8) (by decide +kernel), (by show 3 ≤ sizeLine; decide), fun p4 np4 => ?_⟩
      have u2 := sameUpd (o := .lst [.bl (decide (6 = j)), .bl (decide (7 = j)), .bl (decide (8 = j))]) (Same.refl H3) np4
      have hp4 := @upd_same H3 p4 (.lst [.bl (decide (6 = j)), .bl (decide (7 = j)), .bl (decide (8 = j))])
      replace hp3 := u2 _ _ hp3
      replace s1 := s1.trans u2
      generalize upd H3 p4 (.lst [.bl (decide (6 = j)), .bl (decide (7 = j)), .bl (decide (8 = j))]) = H4 at *
      refine ⟨p3, p4, _, _, rfl, rfl, hp3, hp4, (by show 9 ≤ sizeLine; decide), fun p5 np5 => ?_⟩
      have u3 := sameUpd (o := .lst (([.bl (decide (0 = j)), .bl (decide (1 = j)), .bl (decide (2 = j))] ++ [.bl (decide (3 = j)), .bl (decide (4 = j)), .bl (decide (5 = j))]) ++ [.bl (decide (6 = j)), .bl (decide (7 = j)), .bl (decide (8 = j))])) (Same.refl H4) np5
      have hp5 := @upd_same H4 p5 (.lst (([.bl (decide (0 = j)), .bl (decide (1 = j)), .bl (decide (2 = j))] ++ [.bl (decide (3 = j)), .bl (decide (4 = j)), .bl (decide (5 = j))]) ++ [.bl (decide (6 = j)), .bl (decide (7 = j)), .bl (decide (8 = j))]))
      replace s1 := s1.trans u3
      generalize upd H4 p5 (.lst (([.bl (decide (0 = j)), .bl (decide (1 = j)), .bl (decide (2 = j))] ++ [.bl (decide (3 = j)), .bl (decide (4 = j)), .bl (decide (5 = j))]) ++ [.bl (decide (6 = j)), .bl (decide (7 = j)), .bl (decide (8 = j))])) = H5 at *
      refine ⟨_, rfl, _, rfl, He.ga K D, _, _, decide (9 = j), rfl, xd.same s1, ek.ex, rfl, (fun _ h => h), ek.kd ("CheckFault", 9) (by decide +kernel), _, rfl, He.ga K D, _, _, decide (10 = j), rfl, xd.same s1, ek.ex, rfl, (fun _ h => h), ek.kd ("InvalidCode", 10) (by decide +kernel), _, rfl, He.ga K D, _, _, decide (11 = j), rfl, xd.same s1, ek.ex, rfl, (fun _ h => h), ek.kd ("InvalidOperation", 11) (by decide +kernel), (by show 3 ≤ sizeLine; decide), fun p6 np6 => ?_⟩
      have u4 := sameUpd (o := .lst [.bl (decide (9 = j)), .bl (decide (10 = j)), .bl (decide (11 = j))]) (Same.refl H5) np6
      have hp6 := @upd_same H5 p6 (.lst [.bl (decide (9 = j)), .bl (decide (10 = j)), .bl (decide (11 = j))])
      replace hp5 := u4 _ _ hp5
      replace s1 := s1.trans u4
      generalize upd H5 p6 (.lst [.bl (decide (9 = j)), .bl (decide (10 = j)), .bl (decide (11 = j))]) = H6 at *
      refine ⟨p5, p6, _, _, rfl, rfl, hp5, hp6, (by show 12 ≤ sizeLine; decide), fun p7 np7 => ?_⟩
      have u5 := sameUpd (o := .lst ((([.bl (decide (0 = j)), .bl (decide (1 = j)), .bl (decide (2 = j))] ++ [.bl (decide (3 = j)), .bl (decide (4 = j)), .bl (decide (5 = j))]) ++ [.bl (decide (6 = j)), .bl (decide (7 = j)), .bl (decide (8 = j))]) ++ [.bl (decide (9 = j)), .bl (decide (10 = j)), .bl (decide (11 = j))])) (Same.refl H6) np7
      have hp7 := @upd_same H6 p7 (.lst ((([.bl (decide (0 = j)), .bl (decide (1 = j)), .bl (decide (2 = j))] ++ [.bl (decide (3 = j)), .bl (decide (4 = j)), .bl (decide (5 = j))]) ++ [.bl (decide (6 = j)), .bl (decide (7 = j)), .bl (decide (8 = j))]) ++ [.bl (decide (9 = j)), .bl (decide (10 = j)), .bl (decide (11 = j))]))
      replace s1 := s1.trans u5
      generalize upd H6 p7 (.lst ((([.bl (decide (0 = j)), .bl (decide (1 = j)), .bl (decide (2 = j))] ++ [.bl (decide (3 = j)), .bl (decide (4 = j)), .bl (decide (5 = j))]) ++ [.bl (decide (6 = j)), .bl (decide (7 = j)), .bl (decide (8 = j))]) ++ [.bl (decide (9 = j)), .bl (decide (10 = j)), .bl (decide (11 = j))])) = H7 at *
      have hk : H7 p7 = some (.lst ((bsJ j).map V.bl)) := hp7
      refine ⟨_, rfl, .inl ⟨rfl, _, SqL.of hk⟩, p7, bsJ j, rfl, rfl, SqL.of hk, ?_⟩
      rw [bs_count hj12]
      refine ⟨rfl, false, rfl, iteF ?_⟩
      refine ⟨_, rfl, He.ga K D, _, _, true, rfl, xd.same s1, ek.ex, rfl, (fun _ h => h), ek.ve, _, rfl, ?_⟩
      refine ⟨(by show 10 ≤ sizeLine; decide), fun p8 np8 => ?_⟩
      have u6 := sameUpd (o := .lst [.str "tick", .str "number", .str "sign", .str "long", .str "other", .str "contradiction", .str "name", .str "unknown", .str "syntax", .str "check"]) (Same.refl H7) np8
      have hp8 := @upd_same H7 p8 (.lst [.str "tick", .str "number", .str "sign", .str "long", .str "other", .str "contradiction", .str "name", .str "unknown", .str "syntax", .str "check"])
      replace hk := u6 _ _ hk
      replace s1 := s1.trans u6
      generalize upd H7 p8 (.lst [.str "tick", .str "number", .str "sign", .str "long", .str "other", .str "contradiction", .str "name", .str "unknown", .str "syntax", .str "check"]) = H8 at *
      refine ⟨_, rfl, (by show 2 ≤ sizeLine; decide), fun p9 np9 => ?_⟩
      have u7 := sameUpd (o := .lst [.str "code", .str "operation"]) (Same.refl H8) np9
      have hp9 := @upd_same H8 p9 (.lst [.str "code", .str "operation"])
      replace hk := u7 _ _ hk
      replace hp8 := u7 _ _ hp8
      replace s1 := s1.trans u7
      generalize upd H8 p9 (.lst [.str "code", .str "operation"]) = H9 at *
      refine ⟨p8, p9, _, _, rfl, rfl, hp8, hp9, (by show 12 ≤ sizeLine; decide), fun p10 np10 => ?_⟩
      have u8 := sameUpd (o := .lst ([.str "tick", .str "number", .str "sign", .str "long", .str "other", .str "contradiction", .str "name", .str "unknown", .str "syntax", .str "check"] ++ [.str "code", .str "operation"])) (Same.refl H9) np10
      have hp10 := @upd_same H9 p10 (.lst ([.str "tick", .str "number", .str "sign", .str "long", .str "other", .str "contradiction", .str "name", .str "unknown", .str "syntax", .str "check"] ++ [.str "code", .str "operation"]))
      replace hk := u8 _ _ hk
      replace s1 := s1.trans u8
      generalize upd H9 p10 (.lst ([.str "tick", .str "number", .str "sign", .str "long", .str "other", .str "contradiction", .str "name", .str "unknown", .str "syntax", .str "check"] ++ [.str "code", .str "operation"])) = H10 at *
      obtain ⟨b1, b2⟩ := bs_at hj12
      refine ⟨_, rfl, .inl ⟨rfl, _, SqL.of hk⟩, p7, _, _, j, .bl true, rfl, rfl, SqL.of hk, rfl, rfl, b1, rfl, b2, p10, _, _, _, rfl, rfl, SqL.of hp10, atI_nat (wordV hz), ?_⟩
      rcases hcs with ⟨hj, rfl, kq⟩ | ⟨hj, hxf, hno, dd, fs, ip, rfl, hdd, hlk, kq⟩ | ⟨rfl, hxf, hno1, hno2, dd, fs, il, ic, rfl, hdd, hl1, hl2, kq⟩ | ⟨rfl, hxf, hno0, hno1, hno2, dd, fs, rr, il, ic, rfl, hdd, hl0, hl1, hl2, kq⟩
      · obtain ⟨w1, w2⟩ := word_out hj hz
        refine ⟨_, rfl, (by show 2 ≤ sizeLine; decide), fun p11 np11 => ?_⟩
        have u9 := sameUpd (o := .lst [.str "syntax", .str "check"]) (Same.refl H10) np11
        have hp11 := @upd_same H10 p11 (.lst [.str "syntax", .str "check"])
        replace s1 := s1.trans u9
        generalize upd H10 p11 (.lst [.str "syntax", .str "check"]) = H11 at *
        refine ⟨p11, _, rfl, .inl (SqL.of hp11), rfl, rfl, false, congrArg V.bl w1, iteF ?_⟩
        refine ⟨_, rfl, _, rfl, (by show 2 ≤ sizeLine; decide), fun p12 np12 => ?_⟩
        have u10 := sameUpd (o := .lst [.str "code", .str "operation"]) (Same.refl H11) np12
        have hp12 := @upd_same H11 p12 (.lst [.str "code", .str "operation"])
        replace s1 := s1.trans u10
        generalize upd H11 p12 (.lst [.str "code", .str "operation"]) = H12 at *
        refine ⟨p12, _, rfl, .inl (SqL.of hp12), rfl, rfl, false, congrArg V.bl w2, iteF ?_⟩
        exact ⟨(by show 2 ≤ sizeLine; decide), fun t nt => kq t _ (s1.trans (sameUpd (Same.refl _) nt)) upd_same⟩
      · have hw : inV (.str z) [.str "syntax", .str "check"] = false ∧ inV (.str z) [.str "code", .str "operation"] = true := by
          rcases hj with rfl | rfl <;> (cases hz; exact ⟨by decide +kernel, by decide +kernel⟩)
        obtain ⟨w1, w2⟩ := hw
        refine ⟨_, rfl, (by show 2 ≤ sizeLine; decide), fun p11 np11 => ?_⟩
        have u9 := sameUpd (o := .lst [.str "syntax", .str "check"]) (Same.refl H10) np11
        have hp11 := @upd_same H10 p11 (.lst [.str "syntax", .str "check"])
        replace s1 := s1.trans u9
        generalize upd H10 p11 (.lst [.str "syntax", .str "check"]) = H11 at *
        refine ⟨p11, _, rfl, .inl (SqL.of hp11), rfl, rfl, false, congrArg V.bl w1, iteF ?_⟩
        refine ⟨_, rfl, _, rfl, (by show 2 ≤ sizeLine; decide), fun p12 np12 => ?_⟩
        have u10 := sameUpd (o := .lst [.str "code", .str "operation"]) (Same.refl H11) np12
        have hp12 := @upd_same H11 p12 (.lst [.str "code", .str "operation"])
        replace s1 := s1.trans u10
        generalize upd H11 p12 (.lst [.str "code", .str "operation"]) = H12 at *
        refine ⟨p12, _, rfl, .inl (SqL.of hp12), rfl, rfl, true, congrArg V.bl w2, iteT ?_⟩
        refine ⟨He.ga K D, hxf, hno, _, rfl, rfl, rfl, dd, fs, .int ip, rfl, s1 _ _ hdd, hlk, ?_⟩
        exact ⟨(by show 2 ≤ sizeLine; decide), fun t nt => kq t _ (s1.trans (sameUpd (Same.refl _) nt)) upd_same⟩
      · have hw : inV (.str z) [.str "syntax", .str "check"] = true := by
          cases hz
          decide +kernel
        refine ⟨_, rfl, (by show 2 ≤ sizeLine; decide), fun p11 np11 => ?_⟩
        have u9 := sameUpd (o := .lst [.str "syntax", .str "check"]) (Same.refl H10) np11
        have hp11 := @upd_same H10 p11 (.lst [.str "syntax", .str "check"])
        replace s1 := s1.trans u9
        generalize upd H10 p11 (.lst [.str "syntax", .str "check"]) = H11 at *
        refine ⟨p11, _, rfl, .inl (SqL.of hp11), rfl, rfl, true, congrArg V.bl hw, iteT ?_⟩
        have ez : z = "syntax" := by
          cases hz
          rfl
        refine ⟨_, rfl, _, rfl, rfl, _, rfl, ?_⟩
        rw [decide_eq_true (show V.str z = V.str "syntax" by rw [ez])]
        refine iteT ⟨He.ga K D, hxf, hno1, _, rfl, rfl, rfl, dd, fs, .int il, rfl, s1 _ _ hdd, hl1, He.ga K D, hxf, hno2, _, rfl, rfl, rfl, dd, fs, .int ic, rfl, s1 _ _ hdd, hl2, (by show 2 ≤ sizeLine; decide), fun t2 nt2 => ?_⟩
        have u10 := sameUpd (o := .tup [.int il, .int ic]) (Same.refl H11) nt2
        have ht2 := @upd_same H11 t2 (.tup [.int il, .int ic])
        replace s1 := s1.trans u10
        generalize upd H11 t2 (.tup [.int il, .int ic]) = H12 at *
        exact ⟨(by show 2 ≤ sizeLine; decide), fun t nt => kq t t2 _ (s1.trans (sameUpd (Same.refl _) nt)) (sameUpd (Same.refl _) nt _ _ ht2) upd_same⟩
      · have hw : inV (.str z) [.str "syntax", .str "check"] = true := by
          cases hz
          decide +kernel
        refine ⟨_, rfl, (by show 2 ≤ sizeLine; decide), fun p11 np11 => ?_⟩
        have u9 := sameUpd (o := .lst [.str "syntax", .str "check"]) (Same.refl H10) np11
        have hp11 := @upd_same H10 p11 (.lst [.str "syntax", .str "check"])
        replace s1 := s1.trans u9
        generalize upd H10 p11 (.lst [.str "syntax", .str "check"]) = H11 at *
        refine ⟨p11, _, rfl, .inl (SqL.of hp11), rfl, rfl, true, congrArg V.bl hw, iteT ?_⟩
        have ez : ¬ V.str z = V.str "syntax" := by
          cases hz
          decide +kernel
        refine ⟨_, rfl, _, rfl, rfl, _, rfl, ?_⟩
        rw [decide_eq_false ez]
        refine iteF ⟨He.ga K D, hxf, hno0, _, rfl, rfl, rfl, dd, fs, .str rr, rfl, s1 _ _ hdd, hl0, He.ga K D, hxf, hno1, _, rfl, rfl, rfl, dd, fs, .int il, rfl, s1 _ _ hdd, hl1, He.ga K D, hxf, hno2, _, rfl, rfl, rfl, dd, fs, .int ic, rfl, s1 _ _ hdd, hl2, (by show 3 ≤ sizeLine; decide), fun t2 nt2 => ?_⟩
        have u10 := sameUpd (o := .tup [.str rr, .int il, .int ic]) (Same.refl H11) nt2
        have ht2 := @upd_same H11 t2 (.tup [.str rr, .int il, .int ic])
        replace s1 := s1.trans u10
        generalize upd H11 t2 (.tup [.str rr, .int il, .int ic]) = H12 at *
        exact ⟨(by show 2 ≤ sizeLine; decide), fun t nt => kq t t2 _ (s1.trans (sameUpd (Same.refl _) nt)) (sameUpd (Same.refl _) nt _ _ ht2) upd_same⟩
end
end Sw

end

section
set_option maxRecDepth 100000
set_option maxHeartbeats 4000000
/-! a def with cells whose body gives out a token; expressions that want one -/
namespace L2
open PySem PySem.Spec PyProof.Rows
section
variable {M : Model} {A : Around} {E : Value → Shared → Prop} {s₀ s : Shared} {m cm : Str → Option Value} {env : Env}
theorem stLCT {n : Str} {v : Value} {Q : Unit → Shared → Prop} (x : InCallC s₀ env.locals m env.cells cm s) (hk : env.scope.kind = .function) (hl : env.kindOf n = some .local)
    (h : ∀ s', 1 ≤ s'.toks → InCallC s₀ env.locals (fun y => if y = n then some v else m y) env.cells cm s' → Q () s') : wpAny M A (storeName env n v) Q E s := by
  refine wpAny_storeName_local hl x.toInCall.ns (fun h' hn' hs' => h _ (by first | exact Nat.le_add_left 1 s.toks | (show 1 ≤ s.toks + 1; omega)) ⟨⟨?_, hn', fun b o e => ?_, x.toInCall.fresh⟩, fun k c hc => ?_, x.apart, x.above⟩) (by rw [hk]; rfl)
  · obtain ⟨h₁, tk, rfl⟩ := x.toInCall.same
    exact ⟨h', _, rfl⟩
  · exact hs'.extBut b o (Nat.ne_of_lt (Nat.lt_of_lt_of_le (Heap.lt_size e) x.toInCall.fresh)) (x.toInCall.keep b o e)
  · exact (x.cell k c hc).sameBut hs' (Nat.ne_of_gt (x.above k c (mem_of_lookup hc)))
theorem newFunctionEnv_cellsT {scope : Scope} {globals : Addr} {n0 : Str} {v0 : Value} {bs : List (Str × Value)} {qual : Str} {func : Option Addr} {code : Value} {builtins : Addr} {Q : Env → Shared → Prop}
    (hk : scope.kind = .function) (h0 : scope.names.lookup n0 = some .local)
    (hkind : ∀ x ∈ bs, scope.names.lookup x.1 = some .local ∨ (scope.names.lookup x.1 = some .cell ∧ ((cellsFrom (s.heap.objs.size + 1) scope.names []).lookup x.1).isSome = true))
    (hQ : ∀ env, env = newEnv scope s.heap.objs.size globals (cellsFrom (s.heap.objs.size + 1) scope.names []) qual func code none builtins →
      ∀ s', 1 ≤ s'.toks → InCallC s env.locals (bindL env.kindOf ((n0, v0) :: bs) fun _ => none) env.cells (bindC env.kindOf ((n0, v0) :: bs) fun _ => none) s' → Q env s') :
    wpAny M A (newFunctionEnv scope globals [] ((n0, v0) :: bs) qual func code none builtins) Q E s := by
  simp only [newFunctionEnv, Option.isSome_none, Bool.false_eq_true, if_false]
  refine wpAny_bind (wpAny_alloc ?_)
  refine wpAny_bind (wpAny_layCells _ (fun name kind cells => by cases hkc : kind == NameKind.cell <;> simp [hkc]) _ _ _ _ ?_)
  have ok := cellsFrom_ok scope.names (s.heap.push { cls := .type "frame", data := .dict #[] }) (s.heap.objs.size + 1) [] ⟨fun _ _ hm => (nomatch hm), List.Pairwise.nil⟩ (by rw [Heap.size_push]; exact Nat.le_refl _)
  rw [Heap.size_push] at ok
  rw [show ({ s with heap := s.heap.push { cls := .type "frame", data := .dict #[] } } : Shared).heap.objs.size = s.heap.objs.size + 1 from Heap.size_push ..]
  have hl : (newEnv scope s.heap.objs.size globals (cellsFrom (s.heap.objs.size + 1) scope.names []) qual func code none builtins).kindOf n0 = some .local := by
    first
    | exact h0
    | (simp only [Env.kindOf]; exact h0)
    | (unfold Env.kindOf; rw [if_pos hk]; exact h0)
    | simpa [Env.kindOf, newEnv, hk] using h0
  refine wpAny_bind ?_
  rw [List.forIn_cons]
  refine wpAny_bind (wpAny_bind (stLCT (s₀ := s) (m := fun _ => none) (cm := fun _ => none) (env := newEnv scope s.heap.objs.size globals (cellsFrom (s.heap.objs.size + 1) scope.names []) qual func code none builtins)
    ⟨⟨⟨_, _, rfl⟩, (Heap.Ns.new s.heap (.type "frame")).keeps (pushCells_keeps _ _), fun b o e => pushCells_keeps _ _ b o (Heap.get?_push_of_some _ e), Nat.le_refl _⟩,
      fun n c hc => (ok.empty n c (mem_of_lookup hc)).1, ok.apart, fun n c hm => (ok.empty n c hm).2⟩ hk hl fun s1 ht x1 => wpAny_pure ?_))
  refine wpAny_with_toks (n := 1) ht ?_
  refine wpAny_mono (wpAny_bindParams (s₀ := s) (env := newEnv scope s.heap.objs.size globals (cellsFrom (s.heap.objs.size + 1) scope.names []) qual func code none builtins) _ (fun _ _ _ => rfl) hk bs _ _ s1
    (fun _ s' => 1 ≤ s'.toks → wpAny M A (pure (newEnv scope s.heap.objs.size globals (cellsFrom (s.heap.objs.size + 1) scope.names []) qual func code none builtins)) Q E s') x1 hkind fun s' x ht' => wpAny_pure (hQ _ rfl s' ht' (by
      unfold bindL bindC
      rw [if_pos hl, if_pos hl]
      exact x))) (fun _ _ z => z) fun _ _ z _ => z
end
theorem fn_ofTC {CX : CXT} {P : Program} {w : World} {K : PySem.W.Frag} {mg : Str → Option Value} {base : Heap} {k : Nat} {f : Addr} {name qual : Str} {params : Arguments} {body : List Stmt} {scope : Scope} {dV kV doc pm cdv ct oc : Value} {an od : Option Addr}
    {osl : Array (Option Value)} {N : List Str} {p0 : Str} {pr : List Str} {sp : Sp} (lk : K.lookup f = some ⟨oc, od, .func (PySem.W.fnOf name qual params body scope dV kV doc pm an cdv ct), osl⟩) (hcd : PySem.W.codeIn K cdv qual = true) (S : FnScope N (p0 :: pr) scope)
    (hp0 : scope.names.lookup p0 = some .local) (len : ∀ vs H Q E, sp vs H Q E → vs.length = (p0 :: pr).length)
    (hbody : ∀ (A : Around) (outer : List Env) (s : Shared) (H : Hp) (vs : List V) (Q : VK) (E : XK), Room k (A.deeper (envOfC qual scope s.heap.objs.size f cdv)) → sp vs H Q E →
      ∃ t, PSsT (cxOf CX P w K mg base N qual scope f cdv A outer s H E) body t ∧ t { nx := fun _ H' => Q .non H', rt := Q } (start N vs) H) :
    FnOk P w K mg base CX (k + 1) f (PySem.W.fnOf name qual params body scope dV kV doc pm an cdv ct) (p0 :: pr) sp := by
  refine ⟨len, fun A outer s H args us vs Q E hr e0 hb r hsp => ?_⟩
  have hl := len _ _ _ _ hsp
  have KX : K.In s.heap := e0.mod.kin.keeps fun b o e => (e0.bs b o e).1
  have lim : s.heap.NoLimit := e0.mod.nolimit.keeps fun b o e => (e0.bs b o e).1
  have hkind : ∀ y ∈ (p0 :: pr).zip us, scope.names.lookup y.1 = some .local ∨ (scope.names.lookup y.1 = some .cell ∧ ((cellsFrom (s.heap.objs.size + 1) scope.names []).lookup y.1).isSome = true) := fun ⟨n, v⟩ hy => by
    rcases S.par n (List.of_mem_zip hy).1 with q | q
    · exact .inl q
    · exact .inr ⟨q, PySem.W.cellsFrom_some _ _ _ (.inl q)⟩
  refine codeAny_call_function hr.depth (KX _ _ lk) rfl S.co S.gen rfl (PySem.W.codeRec_of KX hcd) (hb _ _ _ _ ?_)
  have hul : us.length = (p0 :: pr).length := by rw [← r.length, hl]
  cases us with
  | nil => cases hul
  | cons u0 ur =>
  refine newFunctionEnv_cellsT (n0 := p0) (v0 := u0) (bs := pr.zip ur) S.kind hp0 (fun y hy => hkind y (List.mem_cons_of_mem _ hy)) fun env he s1 hto x => ?_
  subst he
  refine ⟨lim.keeps x.toInCall.keep, codeAny_func ?_⟩
  obtain ⟨t, ht, hq⟩ := hbody A outer s H vs Q E (hr.deeper _) hsp
  have I : Inv (cxOf CX P w K mg base N qual scope f cdv A outer s H E) [] (start N vs) H s1 := inv_start S hr.hd e0 hl r x
  refine wpAny_mono (ht [] s1 (start N vs) H _ hto I hq) (fun fl s' hs => ?_) fun e s' hs => hs
  have fin : ∀ {σ' : St} {H' : Hp} {v : V} {u : Value}, Inv (cxOf CX P w K mg base N qual scope f cdv A outer s H E) [] σ' H' s' → RelV v u → Q v H' → CE outer P w H s Q u s' :=
    fun {σ' H' v u} J rv q => ⟨v, H', J.os, J.bare, J.base, J.hok, rv, q⟩
  cases fl with
  | ret u =>
    obtain ⟨v, σ', H', J, rv, q⟩ := hs
    exact fin J rv q
  | next =>
    obtain ⟨σ', H', J, q⟩ := hs
    exact fin (v := V.non) (u := Value.none) J rfl q
  | brk =>
    obtain ⟨_, _, _, q⟩ := hs
    exact False.elim q
  | cont =>
    obtain ⟨_, _, _, q⟩ := hs
    exact False.elim q
theorem FunD.okT {P : Program} {w : World} {K : PySem.W.Frag} {mg : Str → Option Value} {base : Heap} {x qual : Str} {params : Arguments} {body : List Stmt} {scope : Scope} {dvs : List V} {kws : List (Str × V)} {f : Addr} {fd : FuncData}
    {CX : CXT} {N : List Str} {p0 : Str} {pr : List Str} {k : Nat} {sp : Sp} (F : FunD K x qual params body scope dvs kws f fd) (S : FnScope N (p0 :: pr) scope) (hp0 : scope.names.lookup p0 = some .local) (len : ∀ vs H Q E, sp vs H Q E → vs.length = (p0 :: pr).length)
    (hbody : ∀ (cdv : Value) (A : Around) (outer : List Env) (s : Shared) (H : Hp) (vs : List V) (Q : VK) (E : XK), Room k (A.deeper (envOfC qual scope s.heap.objs.size f cdv)) → sp vs H Q E →
      ∃ t, PSsT (cxOf CX P w K mg base N qual scope f cdv A outer s H E) body t ∧ t { nx := fun _ H' => Q .non H', rt := Q } (start N vs) H) : FnOk P w K mg base CX (k + 1) f fd (p0 :: pr) sp := by
  obtain ⟨oc, od, dV, kV, doc, pm, an, cdv, ct, osl, rfl, lk, hcd, _, _⟩ := F.ex
  exact fn_ofTC lk hcd S hp0 len fun A outer s H vs Q E hr hsp => hbody cdv A outer s H vs Q E hr hsp
section
variable {X : Cx} {o e : Expr} {es : List Expr} {to te tb : TE} {t : TA} {b : Expr} {p pos : Pos}
theorem pet_m0 {id : String} {name : Str} {apos pos : Pos} {r : V → List V → Hp → VK → Prop} (slot : Slot "str" name id) (ty : typeOf (.builtin id) = pure (.type "method_descriptor")) (rule : MtR X id r) (ho : PET X o to)
    (hbase : attributeBase o name X.env (eval o X.env) = eval o X.env := by rfl) (hline : (apos.endLine == pos.line) = true := by rfl) : PET X (.Call (.Attribute o name apos) [] [] pos) (tM0 r to) := by
  intro pins s σ H Q h0 I h
  refine PySem.Call_method0 hbase hline (thn (ho pins s σ H _ h0 I h) fun v s1 ⟨x, H1, I1, r1, q1⟩ => ?_)
  obtain ⟨⟨a, rfl⟩, q1⟩ := q1
  obtain ⟨t, rfl⟩ := _root_.id r1
  exact ⟨"str", _, F.plainAttrs_str, slot, ty, typeIs_str _ _ _, (fun _ e => nomatch e), Calls.callWith_builtin rfl (PySem.evalArgs_none (rule pins s1 σ H1 _ [] _ [] Q I1 r1 .nil q1))⟩
theorem pet_words {apos pos : Pos} (ho : PET X o to) (hbase : attributeBase o "split" X.env (eval o X.env) = eval o X.env := by rfl) (hline : (apos.endLine == pos.line) = true := by rfl) :
    PET X (.Call (.Attribute o "split" apos) [] [] pos) (tM0 (fun x xs H Q => ∃ a, x = .str a ∧ xs = [] ∧ a.length + 2 ≤ sizeLine ∧ rNewStrs (Txt.words a) H Q) to) :=
  pet_m0 F.slot_str_split F.type_str_split mt_words ho hbase hline
theorem pet_call {CX : CXT} {k : Nat} {f : Addr} {fd : FuncData} {ps : List Str} {sp : Sp} {dvs : List V} {ds : List Value} {E : XK} {x : Str} (F : FnOk X.prog X.w X.K X.mg X.base CX k f fd ps sp) (hr : Room k X.A) (hg : Gl X x) (hm : X.mg x = some (.ref f)) (hk : PySem.W.keepIn X.K (.ref f) = true) (hb : Binds X.K fd ps ds) (hd : Vals dvs ds) (hx : Passes CX X E)
    (ha : PAT X (e :: es) t) (hdb : (x == ("__debug__" : Str)) = false := by decide) (he : starEach (e :: es) X.env = (false, eval e X.env) :: starEach es X.env := by rfl) (hpl : (backTo pos (starEach es X.env)).any (·.1) = false := by rfl) :
    PET X (.Call (.Name x p) (e :: es) [] pos) (tCall sp dvs E t) := by
  intro pins s σ H Q h0 I h
  refine wpAny_Call_Name_kw (ld_glob I hg hm ?_ hdb)
  refine PySem.W.callWith_K (h₀ := X.base) I.ok.mod.kin hk (thn (ha pos pins s σ H _ h0 I h) fun us s1 ⟨vs, H1, I1, r, q⟩ => ⟨I1.kIn, ?_⟩) he hpl
  exact run_fn F hr hb hd hx I1 r q
theorem pst_set {i : Nat} {x : Str} {pos' : Pos} (hN : X.N.Nodup) (hi : X.N[i]? = some x) (hx : Loc X.env.scope x) (he : PET X e te) (hs : swapsWith e (some (.Name x pos')) pos.line X.env = pure false := by rfl) (hf : X.fn x = true ∨ X.env.scope.names.lookup x = some .local := by first | exact .inl rfl | exact .inr rfl | assumption) :
    PST X (.Assign [.Name x pos'] e pos) (tAsg te (gName i)) := by
  intro pins s σ H D h0 I h
  refine wpAny_Assign_Name (thn (he pins s σ H _ h0 I h) fun v s1 ⟨y, H1, I1, r1, q1⟩ => ?_) hs
  exact store_ok I1 hN hi hx r1 (fun s2 I2 => ⟨_, H1, I2, q1⟩) hf
/-- a[b] -/
theorem pet_ix {a b : Expr} {ta : TE} {r : R2} (hr : IxR X r) (ha : PET X a ta) (hb : PE X b tb) (hs : PlainIx b) : PET X (.Subscript a b pos) (tOp r ta tb) := by
  intro pins s σ H Q h0 I h
  refine Subscript_ (thn (ha pins s σ H _ h0 I h) fun v s1 ⟨x, H1, I1, r1, q1⟩ => ?_)
  refine thn (hb.run pins s1 σ H1 _ I1 q1) fun u s2 ⟨y, H2, I2, r2, q2⟩ => ?_
  exact hr a b pins s2 σ H2 x y v u Q I2 r1 r2 q2 (hs _ _)
theorem PSsT.nox {st : List Stmt} {t : TS} (h : PSsT X.nox st t) : PSsT X st t := fun pins s σ H D h0 I hw => wpAny_mono (h pins s σ H D h0 (I.wish _) hw) (fun _ _ q => q.unwish) fun _ _ z => False.elim z
end
end L2

end

section
set_option maxRecDepth 100000
set_option maxHeartbeats 4000000
/-! a for loop whose body wants a token -/
namespace L2
open PySem PySem.Spec PyProof.Rows
theorem thnT {α : Type} {t : Sem α} {Q Q' : α → Shared → Prop} {M : Model} {A : Around} {E : Value → Shared → Prop} {s : Shared} (h0 : 1 ≤ s.toks) (h : wpAny M A t Q E s) (hQ : ∀ a s', 1 ≤ s'.toks → Q a s' → Q' a s') : wpAny M A t Q' E s :=
  wpAny_mono (PySem.wpAny_toks_of h0 h) (fun a s' x => hQ a s' x.1 x.2) fun _ _ x => x.2
section
variable {X : Cx}
theorem pst_forT {tg iter : Expr} {body : List Stmt} {wi : TI} {g : TG} {tb : TS} {pos : Pos} (hp : PassesOwn (model X.prog X.w) X.A X.env X.xe) (hc : X.calm = true) (hi : PI X tg iter wi) (hg : PG X tg g) (hb : PSsT X body tb)
    (hs : ∀ x, foldedSetIterable iter X.env x = pure x := by intro _; rfl) : PST X (.For tg iter body [] pos) (tFor wi g tb) := by
  intro pins s σ H D h0 I h
  refine wpAny_For (thnT h0 (hi.run pins s σ H _ I h) fun v s1 h01 h1 => thnT h01 h1 fun itv s2 h02 h2 => ?_) hs
  obtain ⟨it, fp, tn, J, H2, e, I2, T, st2, f2, W, ⟨m0, w0⟩, turn⟩ := h2
  subst e
  have stat : ∀ {H' : Hp}, (∀ b ∈ fp, H' b = none) → ∀ b ∈ fp, FpOk X pins H' b := fun hn b hb => ⟨hn b hb, (f2 b hb).2⟩
  refine codeAny_forLoop_any (fun n s' => 1 ≤ s'.toks ∧ ∃ i σ' H', Inv X pins σ' H' s' ∧ tn i s'.heap ∧ (∀ b ∈ fp, H' b = none) ∧ W i n σ' H') ?_ m0 ⟨h02, 0, σ, H2, I2, st2, fun b hb => (f2 b hb).1, w0⟩
  rintro n s3 ⟨h03, i, σ3, H3, I3, st3, fr3, w3⟩
  rcases turn i n σ3 H3 w3 with ⟨stop, qn⟩ | ⟨go, N, hN, step⟩
  · refine wpAny_passesOwn hp (thn (T.done X rfl rfl rfl hc i pins s3 σ3 H3 X.xe I3 (stat fr3) st3 stop) fun r s4 ⟨hr, I4⟩ => ?_)
    subst hr
    exact wpAny_execs_nil ⟨σ3, H3, I4, qn⟩
  · refine wpAny_passesOwn hp (thnT h03 (T.item X rfl rfl rfl hc i pins s3 σ3 H3 X.xe I3 (stat fr3) st3 go) fun r s4 h04 ⟨u, hr, h4⟩ => ?_)
    subst hr
    refine wpAny_passesOwn hp (thnT h04 h4 fun _ s5 h05 ⟨x, H5, I5, r5, y5, st5, fr5⟩ => ?_)
    have I5' := I5.pinned (stat fr5) (T.obj _ _ st5)
    refine wpAny_passesOwn hp (thnT h05 (hg.run _ s5 σ3 H5 x u _ I5' r5 (step x H5 y5)) fun _ s6 h06 ⟨σ6, H6, I6, q6⟩ => ?_)
    refine wpAny_passesOwn hp (thnT h06 (hb _ s6 σ6 H6 _ h06 I6 q6) fun f s7 h07 q7 => ?_)
    have again : ∀ {σ7 : St} {H7 : Hp}, Inv X (pins ++ pinsAt fp s5.heap) σ7 H7 s7 → N σ7 H7 → ∃ m, m < n ∧ 1 ≤ s7.toks ∧ ∃ i σ' H', Inv X pins σ' H' s7 ∧ tn i s7.heap ∧ (∀ b ∈ fp, H' b = none) ∧ W i m σ' H' := fun {σ7 H7} I7 n7 => by
      obtain ⟨m', hm, w7⟩ := hN σ7 H7 n7
      refine ⟨m', hm, h07, i + 1, σ7, H7, I7.unpinned, T.keep _ _ _ st5 fun b hb o e => (I7.pin (b, o) (List.mem_append_right _ (List.mem_append_right _ (mem_pinsAt hb e)))).1, fun b hb => ?_, w7⟩
      obtain ⟨o, e, d⟩ := T.obj _ _ st5 b hb
      exact (I7.pin (b, o) (List.mem_append_right _ (List.mem_append_right _ (mem_pinsAt hb e)))).2.1
    cases f with
    | next => obtain ⟨σ7, H7, I7, n7⟩ := q7; exact again I7 n7
    | cont => obtain ⟨σ7, H7, I7, n7⟩ := q7; exact again I7 n7
    | brk => obtain ⟨σ7, H7, I7, q7⟩ := q7; exact ⟨σ7, H7, I7.unpinned, q7⟩
    | ret v => obtain ⟨x7, σ7, H7, I7, r7, q7⟩ := q7; exact ⟨x7, σ7, H7, I7.unpinned, r7, q7⟩
/-- a statement that cuts the rest: an if without return, within a body that wants a token -/
theorem psst_cut {st : Stmt} {rest : List Stmt} {t u : TS} (h1 : PS X st t) (h2 : PSsT X rest u) : PSsT X (st :: rest) (fun D σ H => ∃ R : St → Hp → Prop, t { D with nx := R } σ H ∧ ∀ σ' H', R σ' H' → u D σ' H') := by
  intro pins s σ H D h0 I h
  obtain ⟨R, h, hR⟩ := h
  refine wpAny_execs_cons (thnT h0 (h1.run pins s σ H { D with nx := R } I h) fun f s1 h01 q => ?_)
  cases f with
  | next =>
    obtain ⟨σ', H', I', q⟩ := q
    exact h2 pins s1 σ' H' D h01 I' (hR _ _ q)
  | ret v => exact q
  | brk => exact q
  | cont => exact q
end
end L2

end

section
set_option maxRecDepth 100000
set_option maxHeartbeats 4000000
/-! lambdas that are told -/
namespace Sw
open PySem PySem.Spec PyProof.Rows L2 SwA LamX NdefX
theorem mm0 {α : Type} {x : α} {l : List α} : x ∈ x :: l := List.mem_cons_self
theorem mm1 {α : Type} {x a : α} {l : List α} : x ∈ a :: x :: l := List.mem_cons_of_mem _ mm0
theorem mm2 {α : Type} {x a b : α} {l : List α} : x ∈ a :: b :: x :: l := List.mem_cons_of_mem _ mm1
theorem mm3 {α : Type} {x a b c : α} {l : List α} : x ∈ a :: b :: c :: x :: l := List.mem_cons_of_mem _ mm2
theorem mm4 {α : Type} {x a b c d : α} {l : List α} : x ∈ a :: b :: c :: d :: x :: l := List.mem_cons_of_mem _ mm3
theorem mm5 {α : Type} {x a b c d e : α} {l : List α} : x ∈ a :: b :: c :: d :: e :: x :: l := List.mem_cons_of_mem _ mm4
theorem mm6 {α : Type} {x a b c d e f : α} {l : List α} : x ∈ a :: b :: c :: d :: e :: f :: x :: l := List.mem_cons_of_mem _ mm5
theorem mm7 {α : Type} {x a b c d e f g : α} {l : List α} : x ∈ a :: b :: c :: d :: e :: f :: g :: x :: l := List.mem_cons_of_mem _ mm6
theorem mm8 {α : Type} {x a b c d e f g h : α} {l : List α} : x ∈ a :: b :: c :: d :: e :: f :: g :: h :: x :: l := List.mem_cons_of_mem _ mm7
theorem up1 {α : Type} {x a : α} {l : List α} (h : x ∈ l) : x ∈ a :: l := List.mem_cons_of_mem _ h
theorem up5 {α : Type} {x a b c d e : α} {l : List α} (h : x ∈ l) : x ∈ a :: b :: c :: d :: e :: l := up1 (up1 (up1 (up1 (up1 h))))
def lamFreeB (sc outer : Scope) : Bool := sc.names.all fun y => !decide (y.2 = .free) || (decide (outer.names.lookup y.1 = some .cell) || decide (outer.names.lookup y.1 = some .free))
theorem lamFree {sc outer : Scope} (h : lamFreeB sc outer = true) : ∀ y ∈ sc.names, y.2 = .free → outer.names.lookup y.1 = some .cell ∨ outer.names.lookup y.1 = some .free := fun y hy e => by
  have := List.all_eq_true.mp h y hy
  rw [decide_eq_true e, Bool.not_true, Bool.false_or, Bool.or_eq_true, decide_eq_true_eq, decide_eq_true_eq] at this
  exact this
section
variable {CX : CXT} {P : Program} {w : World} {K : PySem.W.Frag} {mg : Str → Option Value} {base : Heap} {N ps fr : List Str} {F : NF} {f t0 : Addr} {e : Expr} {k : Nat} {sp : Sp} {ws : List (Option V)} {H0 : Hp}
theorem vok0 (hf : H0 f = some (LamV f F e .none)) (S : NScope N [] fr F.scope) (C : CellsAt F.cl fr ws base fun _ => none) (hbind : ∀ (doc pm ctv : Value), bindArgs (PySem.W.kdv_fn F.name F.qual F.params (.expr e) F.scope F.cl .none doc pm (.ref F.c) ctv) ⟨[], []⟩ = pure [])
    (hbody : ∀ (A : Around) (outer : List Env) (s : Shared) (H : Hp) (Q : VK) (E : XK), Room k (A.deeper (envF F f s.heap.objs.size)) → sp [] H Q E → ∃ t, PE (ncx CX P w K mg base N F f A outer s H E) e t ∧ t (startF N [] ws) H Q) :
    VOk P w K mg base CX (k + 1) f (gLamV0 f F e) (fun vs H Q E => vs = [] ∧ sp [] H Q E) := vok_V0 S hbind C hbody
theorem vok1 {x : Str} (hf : H0 f = some (LamV f F e (.ref t0))) (S : NScope N [x] fr F.scope) (C : CellsAt F.cl fr ws base fun _ => none) (hbind : ∀ (doc pm ctv : Value), ∃ kk : Option (Array Value) → Sem (List (Str × Value)), bindArgs (PySem.W.kdv_fn F.name F.qual F.params (.expr e) F.scope F.cl (.ref t0) doc pm (.ref F.c) ctv) ⟨[], []⟩ = seqItems? (.ref t0) >>= kk ∧ ∀ u : Value, kk (some #[u]) = pure [(x, u)])
    (hbody : ∀ (A : Around) (outer : List Env) (s : Shared) (H : Hp) (Q : VK) (E : XK), Room k (A.deeper (envF F f s.heap.objs.size)) → sp [] H Q E → ∃ t, PE (ncx CX P w K mg base N F f A outer s H E) e t ∧ t (startF N [.int 0] ws) H Q) :
    VOk P w K mg base CX (k + 1) f (gLamV1 f t0 F e) (fun vs H Q E => vs = [] ∧ sp [] H Q E) := vok_V1 S hbind C hbody
end
theorem codeO_l {c : Addr} {q : Str} (zs : List V) : CodeO c q ≠ .lst zs := fun z => by unfold CodeO at z; cases z
theorem codeO_i {c : Addr} {q : Str} (C dx : Addr) (fs : List (Str × V)) : CodeO c q ≠ .ins C dx fs := fun z => by unfold CodeO at z; cases z
theorem codeO_t {c : Addr} {q : Str} (ps : Array Value) : CodeO c q ≠ .tbl ps := fun z => by unfold CodeO at z; cases z
end Sw

end

section
set_option maxRecDepth 100000
set_option maxHeartbeats 4000000
set_option pp.deepTerms false
set_option pp.deepTerms.threshold 8
/-! k02: the law -/
namespace Sw
open PySem PySem.Spec PyProof.Rows L2 SwA CwR LamX
structure L02T (K : PySem.W.Frag) (mg : Str → Option Value) : Prop where
  fy : FyT K mg
  fp : FpF K mg
  so : SofF K mg
  e : EofT K mg
  ec : EKind K "CheckFault" 9
  xc : XfC K (He.ga K "CheckFault")
theorem tabs_kp02 {H H' : Hp} {T : List (Addr × Str)} (t : Tabs T H) (e : ∀ b o, H b = some o → (∀ xs, o ≠ .lst xs) → H' b = some o) : Tabs T H' := fun p hp => by
  obtain ⟨ps, h1, h2, h3⟩ := t p hp
  refine ⟨ps, e _ _ h1 (by simp), h2, fun pos cv hc => ?_⟩
  obtain ⟨c, e1, e2⟩ := h3 pos cv hc
  exact ⟨c, e1, e _ _ e2 (fun xs z => by unfold CodeO at z; cases z)⟩
theorem tabs_dr {d : Addr} {H H' : Hp} {T : List (Addr × Str)} (t : Tabs T H) (hd : DrawAt H d) (dr : Drawn d H H') : Tabs T H' := by
  obtain ⟨x, y, z, l, e⟩ := id hd
  exact tabs_kp02 t fun b o q n => dr.same _ _ (fun z => by rw [z, e] at q; exact n _ (Option.some.inj q).symm) q
theorem cmp_check {K : PySem.W.Frag} {H : Hp} {t t2 p p2 : Addr} {r : Cs} {i j : Int} (hr : ∀ c ∈ r, c < 128) (h2 : H t2 = some (.tup [sV r, .int i, .int j])) (h1 : H t = some (.tup [.str "check", .ref t2])) (g2 : H p2 = some (.tup [sV r, .int i, .int j])) (g1 : H p = some (.tup [.str "check", .ref p2])) {Q : VK} (k : Q (.bl false) H) : rNeD K (.ref t) (.ref p) H Q := by
  have dd : ∀ {u v : Addr}, H v = some (.tup [sV r, .int i, .int j]) → H u = some (.tup [.str "check", .ref v]) → Dp K H (.ref u) (.tuple [.str "check", .tuple [.str (sx r), .int i, .int j]]) := fun hv hu => .tup (SqT.of hu) (.cons (.str _) (.cons (.tup (SqT.of hv) (.cons (.str _) (.cons (.int _) (.cons (.int _) .nil)))) .nil))
  have hsh : ShD 3 (.tuple [.str "check", .tuple [.str (sx r), .int i, .int j]]) := shd_tuple fun d hd => by
    simp only [List.mem_cons, List.not_mem_nil, or_false] at hd
    rcases hd with rfl | rfl
    · exact (shd_str (by decide +kernel)).mono (by decide)
    · refine shd_tuple fun d hd => ?_
      simp only [List.mem_cons, List.not_mem_nil, or_false] at hd
      rcases hd with rfl | rfl | rfl
      · exact shd_sx fun c hc => Nat.lt_trans (hr c hc) (by decide)
      · exact shd_int _
      · exact shd_int _
  refine ⟨_, _, dd h2 h1, dd g2 g1, hsh.shaped (by decide), hsh.shaped (by decide), ?_⟩
  rw [hsh.eqv]
  exact k
theorem cmp_none {K : PySem.W.Frag} {H : Hp} {Q : VK} (k : Q (.bl false) H) : rNeD K .non .non H Q := by
  refine ⟨_, _, .non, .non, shd_none.shaped (by decide), shd_none.shaped (by decide), ?_⟩
  rw [shd_none.eqv]
  exact k
theorem gives_err {K : PySem.W.Frag} {mg : Str → Option Value} (T : L02T K mg) {text : Cs} {n : Nat} {s : PSt} (hl : loads text = .ok (n, s)) (hlen : text.length ≤ 90000) {H : Hp} {Q QQ : VK} {EE : XK} (hE : ∀ cls d H', ErrC K cls d H' Q → EE cls d H') (hQ : ∀ v H', Q .non H' → QQ v H')
    (h0 : s.faults = [] → ∀ H', Same H H' → Q .non H')
    (h1 : ∀ f fs, s.faults = f :: fs → ∀ (t t2 : Addr) (H' : Hp), Same H H' → H' t2 = some (.tup [sV (minF f fs).2.2, .int ((minF f fs).1 : Nat), .int ((minF f fs).2.1 : Nat)]) → H' t = some (.tup [.str "check", .ref t2]) → Q (.ref t) H') :
    spFpF K [sV text] H QQ EE := by
  refine ⟨text, rfl, hlen, fun n' s' hs hf => ?_, fun n' s' f fs hs hf dd Ha sa ea => ?_, fun lc cc hs => ?_⟩
  · rw [hl] at hs
    cases hs
    exact ⟨loads_wf hl hf, fun _ H' s' => hQ _ _ (h0 hf H' s')⟩
  · rw [hl] at hs
    cases hs
    exact hE _ _ _ ⟨"CheckFault", 9, "check", rfl, T.ec, rfl, .inr (.inr (.inr ⟨rfl, T.xc, T.fp.l.chk.n _ (by simp), T.fp.l.chk.n _ (by simp), T.fp.l.chk.n _ (by simp), dd, _, sx (minF f fs).2.2, ((minF f fs).1 : Nat), ((minF f fs).2.1 : Nat), rfl, ea, (by kernel_rfl), (by kernel_rfl), (by kernel_rfl), fun t t2 Hb sb ht2 ht => h1 f fs hf t t2 Hb (sa.trans sb) ht2 ht⟩))⟩
  · rw [hl] at hs
    cases hs
theorem gives_errS {K : PySem.W.Frag} {mg : Str → Option Value} (T : L02T K mg) {text : Cs} {n : Nat} {s : PSt} (hl : loads text = .ok (n, s)) (hlen : text.length ≤ 90000) {H : Hp} {Q QQ : VK} {EE : XK} (hE : ∀ cls d H', ErrC K cls d H' Q → EE cls d H') (hQ : ∀ v H', Q .non H' → QQ v H')
    (h0 : s.faults = [] → ∀ H', Same H H' → Q .non H')
    (h1 : ∀ f fs, s.faults = f :: fs → ∀ (t t2 : Addr) (H' : Hp), Same H H' → H' t2 = some (.tup [sV (minF f fs).2.2, .int ((minF f fs).1 : Nat), .int ((minF f fs).2.1 : Nat)]) → H' t = some (.tup [.str "check", .ref t2]) → Q (.ref t) H') :
    spSofF K [sV text] H QQ EE := gives_err T hl hlen hE hQ h0 h1
section
variable {P : Program} {w : World} {K : PySem.W.Frag} {mg : Str → Option Value} {base : Heap}
abbrev laN : List Str := ["_law_script", "_law_d", "_law_step", "_law_text", "_law_reason", "_law_before", "_law_place", "_law_plain", "_law_calls", "_law_call", "_law_head", "_law_name", "_law_column"]
theorem sc_law : FnScope laN ["_law_script"] (defScope s_law) := ⟨rfl, rfl, rfl, by decide +kernel, rfl, by decide +kernel, by decide +kernel⟩
def spLaw (K : PySem.W.Frag) (PT : Addr) : Sp := fun vs H Q _ => ∃ (a : Addr) (ns : List Int), vs = [.ref a] ∧ H PT = some (.tbl #[]) ∧ SqL K H a (ns.map V.int) ∧ ns.length ≤ 63 ∧ ∀ H', Q (.bl true) H'
theorem ok_law (T : L02T K mg) {oc : Value} {od : Option Addr} {dV kV doc pm : Value} {an : Option Addr} {cA PT : Addr} {ct : Value} {osl : Array (Option Value)} (lk : K.lookup (He.fAd K ("law", none)) = some ⟨oc, od, .func (PySem.W.fnOf "law" "law" (defArgs s_law) (defBody s_law) (defScope s_law) dV kV doc pm an (.ref cA) ct), osl⟩) (hcd : PySem.W.codeIn K (.ref cA) "law" = true) (TB : LamX.TabB base mg cA PT) :
    FnOk P w K mg base CX0 16 (He.fAd K ("law", none)) (PySem.W.fnOf "law" "law" (defArgs s_law) (defBody s_law) (defScope s_law) dV kV doc pm an (.ref cA) ct) ["_law_script"] (spLaw K PT) := by
  obtain ⟨fdR, GR, bR, kR⟩ := ok_random (P := P) (w := w) (base := base) T.fy.l
  obtain ⟨fdFA, GFA, bFA, kFA⟩ := ok_fau (P := P) (w := w) (base := base) T.fy
  obtain ⟨fdEO, _, _, kEO⟩ := ok_eofC (P := P) (w := w) (base := base) T.e 13
  have EOF : ∀ base2 : Heap, ∃ fd, FnOk P w K mg base2 CX0 14 (He.fAd K ("_law_error_of", none)) fd ["_law_call"] (spEofC P w K mg 13 base2) ∧ L2.Binds K fd ["_law_call"] [] := fun b2 => let ⟨fd, G, bi, _⟩ := ok_eofC (P := P) (w := w) (base := b2) T.e 13; ⟨fd, G, bi⟩
  refine fn_ofTC lk hcd sc_law (by rfl) (fun vs H Q E h => ?_) (fun A outer s H vs Q E hr h => ?_)
  · obtain ⟨a, ns, rfl, _⟩ := h
    rfl
  · obtain ⟨a, ns, rfl, hPT, ha, hn, k⟩ := h
    have hr1 : Room 1 _ := hr.mono (by decide)
    have hr3 : Room 3 _ := hr.mono (by decide)
    have hr14 : Room 14 _ := hr.mono (by decide)
    obtain ⟨QT, hQT⟩ : ∃ QT : Str, QT = (cxOf CX0 P w K mg base laN "law" (defScope s_law) (He.fAd K ("law", none)) (.ref cA) A outer s H E).env.qual ++ "<lambda>" := ⟨_, rfl⟩
    refine ⟨_, PSsT.nox (psst_cons (PST.of (ps_set (i := 1) sc_law.nd rfl (.inl rfl) (pe_call GR hr1 rfl T.fy.l.random.g kR bR .nil pass0 (pa_cons (pv 0) (pa_cons pe_int pa_nil)))))
      (psst_cons (pst_forT PassesOwn.never rfl (pi_range1 (by rfl) T.fy.l.range (pa_cons pe_int pa_nil)) (pg_name (i := 2) sc_law.nd rfl (.inl rfl))
        (psst_cons (PST.of (ps_asg (pe_call GFA hr3 rfl T.fy.fau.g kFA bFA .nil pass0 (pa_cons (pv 1) pa_nil))
          (pg_tup rfl (pgs_cons (pg_name (i := 3) sc_law.nd rfl (.inl rfl)) (pgs_cons (pg_name (i := 4) sc_law.nd rfl (.inl rfl)) pgs_nil)))))
        (psst_cons (PST.of (ps_set (i := 5) sc_law.nd rfl (.inl rfl) (pe_slice sl_str (pv 3) po_none (po_some (pe_bm PySem.F.plainAttrs_str PySem.F.slot_str_index PySem.F.type_str_index mt_sindex (pv 3) (pa_cons pe_str pa_nil))))))
        (psst_cons (PST.of (ps_set (i := 6) sc_law.nd rfl (.inl rfl) (pe_tup (pa_cons (pe_bm PySem.F.plainAttrs_str PySem.F.slot_str_count PySem.F.type_str_count mt_count (pv 5) (pa_cons pe_str pa_nil)) (pa_cons (pe_op op_sub (pe_op op_sub (pe_callB call_len_str (by rfl) T.fy.l.len boot_len (pa_cons (pv 5) pa_nil)) (pe_bm PySem.F.plainAttrs_str PySem.F.slot_str_rfind PySem.F.type_str_rfind mt_rfind (pv 5) (pa_cons pe_str pa_nil))) pe_int) pa_nil)))))
        (psst_cons (pst_set (i := 7) sc_law.nd rfl (.inr rfl) (pet_replC (pv 3)))
        (PSsT.of (pss_cons (ps_set (i := 8) sc_law.nd rfl (.inl rfl) (pe_lst (pa_cons (pe_lamV0 (T := [(PT, QT)]) TB rfl (by rw [hQT]; exact List.mem_singleton.mpr rfl) (fun q hq _ => by rw [List.mem_singleton.mp hq]; exact hQT) rfl (lamFree (by rfl))) (pa_cons (pe_lamV1 (T := [(PT, QT)]) TB rfl (by rw [hQT]; exact List.mem_singleton.mpr rfl) (fun q hq _ => by rw [List.mem_singleton.mp hq]; exact hQT) rfl rfl pe_int (lamFree (by rfl))) pa_nil))))
        (pss_one (ps_for PassesOwn.never rfl (pi_list (pv 8)) (pg_name (i := 9) sc_law.nd rfl (.inl rfl))
          (pss_one (ps_if (pt_cmpR (op_neD hr.units) (pe_callL (fun _ => rfl) EOF hr14 rfl T.e.d.g kEO pass0 (pa_cons (pv 9) pa_nil)) (pe_ifExp (pt_cmpR op_ne (pv 4) pe_str (nomark _)) (pe_tup (pa_cons pe_str (pa_cons (pe_tup (pa_cons (pv 4) (pa_cons (pe_ix ix_tup (pv 6) pe_int (fun _ _ => rfl)) (pa_cons (pe_ix ix_tup (pv 6) pe_int (fun _ _ => rfl)) pa_nil)))) pa_nil))) pe_non) (nomark _))
            (pss_one (ps_ret pe_bl)) pss_nil)))))))))))
      (PSsT.of (pss_cons (ps_set (i := 10) sc_law.nd rfl (.inl rfl) pe_str)
      (pss_cons (ps_for PassesOwn.never rfl (pi_list (pe_lst (pa_cons (pe_tup (pa_cons pe_str (pa_cons pe_int pa_nil))) (pa_cons (pe_tup (pa_cons pe_str (pa_cons pe_int pa_nil))) (pa_cons (pe_tup (pa_cons pe_str (pa_cons pe_int pa_nil))) (pa_cons (pe_tup (pa_cons pe_str (pa_cons pe_int pa_nil))) pa_nil)))))) (pg_tup rfl (pgs_cons (pg_name (i := 11) sc_law.nd rfl (.inl rfl)) (pgs_cons (pg_name (i := 12) sc_law.nd rfl (.inl rfl)) pgs_nil)))
        (pss_cons (ps_set (i := 7) sc_law.nd rfl (.inr rfl) (pe_op op_add_str (pe_op op_add_str (pe_op op_add_str (pv 10) pe_str) (pv 11)) pe_str))
        (pss_one (ps_if (pt_cmpR (op_neD hr.units) (pe_callL (fun _ => rfl) EOF hr14 rfl T.e.d.g kEO pass0 (pa_cons (pe_lamV0 (T := [(PT, QT)]) TB rfl (by rw [hQT]; exact List.mem_singleton.mpr rfl) (fun q hq _ => by rw [List.mem_singleton.mp hq]; exact hQT) rfl (lamFree (by rfl))) pa_nil)) (pe_tup (pa_cons pe_str (pa_cons (pe_tup (pa_cons pe_str (pa_cons pe_int (pa_cons (pv 12) pa_nil)))) pa_nil))) (nomark _))
          (pss_one (ps_ret pe_bl)) pss_nil))))
      (pss_one (ps_ret pe_bl))))))), ?_⟩
    refine ⟨_, rfl, a, _, ns, rfl, ha, hn, fun d H1 nd s1 hd => ?_⟩
    have tb1 : Tabs [(PT, QT)] H1 := fun q hq => by rw [List.mem_singleton.mp hq]; exact LamX.TabS.nil (s1 _ _ hPT)
    refine ⟨_, rfl, by decide, by decide, ?_⟩
    refine for_range (lo := 0) (n := (6 : Int).toNat) (fun i σ Hx => ∃ o2 o3 o4 o5 o6 o7 o8 o9 : Option V, σ = [some (.ref a), some (.ref d), o2, o3, o4, o5, o6, o7, o8, o9, none, none, none] ∧ DrawAt Hx d ∧ Tabs [(PT, QT)] Hx) ⟨none, none, none, none, none, none, none, none, rfl, hd, tb1⟩ ?_ ?_
    · clear hd tb1 hPT s1 nd ha
      rintro i σ Hx hi ⟨o2, o3, o4, o5, o6, o7, o8, o9, rfl, hd, tb⟩
      refine ⟨_, rfl, d, rfl, hd, fun t H2 q dr nt hq hc => ?_⟩
      obtain ⟨h1, h2, h3, h4, n, s', hl, hcase⟩ := check_gives hc
      clear hc
      replace tb := tabs_dr tb hd dr
      replace hd := dr.at_
      have hq : H2 t = some (.tup [sV (q.1 ++ 64 :: q.2.1), sV q.2.2]) := hq
      refine ⟨t, _, rfl, SqT.of hq, rfl, _, _, rfl, _, _, rfl, rfl, ?_⟩
      clear hq dr nt
      obtain ⟨rest, hidx⟩ := index_sx (b := q.2.1) h1
      have hlx : (sx (q.1 ++ 64 :: q.2.1)).length ≤ 5000 := by
        rw [len_sx, List.length_append, List.length_cons]
        omega
      refine ⟨_, rfl, _, rfl, rfl, sx (q.1 ++ 64 :: q.2.1), "@", q.1.length, rest, rfl, rfl, hidx, _, rfl, _, rfl, by rw [sizeLine_eq]; omega, ?_⟩
      rw [cut_before]
      refine ⟨_, rfl, rfl, sx q.1, "\n", rfl, rfl, ?_⟩
      rw [count_sx]
      refine ⟨_, rfl, _, rfl, by rw [len_sx]; exact sz5 (by omega), _, rfl, rfl, sx q.1, "\n", rfl, rfl, _, _, rfl, rfl, _, _, rfl, rfl, ?_⟩
      dsimp only [tNil]
      have ecol : (((sx q.1).length : Nat) : Int) - Txt.rfind (sx q.1) "\n" - 1 = (colL q.1 : Nat) := by
        rw [len_sx]
        exact rfind_sx q.1
      rw [ecol]
      refine ⟨(by show 2 ≤ sizeLine; decide), fun pl npl => ?_⟩
      have s3 := sameUpd (o := .tup [.int (((rowsOf q.1).length - 1 : Nat) : Int), .int ((colL q.1 : Nat) : Int)]) (Same.refl H2) npl
      have hpl := @upd_same H2 pl (.tup [.int (((rowsOf q.1).length - 1 : Nat) : Int), .int ((colL q.1 : Nat) : Int)])
      replace hd := hd.same s3
      generalize upd H2 pl (.tup [.int (((rowsOf q.1).length - 1 : Nat) : Int), .int ((colL q.1 : Nat) : Int)]) = H3 at *
      replace tb := Tabs.ext tb s3
      refine ⟨_, rfl, _, rfl, ?_, ?_⟩
      · have : ("" : Str).length = 0 := by decide +kernel
        rw [this]
        omega
      rw [replace_sx h1 h2]
      -- the two calls
      refine ⟨tb, fun f1 c1 H9 xN1 tb1 nf1 hf1 hc1 => ⟨tb1, fun f2 c2 t0 H10 xN2 tb2 nf2 ht0 hf2 hc2 => ⟨(by show 2 ≤ sizeLine; decide), fun cl ncl => ?_⟩⟩⟩
      have hd9 : DrawAt H9 d := let ⟨x, y, z, q, e⟩ := hd; ⟨x, y, z, q, xN1 _ _ e (fun _ z => by cases z)⟩
      have hd10 : DrawAt H10 d := let ⟨x, y, z, q, e⟩ := hd9; ⟨x, y, z, q, xN2 _ _ e (fun _ z => by cases z)⟩
      have hpl9 := xN1 _ _ hpl (fun _ z => by cases z)
      have hpl10 := xN2 _ _ hpl9 (fun _ z => by cases z)
      have hf110 := xN2 _ _ hf1 (fun _ z => by unfold LamV at z; cases z)
      have hc110 := xN2 _ _ hc1 (fun _ z => by unfold CodeO at z; cases z)
      clear hd hd9 hpl hpl9 hf1 hc1 xN1 xN2 tb tb1
      have sL := sameUpd (o := .lst [.ref f1, .ref f2]) (Same.refl H10) ncl
      have hcl := @upd_same H10 cl (.lst [.ref f1, .ref f2])
      replace hpl10 := sL _ _ hpl10
      replace hf110 := sL _ _ hf110
      replace hc110 := sL _ _ hc110
      replace ht0 := sL _ _ ht0
      replace hf2 := sL _ _ hf2
      replace hc2 := sL _ _ hc2
      replace hd10 := hd10.same sL
      generalize upd H10 cl (.lst [.ref f1, .ref f2]) = HL at *
      replace tb2 := Tabs.ext tb2 sL
      refine ⟨_, rfl, cl, rfl, ⟨_, SqL.of hcl⟩, ?_⟩
      refine for_list (K := K) (a := cl) (xs := [.ref f1, .ref f2]) (fun j σ Hx => ∃ o9 : Option V, σ = [some (.ref a), some (.ref d), some (.int (0 + (i : Nat))), some (sV (q.1 ++ 64 :: q.2.1)), some (sV q.2.2), some (V.str (sx q.1)), some (.ref pl), some (sV (q.1 ++ q.2.1)), some (.ref cl), o9, none, none, none] ∧ Same HL Hx) ⟨_, rfl, Same.refl _⟩ (fun j σ Hx _ ⟨_, _, sm⟩ => SqL.of (sm _ _ hcl)) ?_ ?_
      · rintro j x σ Hx hx ⟨o9, rfl, sm⟩
        refine ⟨_, rfl, ?_⟩
        intro base2 Lc
        match j, hx with
        | 0, hx =>
          cases hx
          obtain ⟨fdF, GF, bF, kF⟩ := ok_fpF (P := P) (w := w) (base := base2) T.fp
          refine ⟨f1, _, _, rfl, vok0 (P := P) (w := w) (K := K) (mg := mg) (base := base2) (CX := L2.CX P w) (k := 12) (N := ["_law_plain"]) (fr := ["_law_plain"]) (ws := [some (sV (q.1 ++ q.2.1))]) (sp := fun _ H Q E => spFpF K [sV (q.1 ++ q.2.1)] H Q E) (sm _ _ hf110) (NdefX.nscope_by (by rfl)) (Lc.ce _ _ [7] fun ok => NdefX.Caps.made ok (lamFree (by rfl)) (by decide +kernel) rfl) (fun _ _ _ => rfl) (fun A outer s H Q E hr h1 => ⟨_, pe_call GF (hr.mono (by decide)) rfl T.fp.fp.g kF bF .nil (passes_call (takes_of rfl rfl rfl rfl) (fun _ _ _ _ h => h)) (pa_cons (pv 0) pa_nil), ⟨_, rfl, h1⟩⟩), ⟨sm _ _ hf110, sm _ _ hc110⟩, ⟨rfl, ?_⟩⟩
          refine gives_err T hl (by rw [List.length_append]; omega) (fun _ _ _ h => h) (fun _ _ h => h) ?_ ?_
          · intro hf H' s1
            rcases hcase with ⟨_, hr0⟩ | ⟨f, fs, z, _⟩
            · refine ⟨_, rfl, rfl, false, congrArg V.bl (by rw [hr0]; decide +kernel), iteF ?_⟩
              dsimp only [tC]
              refine cmp_none ?_
              refine ⟨_, rfl, iteF ?_⟩
              exact ⟨_, rfl, sm.trans s1⟩
            · rw [hf] at z
              cases z
          · intro f fs hf t t2 H' s1 h2 h1
            rcases hcase with ⟨z, _⟩ | ⟨f', fs', z, hne, hm, hch⟩
            · rw [hf] at z
              cases z
            rw [hf] at z
            injection z with z1 z2
            subst z1 z2
            rw [hm] at h2
            have hpl := s1 _ _ (sm _ _ hpl10)
            have hne' : ¬ sV q.2.2 = V.str "" := fun z => hne (sx_inj ((V.str.inj z).trans (by kernel_rfl)))
            refine ⟨_, rfl, rfl, true, congrArg V.bl (by rw [decide_eq_false hne']; rfl), iteT ?_⟩
            refine ⟨_, rfl, _, rfl, pl, _, _, _, rfl, rfl, SqT.of hpl, atI_nat (j := 0) rfl, _, rfl, pl, _, _, _, rfl, rfl, SqT.of hpl, atI_nat (j := 1) rfl, (by show 3 ≤ sizeLine; decide), fun p1 np1 => ⟨(by show 2 ≤ sizeLine; decide), fun p2 np2 => ?_⟩⟩
            have s5 := sameUpd (o := .tup [sV q.2.2, .int (((rowsOf q.1).length - 1 : Nat) : Int), .int ((colL q.1 : Nat) : Int)]) (Same.refl H') np1
            have hp1 := @upd_same H' p1 (.tup [sV q.2.2, .int (((rowsOf q.1).length - 1 : Nat) : Int), .int ((colL q.1 : Nat) : Int)])
            replace h1 := s5 _ _ h1
            replace h2 := s5 _ _ h2
            generalize upd H' p1 (.tup [sV q.2.2, .int (((rowsOf q.1).length - 1 : Nat) : Int), .int ((colL q.1 : Nat) : Int)]) = HA at *
            have s6 := sameUpd (o := .tup [.str "check", .ref p1]) (Same.refl HA) np2
            have hp2 := @upd_same HA p2 (.tup [.str "check", .ref p1])
            replace h1 := s6 _ _ h1
            replace h2 := s6 _ _ h2
            replace hp1 := s6 _ _ hp1
            generalize upd HA p2 (.tup [.str "check", .ref p1]) = HB at *
            refine cmp_check hch h2 h1 hp1 hp2 ?_
            refine ⟨_, rfl, iteF ?_⟩
            exact ⟨_, rfl, ((sm.trans s1).trans s5).trans s6⟩
        | 1, hx =>
          cases hx
          obtain ⟨fdF, GF, bF, kF⟩ := ok_sofF (P := P) (w := w) (base := base2) T.so
          refine ⟨f2, _, _, rfl, vok1 (P := P) (w := w) (K := K) (mg := mg) (base := base2) (CX := L2.CX P w) (k := 12) (N := ["_law_a", "_law_plain"]) (fr := ["_law_plain"]) (ws := [some (sV (q.1 ++ q.2.1))]) (x := "_law_a") (sp := fun _ H Q E => spSofF K [sV (q.1 ++ q.2.1)] H Q E) (sm _ _ hf2) (NdefX.nscope_by (by rfl)) (Lc.ce _ _ [7] fun ok => NdefX.Caps.made ok (lamFree (by rfl)) (by decide +kernel) rfl) (fun _ _ _ => ⟨_, rfl, fun _ => rfl⟩) (fun A outer s H Q E hr h1 => ⟨_, pe_call GF (hr.mono (by decide)) rfl T.so.so.g kF bF .nil (passes_call (takes_of rfl rfl rfl rfl) (fun _ _ _ _ h => h)) (pa_cons (pv 1) pa_nil), ⟨_, rfl, h1⟩⟩), ⟨sm _ _ hf2, sm _ _ ht0, sm _ _ hc2⟩, ⟨rfl, ?_⟩⟩
          refine gives_errS T hl (by rw [List.length_append]; omega) (fun _ _ _ h => h) (fun _ _ h => h) ?_ ?_
          · intro hf H' s1
            rcases hcase with ⟨_, hr0⟩ | ⟨f, fs, z, _⟩
            · refine ⟨_, rfl, rfl, false, congrArg V.bl (by rw [hr0]; decide +kernel), iteF ?_⟩
              dsimp only [tC]
              refine cmp_none ?_
              refine ⟨_, rfl, iteF ?_⟩
              exact ⟨_, rfl, sm.trans s1⟩
            · rw [hf] at z
              cases z
          · intro f fs hf t t2 H' s1 h2 h1
            rcases hcase with ⟨z, _⟩ | ⟨f', fs', z, hne, hm, hch⟩
            · rw [hf] at z
              cases z
            rw [hf] at z
            injection z with z1 z2
            subst z1 z2
            rw [hm] at h2
            have hpl := s1 _ _ (sm _ _ hpl10)
            have hne' : ¬ sV q.2.2 = V.str "" := fun z => hne (sx_inj ((V.str.inj z).trans (by kernel_rfl)))
            refine ⟨_, rfl, rfl, true, congrArg V.bl (by rw [decide_eq_false hne']; rfl), iteT ?_⟩
            refine ⟨_, rfl, _, rfl, pl, _, _, _, rfl, rfl, SqT.of hpl, atI_nat (j := 0) rfl, _, rfl, pl, _, _, _, rfl, rfl, SqT.of hpl, atI_nat (j := 1) rfl, (by show 3 ≤ sizeLine; decide), fun p1 np1 => ⟨(by show 2 ≤ sizeLine; decide), fun p2 np2 => ?_⟩⟩
            have s5 := sameUpd (o := .tup [sV q.2.2, .int (((rowsOf q.1).length - 1 : Nat) : Int), .int ((colL q.1 : Nat) : Int)]) (Same.refl H') np1
            have hp1 := @upd_same H' p1 (.tup [sV q.2.2, .int (((rowsOf q.1).length - 1 : Nat) : Int), .int ((colL q.1 : Nat) : Int)])
            replace h1 := s5 _ _ h1
            replace h2 := s5 _ _ h2
            generalize upd H' p1 (.tup [sV q.2.2, .int (((rowsOf q.1).length - 1 : Nat) : Int), .int ((colL q.1 : Nat) : Int)]) = HA at *
            have s6 := sameUpd (o := .tup [.str "check", .ref p1]) (Same.refl HA) np2
            have hp2 := @upd_same HA p2 (.tup [.str "check", .ref p1])
            replace h1 := s6 _ _ h1
            replace h2 := s6 _ _ h2
            replace hp1 := s6 _ _ hp1
            generalize upd HA p2 (.tup [.str "check", .ref p1]) = HB at *
            refine cmp_check hch h2 h1 hp1 hp2 ?_
            refine ⟨_, rfl, iteF ?_⟩
            exact ⟨_, rfl, ((sm.trans s1).trans s5).trans s6⟩
      · rintro σ Hx ⟨o9, rfl, sm⟩
        exact ⟨_, _, _, _, _, _, _, _, rfl, hd10.same sm, Tabs.ext tb2 sm⟩
    · rintro σ Hx ⟨o2, o3, o4, o5, o6, o7, o8, o9, rfl, hd, tb⟩
      refine ⟨(by show 2 ≤ sizeLine; decide), fun t1 nt1 => ⟨(by show 2 ≤ sizeLine; decide), fun t2 nt2 => ⟨(by show 2 ≤ sizeLine; decide), fun t3 nt3 => ⟨(by show 2 ≤ sizeLine; decide), fun t4 nt4 => ⟨(by show 4 ≤ sizeLine; decide), fun li nli => ?_⟩⟩⟩⟩⟩
      refine ⟨li, rfl, ⟨_, SqL.of upd_same⟩, ?_⟩
      have s1 := sameUpd (o := .tup [.str "zz no", .int 5]) (Same.refl Hx) nt1
      have ht1 := @upd_same Hx t1 (.tup [.str "zz no", .int 5])
      replace hd := hd.same s1
      generalize upd Hx t1 (.tup [.str "zz no", .int 5]) = J1 at *
      replace tb := Tabs.ext tb s1
      have s2 := sameUpd (o := .tup [.str "go zz", .int 8]) (Same.refl J1) nt2
      have ht2 := @upd_same J1 t2 (.tup [.str "go zz", .int 8])
      replace ht1 := s2 _ _ ht1
      replace hd := hd.same s2
      generalize upd J1 t2 (.tup [.str "go zz", .int 8]) = J2 at *
      replace tb := Tabs.ext tb s2
      have s3 := sameUpd (o := .tup [.str "red zz", .int 9]) (Same.refl J2) nt3
      have ht3 := @upd_same J2 t3 (.tup [.str "red zz", .int 9])
      replace ht1 := s3 _ _ ht1
      replace ht2 := s3 _ _ ht2
      replace hd := hd.same s3
      generalize upd J2 t3 (.tup [.str "red zz", .int 9]) = J3 at *
      replace tb := Tabs.ext tb s3
      have s4 := sameUpd (o := .tup [.str "blue no", .int 5]) (Same.refl J3) nt4
      have ht4 := @upd_same J3 t4 (.tup [.str "blue no", .int 5])
      replace ht1 := s4 _ _ ht1
      replace ht2 := s4 _ _ ht2
      replace ht3 := s4 _ _ ht3
      replace hd := hd.same s4
      generalize upd J3 t4 (.tup [.str "blue no", .int 5]) = J4 at *
      replace tb := Tabs.ext tb s4
      have s5 := sameUpd (o := .lst [.ref t1, .ref t2, .ref t3, .ref t4]) (Same.refl J4) nli
      have hli := @upd_same J4 li (.lst [.ref t1, .ref t2, .ref t3, .ref t4])
      replace ht1 := s5 _ _ ht1
      replace ht2 := s5 _ _ ht2
      replace ht3 := s5 _ _ ht3
      replace ht4 := s5 _ _ ht4
      replace hd := hd.same s5
      generalize upd J4 li (.lst [.ref t1, .ref t2, .ref t3, .ref t4]) = J5 at *
      replace tb := Tabs.ext tb s5
      clear s1 s2 s3 s4 s5 nt1 nt2 nt3 nt4 nli hd
      have hel : ∀ (j : Nat) (x : V), ([.ref t1, .ref t2, .ref t3, .ref t4] : List V)[j]? = some x → ∃ (ta : Addr) (q : Cs × Nat), x = .ref ta ∧ q ∈ endL ∧ J5 ta = some (.tup [sV q.1, .int (q.2 : Nat)]) := by
        intro j x hx
        match j, hx with
        | 0, hx => cases hx; exact ⟨t1, (txt "zz no", 5), rfl, by decide +kernel, by rw [ht1]; kernel_rfl⟩
        | 1, hx => cases hx; exact ⟨t2, (txt "go zz", 8), rfl, by decide +kernel, by rw [ht2]; kernel_rfl⟩
        | 2, hx => cases hx; exact ⟨t3, (txt "red zz", 9), rfl, by decide +kernel, by rw [ht3]; kernel_rfl⟩
        | 3, hx => cases hx; exact ⟨t4, (txt "blue no", 5), rfl, by decide +kernel, by rw [ht4]; kernel_rfl⟩
      clear ht1 ht2 ht3 ht4
      refine for_list (K := K) (a := li) (xs := [.ref t1, .ref t2, .ref t3, .ref t4]) (fun j σ Hy => ∃ o7 o11 o12 : Option V, σ = [some (.ref a), some (.ref d), o2, o3, o4, o5, o6, o7, o8, o9, some (sV cH3), o11, o12] ∧ Tabs [(PT, QT)] Hy ∧ Hy li = some (.lst [.ref t1, .ref t2, .ref t3, .ref t4]) ∧ ∀ b xs, J5 b = some (.tup xs) → Hy b = some (.tup xs)) ⟨_, _, _, by rfl, tb, hli, fun _ _ h => h⟩ (fun j σ Hy _ ⟨_, _, _, _, _, sm, _⟩ => SqL.of sm) ?_ ?_
      · clear tb
        rintro j x σ Hy hx ⟨o7, o11, o12, rfl, tb, hli, sm⟩
        obtain ⟨ta, q, rfl, hq, hta⟩ := hel j x hx
        obtain ⟨hlen, n, s', f, fs, hl, hf, hm⟩ := end_gives hq
        replace hta := sm _ _ hta
        refine ⟨ta, _, rfl, SqT.of hta, rfl, _, _, rfl, _, _, rfl, rfl, ?_⟩
        clear hta
        have hq20 : q.1.length ≤ 20 := (show ∀ q ∈ endL, q.1.length ≤ 20 by decide +kernel) q hq
        have hc2 : cH3.length ≤ 200 := by decide +kernel
        have lw : ("when " : Str).length = 5 := by decide +kernel
        have ll : (" leave no on go;" : Str).length = 16 := by decide +kernel
        have e1 : sx cH3 ++ ("when " : Str) = sx (cH3 ++ txt "when ") := by rw [← sx_app]; congr 1
        have e3 : sx (cH3 ++ txt "when " ++ q.1) ++ (" leave no on go;" : Str) = sx (endT q.1) := by
          unfold endT
          rw [← sx_app (cH3 ++ txt "when " ++ q.1)]
          congr 1
        refine ⟨_, rfl, _, _, rfl, rfl, by rw [len_sx, lw, sizeLine_eq]; omega, ?_⟩
        rw [e1]
        refine ⟨_, rfl, _, _, rfl, rfl, by rw [len_sx, len_sx, List.length_append, show (txt "when ").length = 5 by decide +kernel, sizeLine_eq]; omega, ?_⟩
        rw [sx_app]
        refine ⟨_, _, rfl, rfl, by rw [len_sx, ll, List.length_append, List.length_append, show (txt "when ").length = 5 by decide +kernel, sizeLine_eq]; omega, ?_⟩
        rw [e3]
        refine ⟨tb, fun f1 c1 H9 xN tb1 nf1 hf1 hc1 => ?_⟩
        have keep : ∀ (b : Addr) (xs : List V), J5 b = some (.tup xs) → H9 b = some (.tup xs) := fun b xs h => xN _ _ (sm _ _ h) (fun _ z => by cases z)
        replace hli := xN _ _ hli (fun _ z => by cases z)
        intro base2 Lc
        obtain ⟨fdF, GF, bF, kF⟩ := ok_fpF (P := P) (w := w) (base := base2) T.fp
        refine ⟨f1, _, _, rfl, vok0 (P := P) (w := w) (K := K) (mg := mg) (base := base2) (CX := L2.CX P w) (k := 12) (N := ["_law_plain"]) (fr := ["_law_plain"]) (ws := [some (sV (endT q.1))]) (sp := fun _ H Q E => spFpF K [sV (endT q.1)] H Q E) hf1 (NdefX.nscope_by (by rfl)) (Lc.ce _ _ [7] fun ok => NdefX.Caps.made ok (lamFree (by rfl)) (by decide +kernel) rfl) (fun _ _ _ => rfl) (fun A outer s H Q E hr h1 => ⟨_, pe_call GF (hr.mono (by decide)) rfl T.fp.fp.g kF bF .nil (passes_call (takes_of rfl rfl rfl rfl) (fun _ _ _ _ h => h)) (pa_cons (pv 0) pa_nil), ⟨_, rfl, h1⟩⟩), ⟨hf1, hc1⟩, ⟨rfl, ?_⟩⟩
        refine gives_err T hl (by omega) (fun _ _ _ h => h) (fun _ _ h => h) ?_ ?_
        · intro z
          rw [hf] at z
          cases z
        · intro f' fs' z t t2 H' s1 h2 h1
          rw [hf] at z
          injection z with z1 z2
          subst z1 z2
          rw [hm] at h2
          refine ⟨_, rfl, (by show 3 ≤ sizeLine; decide), fun p1 np1 => ⟨(by show 2 ≤ sizeLine; decide), fun p2 np2 => ?_⟩⟩
          have s5 := sameUpd (o := .tup [.str "unknown", .int 4, .int ((q.2 : Nat) : Int)]) (Same.refl H') np1
          have hp1 := @upd_same H' p1 (.tup [.str "unknown", .int 4, .int ((q.2 : Nat) : Int)])
          replace h1 := s5 _ _ h1
          replace h2 := s5 _ _ h2
          generalize upd H' p1 (.tup [.str "unknown", .int 4, .int ((q.2 : Nat) : Int)]) = HA at *
          have eu : (V.str "unknown") = sV rUnknown := by kernel_rfl
          rw [eu] at hp1
          have s6 := sameUpd (o := .tup [.str "check", .ref p1]) (Same.refl HA) np2
          have hp2 := @upd_same HA p2 (.tup [.str "check", .ref p1])
          replace h1 := s6 _ _ h1
          replace h2 := s6 _ _ h2
          replace hp1 := s6 _ _ hp1
          generalize upd HA p2 (.tup [.str "check", .ref p1]) = HB at *
          refine cmp_check (show ∀ c ∈ rUnknown, c < 128 by decide +kernel) h2 h1 hp1 hp2 ?_
          refine ⟨_, rfl, iteF ?_⟩
          exact ⟨_, _, _, rfl, Tabs.ext (Tabs.ext (Tabs.ext tb1 s1) s5) s6, s6 _ _ (s5 _ _ (s1 _ _ hli)), fun b xs h => s6 _ _ (s5 _ _ (s1 _ _ (keep b xs h)))⟩
      · rintro σ Hy ⟨o7, o11, o12, rfl, tb, _, sm⟩
        exact k _
end
end Sw

end

section
set_option maxRecDepth 100000
set_option maxHeartbeats 0
/-! the head: facts by names -/
namespace Sw
open PySem PySem.Spec PyProof.Rows L2 SwA
theorem fclsB_ok {K : PySem.W.Frag} (h : fclsB K = true) : PySem.W.findCls K (.ref (He.ga K "SweepError")) (.type "type") "__init__" = some (.val (.builtin "ValueError.__init__")) := by
  unfold fclsB at h
  split at h
  · rename_i n e
    rw [e, beq_iff_eq.mp h]
  · cases h
theorem mvB_ok {K : PySem.W.Frag} (h : mvB K = true) : ∃ o, K.lookup (He.ga K "MOVES") = some o ∧ o.cls = .type "tuple" ∧ o.dict = none := by
  unfold mvB at h
  split at h
  · rename_i e
    exact ⟨_, e, rfl, rfl⟩
  · cases h
theorem kTup_ok {K : PySem.W.Frag} {x : Str} {ws : List Cs} (h : He.tupB K x (ws.map fun w => He.Dv.str (sx w)) = true) : ∀ H : Hp, SqT K H (He.ga K x) (ws.map fun w => V.str (sx w)) := fun H => by
  have := He.tupB_ok h H
  rw [List.map_map] at this
  exact this
theorem facts {K : PySem.W.Frag} {h : Heap} {mg : Str → Option Value} {w : World} (X : K.In h) (G : h.Ns mainGlobals mg) (c : SaysY w h K) : L02T K mg ∧ DeT K mg "law" s_law := by
  have q := c.more
  unfold exB at q
  obtain ⟨x0, q⟩ := He.ba q
  obtain ⟨x1, q⟩ := He.ba q
  obtain ⟨x2, q⟩ := He.ba q
  obtain ⟨x3, q⟩ := He.ba q
  obtain ⟨x4, q⟩ := He.ba q
  obtain ⟨x5, q⟩ := He.ba q
  obtain ⟨x6, q⟩ := He.ba q
  obtain ⟨x7, q⟩ := He.ba q
  obtain ⟨x8, q⟩ := He.ba q
  obtain ⟨x9, q⟩ := He.ba q
  obtain ⟨x10, q⟩ := He.ba q
  obtain ⟨x11, q⟩ := He.ba q
  obtain ⟨x12, q⟩ := He.ba q
  obtain ⟨x13, q⟩ := He.ba q
  have x14 := q
  have hLaw : LawT K mg := ⟨(He.free_ok X G (c.t.d.fact 0 rfl)), (He.free_ok X G (c.t.d.fact 1 rfl)), (He.free_ok X G (c.t.d.fact 2 rfl)), (He.free_ok X G (c.t.d.fact 3 rfl)), (He.free_ok X G (c.t.d.fact 4 rfl)), ⟨(c.t.d.def_ 29 rfl), (He.glo_ok X G (c.t.d.fact 5 rfl))⟩, ⟨(c.t.d.def_ 30 rfl), (He.glo_ok X G (c.t.d.fact 6 rfl))⟩⟩
  have hFy : FyT K mg := ⟨hLaw, (He.free_ok X G (c.t.d.fact 7 rfl)), ⟨(c.t.d.def_ 31 rfl), (He.glo_ok X G (c.t.d.fact 8 rfl))⟩, ⟨(c.t.d.def_ 32 rfl), (He.glo_ok X G (c.t.d.fact 9 rfl))⟩⟩
  have hErr : ErrT K mg := ⟨⟨(He.glo_ok X G (c.t.d.fact 10 rfl)), ⟨x0, He.eqO_ok x1⟩, fclsB_ok x2⟩, (excCB_ok X G x3), (c.t.d.def_ 0 rfl)⟩
  have hLex : LexT K mg := ⟨hErr, (He.free_ok X G (c.t.d.fact 0 rfl)), (He.free_ok X G (c.t.d.fact 11 rfl)), (mkCB_ok X G x4), (c.t.d.def_ 4 rfl), (c.t.d.def_ 5 rfl), (He.glo_ok X G (c.t.d.fact 12 rfl)), (c.t.d.def_ 6 rfl), (He.glo_ok X G (c.t.d.fact 13 rfl)), (c.t.d.def_ 7 rfl), (He.glo_ok X G (c.t.d.fact 14 rfl)), (He.str_ok X G (c.t.d.fact 15 rfl)), (He.str_ok X G (c.t.d.fact 16 rfl)), (He.str_ok X G (c.t.d.fact 17 rfl)), (He.str_ok X G (c.t.d.fact 18 rfl)), (He.str_ok X G (c.t.d.fact 19 rfl)), (He.str_ok X G (c.t.d.fact 20 rfl)), (He.str_ok X G (c.t.d.fact 21 rfl)), (He.str_ok X G (c.t.d.fact 22 rfl)), (He.str_ok X G (c.t.d.fact 23 rfl)), (He.int_ok X G (c.t.d.fact 24 rfl)), (He.int_ok X G (c.t.d.fact 25 rfl)), (He.glo_ok X G (c.t.d.fact 26 rfl)), (kTup_ok x5)⟩
  have hPar : ParT K mg := ⟨hLex, (mkCB_ok X G x6), (of_decide_eq_true x7), (He.free_ok X G (c.t.d.fact 27 rfl)), (He.free_ok X G (c.t.d.fact 3 rfl)), (He.free_ok X G (c.t.d.fact 4 rfl)), (c.t.d.def_ 11 rfl), ⟨(c.t.d.def_ 12 rfl), He.meth_ok (c.t.d.fact 28 rfl)⟩, ⟨(c.t.d.def_ 13 rfl), He.meth_ok (c.t.d.fact 29 rfl)⟩, ⟨(c.t.d.def_ 14 rfl), He.meth_ok (c.t.d.fact 30 rfl)⟩, ⟨(c.t.d.def_ 15 rfl), He.meth_ok (c.t.d.fact 31 rfl)⟩, ⟨(c.t.d.def_ 16 rfl), He.meth_ok (c.t.d.fact 32 rfl)⟩, ⟨(c.t.d.def_ 17 rfl), He.meth_ok (c.t.d.fact 33 rfl)⟩, ⟨(c.t.d.def_ 18 rfl), He.meth_ok (c.t.d.fact 34 rfl)⟩, ⟨(c.t.d.def_ 19 rfl), He.meth_ok (c.t.d.fact 35 rfl)⟩, ⟨(c.t.d.def_ 20 rfl), He.meth_ok (c.t.d.fact 36 rfl)⟩, ⟨(c.t.d.def_ 21 rfl), He.meth_ok (c.t.d.fact 37 rfl)⟩, ⟨(c.t.d.def_ 22 rfl), He.meth_ok (c.t.d.fact 38 rfl)⟩, ⟨(c.t.d.def_ 23 rfl), He.meth_ok (c.t.d.fact 39 rfl)⟩, ⟨(c.t.d.def_ 24 rfl), He.meth_ok (c.t.d.fact 40 rfl)⟩, (He.int_ok X G (c.t.d.fact 41 rfl)), (He.int_ok X G (c.t.d.fact 42 rfl)), (He.int_ok X G (c.t.d.fact 43 rfl)), (He.int_ok X G (c.t.d.fact 44 rfl)), (He.glo_ok X G (c.t.d.fact 45 rfl)), (kTup_ok x8), (He.glo_ok X G (c.t.d.fact 46 rfl)), (kTup_ok x9)⟩
  have hLoad : LoadT K mg := ⟨hPar, (mkCB_ok X G x10), (c.t.d.def_ 8 rfl), (c.t.d.def_ 25 rfl), (He.glo_ok X G (c.t.d.fact 47 rfl))⟩
  have hLodF : LodF K mg := ⟨hLoad, (He.free_ok X G (c.t.d.fact 48 rfl)), (excCB_ok X G x11), (c.t.d.def_ 1 rfl)⟩
  have hFmt : FmtT K mg := ⟨hLoad, (He.free_ok X G (c.t.d.fact 49 rfl)), ⟨(c.t.d.def_ 26 rfl), (He.glo_ok X G (c.t.d.fact 50 rfl))⟩⟩
  have hFpF : FpF K mg := ⟨hLodF, hFmt, ⟨(c.t.d.def_ 27 rfl), (He.glo_ok X G (c.t.d.fact 51 rfl))⟩⟩
  have hSofF : SofF K mg := ⟨hLodF, (He.free_ok X G (c.t.d.fact 2 rfl)), ⟨(c.t.d.def_ 28 rfl), (He.glo_ok X G (c.t.d.fact 52 rfl))⟩⟩
  have hEof : EofT K mg := ⟨(He.free_ok X G (c.t.d.fact 53 rfl)), (He.free_ok X G (c.t.d.fact 54 rfl)), (He.glo_ok X G (c.t.d.fact 10 rfl)), (fun n hn => He.glo_ok X G (List.all_eq_true.mp x12 n hn)), ⟨(c.t.d.def_ 33 rfl), (He.glo_ok X G (c.t.d.fact 55 rfl))⟩⟩
  exact ⟨⟨hFy, hFpF, hSofF, hEof, (ekB_ok x13), (L2.xfB_ok x14)⟩,
    ⟨(c.t.d.def_ 34 rfl), (He.glo_ok X G (c.t.d.fact 56 rfl))⟩⟩
theorem facts2 {w : World} {K : PySem.W.Frag} {h : Heap} {mg : Str → Option Value} {f : Addr} (X : K.In h) (G : h.Ns mainGlobals mg) (hfa : mg ("law" : Str) = some (.ref f)) (c : SaysY w h K) :
    LamX.LawAtS PySem.Challenge.rw_sweeprota_k02_check_faults w K CX0 16 63 "_law_script" mg f h := by
  obtain ⟨T, L⟩ := facts X G c
  obtain ⟨fd, F⟩ := L.d
  have e := hfa.symm.trans L.g
  cases e
  have b := FunD.bindsA (ps := ["_law_script"]) F fun _ _ _ _ _ _ us hl => match us, hl with | [_], _ => rfl
  obtain ⟨oc, od, dV, kV, doc, pm, an, cdv, ct, osl, rfl, lk, hcd, _, _⟩ := F.ex
  obtain ⟨cA, rfl⟩ := He.codeIn_ref hcd
  have hc : He.codeOf K ("law", none) = cA := He.codeOf_eq lk rfl
  have hd := c.hd
  have out := c.out
  have emp := c.empty
  unfold He.cT at hd out emp
  rw [hc] at hd out emp
  refine ⟨_, [(cA, He.tabOf K cA)], spLaw K (He.tabOf K cA), fun q hq => ?_, fun q hq => ?_, fun q hq => ?_, fun s v => b s [v] rfl, fun H a ns hl _ hH hS => ⟨a, ns, rfl, hH _ (List.mem_singleton.mpr rfl), hS, hl, fun _ => rfl⟩, fun base _ _ hTB => ok_law T lk hcd (hTB _ (List.mem_singleton.mpr rfl))⟩
  · rw [List.mem_singleton.mp hq]
    exact emp
  · rw [List.mem_singleton.mp hq]
    exact out
  · rw [List.mem_singleton.mp hq]
    exact PySem.W.codeHd_of_K X hd
end Sw
open PySem PySem.W PySem.Calls PyProof.Rows
theorem PySem.Challenge.cw_sweeprota_k02_check_faults_holds : PySem.Challenge.rw_sweeprota_k02_check_faults.Holds := by
  w_on; o_law
  refine HandSHeadRun.head_any (r := OpenLaw.row PySem.Challenge.rw_sweeprota_k02_check_faults) (q := view (OpenLaw.row PySem.Challenge.rw_sweeprota_k02_check_faults).prog [52]) (H := Sw.hk) (ob := Sw.ob) (M := 60000) (loose := Sw.names) (d := HandSHeadRun.topDef (OpenLaw.row PySem.Challenge.rw_sweeprota_k02_check_faults).prog 52) (kwd := []) Sw.ob_eq
    (by kernel_rfl) (fun s => by kernel_rfl) Sw.run (by kernel_rfl) (by kernel_rfl) (by kernel_rfl) (by rfl) (by first | assumption | decide +kernel) (by decide +kernel) ⟨rfl, rfl, rfl, rfl, rfl, by decide +kernel⟩ ?hw ?hc
  case hw => w_witness2
  case hc =>
    refine LamX.walk_ofTsE (l := PySem.Challenge.rw_sweeprota_k02_check_faults) (n := 63) (k := 16) (x := "_law_script") (CX := fun _ => L2.CX0) rfl (by decide) (by kernel_rfl) ⟨rfl, by decide, by decide⟩ ?F (fun _ _ _ _ _ z => z)
    intro w mg fa h Y G hmg0
    obtain ⟨K, KX, c⟩ := Y
    have hmg : mg ("law" : PySem.Str) = some (.ref fa) := by
      have e : (HandSHeadRun.topDef (OpenLaw.row PySem.Challenge.rw_sweeprota_k02_check_faults).prog 52).name = ("law" : PySem.Str) := by kernel_rfl
      rw [← e]
      exact hmg0
    exact ⟨K, KX, Sw.facts2 KX G hmg c⟩

end
