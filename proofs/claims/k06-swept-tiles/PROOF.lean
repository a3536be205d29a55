import PyProof.Rows.All
import Wide.All
import OpenK.AllK
import Wide.FinOn
import PySem.Challenge.RW_sweeprota_k06_swept_tiles
import HandS.Words
import PyProof.EqAt
import PyProof.EqKinds
import PyProof.TupleCall
import PyProof.RulesMatch
import PyProof.RulesMatchSeq
import HandS.ForMost
import HandS.ForExc
import HandS.ExcInit
import HandS.ExcField
import HandS.ExcIs
import HandS.IsInst
import HandS.More
import HandS.Steps
import HandS.Walk
import HandS.Zip
import HandS.Defaults
import HandS.ClsMeth
import HandS.Property
import HandS.TupMul
import HandS.TupAny
import HandS.FStr
import HandS.Conv
import HandS.Flow
import HandS.Lambda
import HandS.CallLocal
import HandS.Head0
import HandS.Head1
import HandS.Head2
import HandS.HeadEnd
import HandS.HeadHook1
import HandS.HeadHook2
import HandS.HeadHook3
import HandS.HeadHook4
import HandS.HeadWalk
import HandS.Text
import HandS.HeadNt
import Lean
import HandS.Dict
import KE.KDictKeyed
import KE.KeyNested
import HandS.Iter
import KE.KDictWalk
import KE.GoesMore
import HandS.SetFor
import PyProof.NeKinds
import HandS.CallRecv
import HandS.SortRule
import KE.KDictSum
import KE.SortData
import HandS.Comp
import HandS.DictComp
import HandS.SetBool
import HandS.Strs
import HandS.SetIn
import HandS.SetKeys
import HandS.List
import HandS.Style
import HandS.Nested
import HandS.WideBits
set_option Elab.async false
set_option linter.all false
section
/-! the row's defs by place -/
namespace Sw
open PySem L2
def top (i : Nat) : Stmt := PySem.Challenge.pw_sweeprota_k06_swept_tiles.main.body.getD i (.Pass ⟨0, 0, 0, 0⟩)
abbrev s__wall : Stmt := top 0
abbrev s_SyntaxFault_init : Stmt := inClass (top 3) 0
abbrev s_CheckFault_init : Stmt := inClass (top 4) 0
abbrev s_Token_init : Stmt := inClass (top 23) 0
abbrev s_run_end : Stmt := top 24
abbrev s_read_token : Stmt := top 25
abbrev s_tokenize : Stmt := top 26
abbrev s_Plan_init : Stmt := inClass (top 32) 0
abbrev s_Plan_with_floor : Stmt := inClass (top 32) 1
abbrev s_Plan_with_robots : Stmt := inClass (top 32) 2
abbrev s_Parser_init : Stmt := inClass (top 33) 0
abbrev s_Parser_peek : Stmt := inClass (top 33) 1
abbrev s_Parser_fail : Stmt := inClass (top 33) 2
abbrev s_Parser_found : Stmt := inClass (top 33) 3
abbrev s_Parser_take : Stmt := inClass (top 33) 4
abbrev s_Parser_take_word : Stmt := inClass (top 33) 5
abbrev s_Parser_take_keyword : Stmt := inClass (top 33) 6
abbrev s_Parser_parse_names : Stmt := inClass (top 33) 7
abbrev s_Parser_number_of : Stmt := inClass (top 33) 8
abbrev s_Parser_tile_of : Stmt := inClass (top 33) 9
abbrev s_Parser_parse_robot : Stmt := inClass (top 33) 10
abbrev s_Parser_parse_put : Stmt := inClass (top 33) 11
abbrev s_Parser_parse_rule : Stmt := inClass (top 33) 12
abbrev s_Parser_parse_plan : Stmt := inClass (top 33) 13
abbrev s_load : Stmt := top 34
abbrev s_is_int_in : Stmt := top 39
abbrev s_check_tick : Stmt := top 40
abbrev s_replaced : Stmt := top 41
abbrev s_State_init : Stmt := inClass (top 42) 0
abbrev s_State_key : Stmt := inClass (top 42) 1
abbrev s_first_state : Stmt := top 43
abbrev s_moved : Stmt := top 44
abbrev s_act : Stmt := top 45
abbrev s_Tick_init : Stmt := inClass (top 46) 0
abbrev s_next_tick : Stmt := top 47
abbrev s_Story_init : Stmt := inClass (top 48) 0
abbrev s_Story_size : Stmt := inClass (top 48) 1
abbrev s_Story_happens : Stmt := inClass (top 48) 2
abbrev s_Story_count : Stmt := inClass (top 48) 3
abbrev s_check_tile : Stmt := top 50
abbrev s_rest_tick : Stmt := top 51
abbrev s_swept_in : Stmt := top 52
abbrev s_swept_for_ever : Stmt := top 53
abbrev s_never_swept : Stmt := top 54
abbrev s_count_swept : Stmt := top 55
abbrev s_next_swept : Stmt := top 56
abbrev s_longest_wait : Stmt := top 57
abbrev s__law_random : Stmt := top 59
abbrev s__law_below : Stmt := top 60
abbrev s__law_shuffled : Stmt := top 61
abbrev s__law_plan : Stmt := top 62
abbrev s__law_short : Stmt := top 63
abbrev s__law_lines : Stmt := top 64
abbrev s__law_text : Stmt := top 65
abbrev s__law_empty : Stmt := top 66
abbrev s__law_tick : Stmt := top 67
abbrev s__law_cycle : Stmt := top 68
abbrev s__law_equal : Stmt := top 69
abbrev s__law_lasting : Stmt := top 70
abbrev s__law_some_tick : Stmt := top 71
abbrev s__law_sum : Stmt := top 72
abbrev s__law_place : Stmt := top 73
abbrev s__law_longest : Stmt := top 74
abbrev s_law : Stmt := top 75
abbrev nMaxLetters : Str := "MAX_LETTERS"
abbrev nMaxLetC : Str := "MAX_LETTERS"
abbrev nWays : Str := "WAYS"
abbrev nRobots : Str := "_law_robots"
end Sw

end

section
set_option maxRecDepth 100000
set_option maxHeartbeats 4000000
namespace SwA
open PySem PySem.Spec PyProof.Rows L2

/-! ### D.__init__(self, ..) where D is an own class over ValueError that has no __init__ of its own -/
theorem pe_ownveinit {X : Cx} {e : Expr} {es : List Expr} {ta : TA} {p1 p2 pos : Pos} {x : Str} {D : Addr} {pl : Sem Bool} (hg : Gl X x) (hm : X.mg x = some (.ref D)) (r : ClX.CRead X.K D (.type "type"))
    (vV : PySem.W.findCls X.K (.ref D) (.type "type") "__init__" = some (.val (.builtin "ValueError.__init__"))) (ha : PA X (e :: es) ta)
    (hc : eval (.Call (.Attribute (.Name x p1) "__init__" p2) (e :: es) [] pos) X.env = (do
      let ov ← eval (.Name x p1) X.env
      standAt p2.atName
      let (f, first) ← holding [ov] (getMethod ov "__init__" pl)
      callWith pos f first (backTo pos (starEach (e :: es) X.env)) (backToKw pos (keywordEach [] X.env))) := by rfl)
    (he : starEach (e :: es) X.env = (false, eval e X.env) :: starEach es X.env := by rfl) (hpl : (backTo pos (starEach es X.env)).any (·.1) = false := by rfl)
    (hdb : (x == ("__debug__" : Str)) = false := by decide) :
    PE X (.Call (.Attribute (.Name x p1) "__init__" p2) (e :: es) [] pos) (tVeI X.K ta) := by
  refine ⟨fun pins s σ H Q I h => ?_⟩
  refine PySem.W.methodCall_KW (ld_glob I hg hm ?_ hdb) hc
  refine PySem.W.method_cls I.kIn r.ga (PySem.W.cls_value I.kIn r.rd vV (by decide +kernel) ?_)
  show wpAny _ _ (callWith pos (Value.builtin "ValueError.__init__") [] (backTo pos (starEach (e :: es) X.env)) []) _ _ _
  refine PyProof.Rows.callWith_method1 (thn (ha.run pos pins _ σ H _ (I.tok _) h) fun us s1 ⟨vs, H1, I1, r1, a, C, ws, ev, hl, T, ea, q⟩ => ?_) he hpl
  subst ev
  cases r1 with
  | @cons _ u0 _ ur ra rw' =>
    obtain rfl : u0 = Value.ref a := ra
    have hlen : ur.length ≤ sizeLine := by
      rw [← Paired.length rw', sizeLine_eq]
      omega
    exact oinit_ok T I1 ea hlen fun s' J => ⟨.non, H1, J, rfl, q⟩

/-! ### match upon a value: cases that are written texts, and the case of anything -/
/-- the cases cs asked of the value v: what is wanted -/
structure PMs (X : Cx) (cs : List MatchCase) (t : V → TS) : Prop where
  run : ∀ (pins : List (Addr × Obj)) (s : Shared) (σ : L2.St) (H : Hp) (D : Ends) (v : V) (u : Value) (first : Bool), Inv X pins σ H s → RelV v u → t v D σ H → wpAny (model X.prog X.w) X.A (matchCases cs X.env u first) (SP X pins D) X.xe s
theorem pms_nil {X : Cx} : PMs X [] (fun _ D σ H => D.nx σ H) := ⟨fun pins s σ H D v u first I r h => wpAny_matchCases_nil ⟨σ, H, I, h⟩⟩
theorem pms_any {X : Cx} {body : List Stmt} {rest : List MatchCase} {tb : TS} {pos : Pos} (hb : PSs X body tb) : PMs X (⟨.MatchAs none none pos, none, body⟩ :: rest) (fun _ => tb) :=
  ⟨fun pins s σ H D v u first I r h => wpAny_matchCases_cons (wpAny_matchPattern_Capture (wpAny_assignInOrder_none (hb.run pins s σ H D I h)))⟩
def tCaseS (z : Str) (tb : TS) (tr : V → TS) : V → TS := fun v D σ H => ∃ y, v = .str y ∧ ((y = z → tb D σ H) ∧ (y ≠ z → tr v D σ H))
theorem pms_str {X : Cx} {z : Str} {k : Nat} {body : List Stmt} {rest : List MatchCase} {tb : TS} {tr : V → TS} {p1 p2 : Pos} (hb : PSs X body tb) (hr : PMs X rest tr) :
    PMs X (⟨.MatchValue (.Constant (.str z) k p1) p2, none, body⟩ :: rest) (tCaseS z tb tr) := by
  refine ⟨fun pins s σ H D v u first I r h => ?_⟩
  obtain ⟨y, ev, h1, h2⟩ := h
  subst ev
  refine wpAny_matchCases_cons (wpAny_matchPattern_Value ?_)
  refine thn ((pe_str (X := X) (x := z) (j := k) (pos := p1)).run pins s σ H (fun x H' => x = .str z ∧ H' = H) I ⟨rfl, rfl⟩) fun zv s1 ⟨x, H1, I1, rz, ex, eh⟩ => ?_
  subst ex
  subst eh
  refine thn (op_eq pins s1 σ H1 (.str y) (.str z) u zv (fun x H' => x = .bl (decide (V.str y = V.str z)) ∧ H' = H1) I1 r rz ⟨rfl, rfl, rfl⟩) fun c s2 ⟨x, H2, I2, rc, ex, eh⟩ => ?_
  subst ex
  subst eh
  obtain rfl : c = Value.bool (decide (V.str y = V.str z)) := rc
  refine wpAny_truthy_bool ?_
  by_cases e : y = z
  · have d : decide (V.str y = V.str z) = true := decide_eq_true (by rw [e])
    rw [d]
    exact wpAny_assignInOrder_none (hb.run pins s2 σ H2 D I2 (h1 e))
  · have d : decide (V.str y = V.str z) = false := decide_eq_false (fun q => e (V.str.inj q))
    rw [d]
    exact hr.run pins s2 σ H2 D (.str y) u false I2 r (h2 e)
def tMatch (te : TE) (t : V → TS) : TS := fun D σ H => te σ H fun v H1 => t v D σ H1
theorem ps_match {X : Cx} {e : Expr} {te : TE} {cs : List MatchCase} {t : V → TS} {pos : Pos} (he : PE X e te) (hc : PMs X cs t) : PS X (.Match e cs pos) (tMatch te t) := by
  refine ⟨fun pins s σ H D I h => ?_⟩
  refine wpAny_Match (thn (he.run pins s σ H _ I h) fun u s1 ⟨v, H1, I1, r, q⟩ => ?_)
  exact hc.run pins s1 σ H1 D v u true I1 r q
/-! ### an own exception's class, as a Bool upon the written part -/
def oexB (K : PySem.W.Frag) (C : Addr) : Bool := (match K.lookup C with
  | some ⟨.type "type", _, .cls cd, sl⟩ => (match cd.mro, sl.toList with
    | .ref C' :: bm, [_, _, _, _, some (.builtin n), _] => C' == C && (n == "ValueError.__new__" && (!cd.hasDel && (cd.hasDict && PySem.HandSPX.refsVE bm)))
    | _, _ => false)
  | _ => false) && (He.eqO (PySem.W.findIn K (.ref C) "__setattr__") (some (some (.builtin "object.__setattr__"))) && (decide (PySem.W.subIn K (.ref C) (.type "BaseException") = some true) && (decide (PySem.W.typeIn K (.ref C) = some (.type "type")) && PySem.W.keepIn K (.ref C))))
theorem oexB_ok {K : PySem.W.Frag} {C : Addr} (h : oexB K C = true) : OexC K C := by
  obtain ⟨q, h2⟩ := He.ba h
  obtain ⟨h3, h4⟩ := He.ba h2
  obtain ⟨h5, h6⟩ := He.ba h4
  obtain ⟨h7, h8⟩ := He.ba h6
  refine ⟨?_, He.eqO_ok h3, of_decide_eq_true h5, of_decide_eq_true h7, h8⟩
  split at q
  · rename_i dd cd sl ho
    split at q
    · rename_i C' bm k0 k1 k2 k3 n k5 hm hs
      simp only [Bool.and_eq_true, beq_iff_eq, Bool.not_eq_true'] at q
      obtain ⟨rfl, rfl, hdel, hdi, ht⟩ := q
      obtain ⟨nm, bs, mro, ns, qn, hd, sn, sub, ab, col, del⟩ := cd
      dsimp only at hm hdel hdi
      subst hm hdel hdi
      have hsl : sl = #[k0, k1, k2, k3, some (.builtin "ValueError.__new__"), k5] := by
        obtain ⟨l⟩ := sl
        simp only at hs
        rw [hs]
      subst hsl
      exact ⟨nm, qn, ns, bs, bm, sn, sub, ab, col, dd, k0, k1, k2, k3, k5, ho, ht⟩
    · cases q
  · cases q

/-! ### a class whose __init__ stores its arguments, one a field -/
def spInit (C : Addr) (names : List Str) : Sp := fun vs H Q _ => ∃ (p dx : Addr) (args : List V), vs = .ref p :: args ∧ args.length = names.length ∧ H p = some (.ins C dx []) ∧
  ∀ H' : Hp, H' p = some (.ins C dx (names.zip args)) → (∀ b, b ≠ p → H' b = H b) → Q .non H'
/-- C(..) of such a class, behind its arguments: a new object, all that was tracked stands -/
theorem mk_at {C : Addr} {names : List Str} {E : XK} {H1 : Hp} {Q : VK} {vs : List V} (hl : vs.length = names.length)
    (q : ∀ (x : Addr) (H2 : Hp), H1 x = none → Same H1 H2 → (∃ dx, H2 x = some (.ins C dx (names.zip vs))) → Q (.ref x) H2) :
    ∀ x dx, H1 x = none → H1 dx = none → dx ≠ x → spInit C names (.ref x :: (vs ++ [])) (upd (upd H1 dx (.own x)) x (.ins C dx [])) (fun v H2 => v = .non ∧ Q (.ref x) H2) E := by
  intro x dx nx ndx ne
  refine ⟨x, dx, vs ++ [], rfl, by rw [List.append_nil]; exact hl, upd_same, fun H' e1 e2 => ⟨rfl, ?_⟩⟩
  rw [List.append_nil] at e1
  refine q x H' nx (fun b o e => ?_) ⟨dx, e1⟩
  rw [e2 b (ne_of_none e nx), upd_ne (ne_of_none e nx), upd_ne (ne_of_none e ndx)]
  exact e

/-- the same, for any wish -/
theorem init_at {C x dx : Addr} {names : List Str} {E : XK} {H1 : Hp} {R : VK} {vs : List V} (hl : vs.length = names.length) (nx : H1 x = none) (ndx : H1 dx = none)
    (q : ∀ H2 : Hp, Same H1 H2 → (∃ dx, H2 x = some (.ins C dx (names.zip vs))) → R .non H2) : spInit C names (.ref x :: (vs ++ [])) (upd (upd H1 dx (.own x)) x (.ins C dx [])) R E := by
  refine ⟨x, dx, vs ++ [], rfl, by rw [List.append_nil]; exact hl, upd_same, fun H' e1 e2 => ?_⟩
  rw [List.append_nil] at e1
  refine q H' (fun b o e => ?_) ⟨dx, e1⟩
  rw [e2 b (ne_of_none e nx), upd_ne (ne_of_none e nx), upd_ne (ne_of_none e ndx)]
  exact e

/-! ### an own exception's __init__ that stores its arguments, one a field -/
def spFault (C : Addr) (names : List Str) : Sp := fun vs H Q _ => ∃ (a : Addr) (args : List V), vs = .ref a :: args ∧ args.length = names.length ∧ H a = some (exo a C none) ∧
  ∀ (d : Addr) (H' : Hp), H d = none → d ≠ a → H' a = some (exo a C (some d)) → H' d = some (exd d (names.zip args).reverse) → (∀ b, b ≠ a → b ≠ d → H' b = H b) → Q .non H'
/-- raise C(..), behind its arguments -/
theorem fault_at {C : Addr} {names : List Str} {H1 : Hp} {Q : XK} {vs : List V} (hl : vs.length = names.length) (hz : vs.length ≤ 1000)
    (q : ∀ (d : Addr) (H2 : Hp), H1 d = none → Same H1 H2 → H2 d = some (.xd (names.zip vs).reverse) → Q (.ref C) (some d) H2) :
    vs.length ≤ 1000 ∧ ∀ a, H1 a = none → spFault C names (.ref a :: (vs ++ [])) (upd H1 a (exo a C none))
      (fun v H2 => v = .non ∧ ∃ (d : Addr) (fs : List (Str × V)), H2 a = some (exo a C (some d)) ∧ H2 d = some (exd d fs) ∧ H1 d = none ∧ Q (.ref C) (some d) (upd (del H2 a) d (.xd fs))) (fun _ _ _ => False) := by
  refine ⟨hz, fun a na => ⟨a, vs ++ [], rfl, by rw [List.append_nil]; exact hl, upd_same, fun d H' nd da e1 e2 e3 => ⟨rfl, d, _, e1, e2, ?_, ?_⟩⟩⟩
  · rw [upd_ne da] at nd
    exact nd
  · rw [upd_ne da] at nd
    rw [List.append_nil]
    refine q d _ nd (fun b o e => ?_) upd_same
    have ba : b ≠ a := ne_of_none e na
    have bd : b ≠ d := ne_of_none e nd
    rw [upd_ne bd, del_ne ba, e3 b ba bd, upd_ne ba]
    exact e
end SwA

end

section
set_option maxRecDepth 100000
set_option maxHeartbeats 4000000
/-! the mirror of the lexer and the parser: plain functions over lists of codes -/
namespace Sw
open PySem
/-- a text by its codes -/
abbrev Cs := List Nat
def sx (l : Cs) : Str := ⟨l.toArray⟩
theorem sx_inj {a b : Cs} (h : sx a = sx b) : a = b := by
  have e : (sx a).cps = (sx b).cps := by rw [h]
  have e2 : a.toArray = b.toArray := e
  simpa using congrArg Array.toList e2
def wCorridor : Cs := [99, 111, 114, 114, 105, 100, 111, 114]
def wSigns : Cs := [115, 105, 103, 110, 115]
def wMoods : Cs := [109, 111, 111, 100, 115]
def wRobot : Cs := [114, 111, 98, 111, 116]
def wPut : Cs := [112, 117, 116]
def wWhen : Cs := [119, 104, 101, 110]
def wLeave : Cs := [108, 101, 97, 118, 101]
def wLeft : Cs := [108, 101, 102, 116]
def wRight : Cs := [114, 105, 103, 104, 116]
def wOn : Cs := [111, 110]
def wBack : Cs := [98, 97, 99, 107]
def wStay : Cs := [115, 116, 97, 121]
def wSemi : Cs := [59]
def kws : List Cs := [wCorridor, wSigns, wMoods, wRobot, wPut, wWhen, wLeave, wLeft, wRight, wOn, wBack, wStay]
def ways : List Cs := [wLeft, wRight]
def moves : List Cs := [wOn, wBack, wStay]
inductive Kd where
  | name | number | keyword | sign | fin
  deriving DecidableEq
def Kd.str : Kd → Str
  | .name => "name"
  | .number => "number"
  | .keyword => "keyword"
  | .sign => "sign"
  | .fin => "end"
structure Tk where
  kind : Kd
  text : Cs
  line : Nat
  col : Nat
  deriving DecidableEq
def isL (c : Nat) : Bool := Nat.ble 97 c && Nat.ble c 122
def isD (c : Nat) : Bool := Nat.ble 48 c && Nat.ble c 57
def isS (c : Nat) : Bool := c == 32 || c == 10
/-- the token at the head of what is left of a row; none: a fault there -/
def readTok (line col : Nat) (rest : Cs) : Option Tk := match rest with
  | [] => none
  | c :: _ =>
    if c = 59 then some ⟨.sign, [59], line, col⟩
    else if isD c = true then
      (if 2 < (rest.takeWhile isD).length ∨ (1 < (rest.takeWhile isD).length ∧ c = 48) then none else some ⟨.number, rest.takeWhile isD, line, col⟩)
    else if rest.takeWhile isL ∈ kws then some ⟨.keyword, rest.takeWhile isL, line, col⟩
    else if 1 ≤ (rest.takeWhile isL).length ∧ (rest.takeWhile isL).length ≤ 8 then some ⟨.name, rest.takeWhile isL, line, col⟩
    else none
/-- a row from a column on: what is left of it, f at least its length -/
def lexRow (line : Nat) : Nat → Nat → Cs → Except (Nat × Nat) (List Tk)
  | _, _, [] => .ok []
  | 0, _, _ :: _ => .ok []
  | f + 1, col, c :: r =>
    if isS c = true then lexRow line f (col + 1) r
    else match readTok line col (c :: r) with
      | none => .error (line, col)
      | some t => match lexRow line f (col + t.text.length) ((c :: r).drop t.text.length) with
        | .error e => .error e
        | .ok ts => .ok (t :: ts)
def lexRows : Nat → List Cs → Except (Nat × Nat) (List Tk)
  | _, [] => .ok []
  | line, row :: rest => match lexRow line row.length 0 row with
    | .error e => .error e
    | .ok ts => match lexRows (line + 1) rest with
      | .error e => .error e
      | .ok us => .ok (ts ++ us)
def rowsOf (text : Cs) : List Cs := TL.spl [10] 0 [] text
def tokenize (text : Cs) : Except (Nat × Nat) (List Tk) := match lexRows 0 (rowsOf text) with
  | .error e => .error e
  | .ok ts => .ok (ts ++ [⟨.fin, [], (rowsOf text).length, 0⟩])
/-! ### the parser -/
structure Rule where
  left : Nat
  move : Cs
  later : Nat
  deriving DecidableEq
structure PSt where
  at_ : Nat
  faults : List (Nat × Nat × Cs)
  signs : List Cs
  moods : List Cs
  robots : List (Nat × Bool)
  rules : List ((Nat × Nat) × Rule)
  pairs : List (Cs × Cs)
  spots : List (Nat × Nat)
  deriving DecidableEq
def putA {κ α : Type} [DecidableEq κ] (l : List (κ × α)) (k : κ) (v : α) : List (κ × α) :=
  if (l.any fun kv => decide (kv.1 = k)) = true then l.map (fun kv => if kv.1 = k then (kv.1, v) else kv) else l ++ [(k, v)]
def getA {κ α : Type} [DecidableEq κ] (l : List (κ × α)) (k : κ) : Option α := (l.find? fun kv => decide (kv.1 = k)).map (·.2)
abbrev PR (α : Type) := Except (Nat × Nat) (α × PSt)
def endTk : Tk := ⟨.fin, [], 0, 0⟩
section
variable (T : List Tk)
def peek (st : PSt) : Tk := T.getD st.at_ endTk
def PSt.next (st : PSt) : PSt := { st with at_ := st.at_ + 1 }
def PSt.found (st : PSt) (reason : Cs) (t : Tk) : PSt := { st with faults := st.faults ++ [(t.line, t.col, reason)] }
def failAt (st : PSt) : Nat × Nat := ((peek T st).line, (peek T st).col)
def take (k : Kd) (st : PSt) : PR Tk := if (peek T st).kind = k then .ok (peek T st, st.next) else .error (failAt T st)
def takeWord (w : Cs) (st : PSt) : PR Tk := if (peek T st).text = w then .ok (peek T st, st.next) else .error (failAt T st)
def takeKw (ws : List Cs) (st : PSt) : PR Tk := if (peek T st).kind = .keyword ∧ (peek T st).text ∈ ws then .ok (peek T st, st.next) else .error (failAt T st)
/-- the names of a kind: false signs, true moods -/
def PSt.names (b : Bool) (st : PSt) : List Cs := if b then st.moods else st.signs
def PSt.push (b : Bool) (w : Cs) (st : PSt) : PSt := if b then { st with moods := st.moods ++ [w] } else { st with signs := st.signs ++ [w] }
def rDuplicate : Cs := [100, 117, 112, 108, 105, 99, 97, 116, 101]
def rUnknown : Cs := [117, 110, 107, 110, 111, 119, 110]
def rTile : Cs := [116, 105, 108, 101]
def rRobots : Cs := [114, 111, 98, 111, 116, 115]
def rAgain : Cs := [97, 103, 97, 105, 110]
def rTwice : Cs := [116, 119, 105, 99, 101]
def wordOf (b : Bool) : Cs := if b then wMoods else wSigns
def mostOf (b : Bool) : Nat := if b then 6 else 4
def addName (b : Bool) (st : PSt) (t : Tk) : PSt :=
  if t.text ∈ st.names b then st.found rDuplicate t
  else if (st.names b).length = mostOf b then st.found (wordOf b) t
  else st.push b t.text
/-- further names, f turns at most -/
def moreNames : Nat → PSt → List Tk → List Tk × PSt
  | 0, st, acc => (acc, st)
  | f + 1, st, acc => if (peek T st).kind = .name then moreNames f st.next (acc ++ [peek T st]) else (acc, st)
def parseNames (b : Bool) (st : PSt) : PR Unit := match takeWord T (wordOf b) st with
  | .error e => .error e
  | .ok (_, s1) => match take T .name s1 with
    | .error e => .error e
    | .ok (t, s2) => match takeWord T wSemi (moreNames T T.length s2 [t]).2 with
      | .error e => .error e
      | .ok (_, s3) => .ok ((), (moreNames T T.length s2 [t]).1.foldl (addName b) s3)
def numberOf (names : List Cs) (t : Tk) (st : PSt) : Nat × PSt := if t.text ∈ names then (names.idxOf t.text, st) else (0, st.found rUnknown t)
def numVal (w : Cs) : Nat := w.foldl (fun a c => a * 10 + (c - 48)) 0
def tileOf (tiles : Nat) (st : PSt) : PR Nat := match take T .number st with
  | .error e => .error e
  | .ok (t, s1) => .ok (numVal t.text, if tiles ≤ numVal t.text then s1.found rTile t else s1)
def parseRobot (tiles : Nat) (st : PSt) : PR Unit := match takeWord T wRobot st with
  | .error e => .error e
  | .ok (kw, s1) => match tileOf T tiles (if s1.robots.length = 3 then s1.found rRobots kw else s1) with
    | .error e => .error e
    | .ok (tile, s2) => match takeKw T ways s2 with
      | .error e => .error e
      | .ok (way, s3) => match takeWord T wSemi s3 with
        | .error e => .error e
        | .ok (_, s4) => .ok ((), { s4 with robots := s4.robots ++ [(tile, decide (way.text = wRight))] })
def parsePut (tiles : Nat) (st : PSt) : PR Unit := match takeWord T wPut st with
  | .error e => .error e
  | .ok (_, s1) => match take T .name s1 with
    | .error e => .error e
    | .ok (nm, s2) => match tileOf T tiles (numberOf s2.signs nm s2).2 with
      | .error e => .error e
      | .ok (tile, s3) => match takeWord T wSemi s3 with
        | .error e => .error e
        | .ok (_, s4) =>
          let s5 := if (s4.spots.any fun kv => decide (kv.1 = tile)) = true then s4.found rAgain (peek T (numberOf s2.signs nm s2).2) else s4
          .ok ((), { s5 with spots := putA s5.spots tile (numberOf s2.signs nm s2).1 })
def parseRule (st : PSt) : PR Unit := match takeWord T wWhen st with
  | .error e => .error e
  | .ok (kw, s1) => match take T .name s1 with
    | .error e => .error e
    | .ok (first, s2) => match take T .name (numberOf s2.moods first s2).2 with
      | .error e => .error e
      | .ok (second, s3) => match takeWord T wLeave (numberOf s3.signs second s3).2 with
        | .error e => .error e
        | .ok (_, s4) => match take T .name s4 with
          | .error e => .error e
          | .ok (lf, s5) => match takeKw T moves (numberOf s5.signs lf s5).2 with
            | .error e => .error e
            | .ok (mv, s6) => match take T .name s6 with
              | .error e => .error e
              | .ok (la, s7) => match takeWord T wSemi (numberOf s7.moods la s7).2 with
                | .error e => .error e
                | .ok (_, s8) =>
                  let s9 := if (first.text, second.text) ∈ s8.pairs then s8.found rTwice kw else s8
                  let s10 : PSt := { s9 with pairs := if (first.text, second.text) ∈ s9.pairs then s9.pairs else s9.pairs ++ [(first.text, second.text)] }
                  .ok ((), { s10 with rules := putA s10.rules ((numberOf s2.moods first s2).1, (numberOf s3.signs second s3).1) ⟨(numberOf s5.signs lf s5).1, mv.text, (numberOf s7.moods la s7).1⟩ })
def parseStmt (tiles : Nat) (st : PSt) : PR Unit :=
  if (peek T st).text = wRobot then parseRobot T tiles st
  else if (peek T st).text = wPut then parsePut T tiles st
  else if (peek T st).text = wWhen then parseRule T st
  else .error (failAt T st)
/-- the statements, f turns at most -/
def parseStmts (tiles : Nat) : Nat → PSt → PR Unit
  | 0, st => .ok ((), st)
  | f + 1, st => if (peek T st).kind = .fin then .ok ((), st) else match parseStmt T tiles st with
    | .error e => .error e
    | .ok (_, s1) => parseStmts tiles f s1
def st0 : PSt := ⟨0, [], [], [], [], [], [], []⟩
/-- the whole: tiles, the state at the end -/
def parsePlan : PR Nat := match takeWord T wCorridor st0 with
  | .error e => .error e
  | .ok (_, s1) => match take T .number s1 with
    | .error e => .error e
    | .ok (t, s2) => match takeWord T wSemi s2 with
      | .error e => .error e
      | .ok (_, s3) => match parseNames T false (if 1 ≤ numVal t.text ∧ numVal t.text ≤ 16 then s3 else s3.found wCorridor t) with
        | .error e => .error e
        | .ok (_, s4) => match parseNames T true s4 with
          | .error e => .error e
          | .ok (_, s5) => match parseRobot T (numVal t.text) s5 with
            | .error e => .error e
            | .ok (_, s6) => match parseStmts T (numVal t.text) T.length s6 with
              | .error e => .error e
              | .ok (_, s7) => .ok (numVal t.text, s7)
end
structure Plan where
  signs : List Cs
  moods : List Cs
  floor : List Nat
  robots : List (Nat × Bool)
  rules : List ((Nat × Nat) × Rule)
  deriving DecidableEq
def planOf (tiles : Nat) (st : PSt) : Plan := ⟨st.signs, st.moods, (List.range tiles).map fun i => (getA st.spots i).getD 0, st.robots, st.rules⟩
/-- what load does: a SyntaxFault at a place; else the tiles and the parser's last state -/
def loads (text : Cs) : Except (Nat × Nat) (Nat × PSt) := match tokenize text with
  | .error e => .error e
  | .ok T => parsePlan T
def txt (s : String) : Cs := s.toList.map Char.toNat
def k18 : Cs := txt "corridor 2; signs no; moods go; robot 0 right; when go no leave no on go;"
example : (match loads k18 with | .ok (n, st) => decide (planOf n st = ⟨[txt "no"], [txt "go"], [0, 0], [(0, true)], [((0, 0), ⟨0, wOn, 0⟩)]⟩) && st.faults.isEmpty | .error _ => false) = true := by decide +kernel
example : (match loads (txt "corridor") with | .ok _ => false | .error e => decide (e = (1, 0))) = true := by decide +kernel
end Sw

end

section
set_option maxRecDepth 100000
set_option maxHeartbeats 4000000
/-! what the head asks of the program's objects, ahead of the walks -/
namespace Sw
open PySem PySem.Spec PyProof.Rows L2 SwA
def excCB (K : PySem.W.Frag) (x : Str) (fields : List Str) : Bool :=
  (He.Fa.glo x).ok K && (oexB K (He.ga K x) && (He.eqO (PySem.W.findIn K (.ref (He.ga K x)) "__init__") (some (some (.ref (He.ma K (He.ga K x) "__init__")))) &&
    (decide (PySem.W.typeIn K (.ref (He.ma K (He.ga K x) "__init__")) = some (.type "function")) && fields.all fun f => He.eqO (PySem.W.findIn K (.ref (He.ga K x)) f) (some none))))
def mkCB (K : PySem.W.Frag) (x : Str) (fields : List Str) : Bool := (He.Fa.glo x).ok K && ((He.Fa.mkr x).ok K && ((He.Fa.cls x).ok K && fields.all fun f => (He.Fa.noat x f).ok K))
abbrev tokF : List Str := ["kind", "text", "line", "column"]
abbrev parN : List Str := ["tokens", "at", "faults", "signs", "moods", "robots", "rules", "pairs", "spots"]
abbrev planF : List Str := ["signs", "moods", "floor", "robots", "rules"]
def lenKV (e : DictEntry) : Option (Str × Int) := match e.key, e.val with
  | .str x _, .int i _ => some (x, i)
  | _, _ => none
def lensL : List (Option (Str × Int)) := [some ("step", 2), some ("put", 3), some ("turn", 2), some ("undo", 1), some ("redo", 1)]
def lenB (K : PySem.W.Frag) (a : Addr) : Bool := match K.lookup a with
  | some ⟨_, _, .dict es _, _⟩ => decide (es.toList.map lenKV = lensL)
  | _ => false
def clsN : List Str := ["InvalidTick", "InvalidNumber", "UnknownSign", "TooLong", "OtherCorridor", "Contradiction", "InvalidName", "UnknownName", "SyntaxFault", "CheckFault", "InvalidCode", "InvalidOperation"]
def xcB (K : PySem.W.Frag) (D : Addr) : Bool := He.eqO (PySem.W.findIn K (.ref D) "__getattribute__") (some (some (.builtin "BaseException.__getattribute__"))) && (He.eqO (PySem.W.findIn K (.ref D) "__getattr__") (some none) && (decide (PySem.W.subIn K (.ref D) (.type "BaseException") = some true) && (PySem.W.hasDictIn K D &&
  (He.eqO (PySem.W.findIn K (.ref D) "__class__") (some (some (.builtin "object.__class__"))) && (He.eqO (PySem.W.specialIn K (.builtin "object.__class__") "__get__") (some (some (.builtin "getset_descriptor.__get__"))) && (decide (PySem.W.takesIn K (.builtin "object.__class__") = some true) && decide (PySem.W.mroIn K D (.type "object") = some true)))))))
def ekB (K : PySem.W.Frag) (D : Str) (j : Nat) : Bool := xcB K (He.ga K D) && (decide (PySem.W.exmOne K (.ref (He.ga K D)) (.ref (He.ga K "SweepError")) = some true) && (decide (PySem.W.kitOne K (.ref (He.ga K D)) (.type "ValueError") = some true) && clsN.zipIdx.all fun q => decide (PySem.W.kitOne K (.ref (He.ga K D)) (.ref (He.ga K q.1)) = some (decide (q.2 = j)))))
end Sw

end

section
set_option maxRecDepth 100000
set_option maxHeartbeats 0
/-! the head: the run and what is asked of it -/
namespace Sw
open PySem PySem.Spec PyProof.Rows L2 SwA
def dd0 : He.DefD := ⟨("SyntaxFault", some "__init__"), "__init__", "SyntaxFault.__init__", defArgs s_SyntaxFault_init, defBody s_SyntaxFault_init, defScope s_SyntaxFault_init, [], []⟩
def dd1 : He.DefD := ⟨("CheckFault", some "__init__"), "__init__", "CheckFault.__init__", defArgs s_CheckFault_init, defBody s_CheckFault_init, defScope s_CheckFault_init, [], []⟩
def dd2 : He.DefD := ⟨("Token", some "__init__"), "__init__", "Token.__init__", defArgs s_Token_init, defBody s_Token_init, defScope s_Token_init, [], []⟩
def dd3 : He.DefD := ⟨("run_end", none), "run_end", "run_end", defArgs s_run_end, defBody s_run_end, defScope s_run_end, [], []⟩
def dd4 : He.DefD := ⟨("read_token", none), "read_token", "read_token", defArgs s_read_token, defBody s_read_token, defScope s_read_token, [], []⟩
def dd5 : He.DefD := ⟨("tokenize", none), "tokenize", "tokenize", defArgs s_tokenize, defBody s_tokenize, defScope s_tokenize, [], []⟩
def dd6 : He.DefD := ⟨("Plan", some "__init__"), "__init__", "Plan.__init__", defArgs s_Plan_init, defBody s_Plan_init, defScope s_Plan_init, [], []⟩
def dd7 : He.DefD := ⟨("Plan", some "with_floor"), "with_floor", "Plan.with_floor", defArgs s_Plan_with_floor, defBody s_Plan_with_floor, defScope s_Plan_with_floor, [], []⟩
def dd8 : He.DefD := ⟨("Plan", some "with_robots"), "with_robots", "Plan.with_robots", defArgs s_Plan_with_robots, defBody s_Plan_with_robots, defScope s_Plan_with_robots, [], []⟩
def dd9 : He.DefD := ⟨("Parser", some "__init__"), "__init__", "Parser.__init__", defArgs s_Parser_init, defBody s_Parser_init, defScope s_Parser_init, [], []⟩
def dd10 : He.DefD := ⟨("Parser", some "peek"), "peek", "Parser.peek", defArgs s_Parser_peek, defBody s_Parser_peek, defScope s_Parser_peek, [], []⟩
def dd11 : He.DefD := ⟨("Parser", some "fail"), "fail", "Parser.fail", defArgs s_Parser_fail, defBody s_Parser_fail, defScope s_Parser_fail, [], []⟩
def dd12 : He.DefD := ⟨("Parser", some "found"), "found", "Parser.found", defArgs s_Parser_found, defBody s_Parser_found, defScope s_Parser_found, [], []⟩
def dd13 : He.DefD := ⟨("Parser", some "take"), "take", "Parser.take", defArgs s_Parser_take, defBody s_Parser_take, defScope s_Parser_take, [], []⟩
def dd14 : He.DefD := ⟨("Parser", some "take_word"), "take_word", "Parser.take_word", defArgs s_Parser_take_word, defBody s_Parser_take_word, defScope s_Parser_take_word, [], []⟩
def dd15 : He.DefD := ⟨("Parser", some "take_keyword"), "take_keyword", "Parser.take_keyword", defArgs s_Parser_take_keyword, defBody s_Parser_take_keyword, defScope s_Parser_take_keyword, [], []⟩
def dd16 : He.DefD := ⟨("Parser", some "parse_names"), "parse_names", "Parser.parse_names", defArgs s_Parser_parse_names, defBody s_Parser_parse_names, defScope s_Parser_parse_names, [], []⟩
def dd17 : He.DefD := ⟨("Parser", some "number_of"), "number_of", "Parser.number_of", defArgs s_Parser_number_of, defBody s_Parser_number_of, defScope s_Parser_number_of, [], []⟩
def dd18 : He.DefD := ⟨("Parser", some "tile_of"), "tile_of", "Parser.tile_of", defArgs s_Parser_tile_of, defBody s_Parser_tile_of, defScope s_Parser_tile_of, [], []⟩
def dd19 : He.DefD := ⟨("Parser", some "parse_robot"), "parse_robot", "Parser.parse_robot", defArgs s_Parser_parse_robot, defBody s_Parser_parse_robot, defScope s_Parser_parse_robot, [], []⟩
def dd20 : He.DefD := ⟨("Parser", some "parse_put"), "parse_put", "Parser.parse_put", defArgs s_Parser_parse_put, defBody s_Parser_parse_put, defScope s_Parser_parse_put, [], []⟩
def dd21 : He.DefD := ⟨("Parser", some "parse_rule"), "parse_rule", "Parser.parse_rule", defArgs s_Parser_parse_rule, defBody s_Parser_parse_rule, defScope s_Parser_parse_rule, [], []⟩
def dd22 : He.DefD := ⟨("Parser", some "parse_plan"), "parse_plan", "Parser.parse_plan", defArgs s_Parser_parse_plan, defBody s_Parser_parse_plan, defScope s_Parser_parse_plan, [], []⟩
def dd23 : He.DefD := ⟨("load", none), "load", "load", defArgs s_load, defBody s_load, defScope s_load, [], []⟩
def dd24 : He.DefD := ⟨("is_int_in", none), "is_int_in", "is_int_in", defArgs s_is_int_in, defBody s_is_int_in, defScope s_is_int_in, [], []⟩
def dd25 : He.DefD := ⟨("check_tick", none), "check_tick", "check_tick", defArgs s_check_tick, defBody s_check_tick, defScope s_check_tick, [], []⟩
def dd26 : He.DefD := ⟨("replaced", none), "replaced", "replaced", defArgs s_replaced, defBody s_replaced, defScope s_replaced, [], []⟩
def dd27 : He.DefD := ⟨("State", some "__init__"), "__init__", "State.__init__", defArgs s_State_init, defBody s_State_init, defScope s_State_init, [], []⟩
def dd28 : He.DefD := ⟨("first_state", none), "first_state", "first_state", defArgs s_first_state, defBody s_first_state, defScope s_first_state, [], []⟩
def dd29 : He.DefD := ⟨("moved", none), "moved", "moved", defArgs s_moved, defBody s_moved, defScope s_moved, [], []⟩
def dd30 : He.DefD := ⟨("act", none), "act", "act", defArgs s_act, defBody s_act, defScope s_act, [], []⟩
def dd31 : He.DefD := ⟨("Tick", some "__init__"), "__init__", "Tick.__init__", defArgs s_Tick_init, defBody s_Tick_init, defScope s_Tick_init, [], []⟩
def dd32 : He.DefD := ⟨("next_tick", none), "next_tick", "next_tick", defArgs s_next_tick, defBody s_next_tick, defScope s_next_tick, [], []⟩
def dd33 : He.DefD := ⟨("Story", some "__init__"), "__init__", "Story.__init__", defArgs s_Story_init, defBody s_Story_init, defScope s_Story_init, [], []⟩
def dd34 : He.DefD := ⟨("Story", some "happens"), "happens", "Story.happens", defArgs s_Story_happens, defBody s_Story_happens, defScope s_Story_happens, [], []⟩
def dd35 : He.DefD := ⟨("Story", some "count"), "count", "Story.count", defArgs s_Story_count, defBody s_Story_count, defScope s_Story_count, [], []⟩
def dd36 : He.DefD := ⟨("check_tile", none), "check_tile", "check_tile", defArgs s_check_tile, defBody s_check_tile, defScope s_check_tile, [], []⟩
def dd37 : He.DefD := ⟨("rest_tick", none), "rest_tick", "rest_tick", defArgs s_rest_tick, defBody s_rest_tick, defScope s_rest_tick, [], []⟩
def dd38 : He.DefD := ⟨("swept_in", none), "swept_in", "swept_in", defArgs s_swept_in, defBody s_swept_in, defScope s_swept_in, [], []⟩
def dd39 : He.DefD := ⟨("swept_for_ever", none), "swept_for_ever", "swept_for_ever", defArgs s_swept_for_ever, defBody s_swept_for_ever, defScope s_swept_for_ever, [], []⟩
def dd40 : He.DefD := ⟨("never_swept", none), "never_swept", "never_swept", defArgs s_never_swept, defBody s_never_swept, defScope s_never_swept, [], []⟩
def dd41 : He.DefD := ⟨("count_swept", none), "count_swept", "count_swept", defArgs s_count_swept, defBody s_count_swept, defScope s_count_swept, [], []⟩
def dd42 : He.DefD := ⟨("next_swept", none), "next_swept", "next_swept", defArgs s_next_swept, defBody s_next_swept, defScope s_next_swept, [], []⟩
def dd43 : He.DefD := ⟨("longest_wait", none), "longest_wait", "longest_wait", defArgs s_longest_wait, defBody s_longest_wait, defScope s_longest_wait, [], []⟩
def dd44 : He.DefD := ⟨("_law_random", none), "_law_random", "_law_random", defArgs s__law_random, defBody s__law_random, defScope s__law_random, [], []⟩
def dd45 : He.DefD := ⟨("_law_below", none), "_law_below", "_law_below", defArgs s__law_below, defBody s__law_below, defScope s__law_below, [], []⟩
def dd46 : He.DefD := ⟨("_law_shuffled", none), "_law_shuffled", "_law_shuffled", defArgs s__law_shuffled, defBody s__law_shuffled, defScope s__law_shuffled, [], []⟩
def dd47 : He.DefD := ⟨("_law_plan", none), "_law_plan", "_law_plan", defArgs s__law_plan, defBody s__law_plan, defScope s__law_plan, [], []⟩
def dd48 : He.DefD := ⟨("_law_short", none), "_law_short", "_law_short", defArgs s__law_short, defBody s__law_short, defScope s__law_short, [], []⟩
def dd49 : He.DefD := ⟨("_law_lines", none), "_law_lines", "_law_lines", defArgs s__law_lines, defBody s__law_lines, defScope s__law_lines, [], []⟩
def dd50 : He.DefD := ⟨("_law_text", none), "_law_text", "_law_text", defArgs s__law_text, defBody s__law_text, defScope s__law_text, [], []⟩
def dd51 : He.DefD := ⟨("_law_empty", none), "_law_empty", "_law_empty", defArgs s__law_empty, defBody s__law_empty, defScope s__law_empty, [], []⟩
def dd52 : He.DefD := ⟨("_law_tick", none), "_law_tick", "_law_tick", defArgs s__law_tick, defBody s__law_tick, defScope s__law_tick, [], []⟩
def dd53 : He.DefD := ⟨("_law_cycle", none), "_law_cycle", "_law_cycle", defArgs s__law_cycle, defBody s__law_cycle, defScope s__law_cycle, [], []⟩
def dd54 : He.DefD := ⟨("_law_equal", none), "_law_equal", "_law_equal", defArgs s__law_equal, defBody s__law_equal, defScope s__law_equal, [], []⟩
def dd55 : He.DefD := ⟨("_law_lasting", none), "_law_lasting", "_law_lasting", defArgs s__law_lasting, defBody s__law_lasting, defScope s__law_lasting, [], []⟩
def dd56 : He.DefD := ⟨("_law_some_tick", none), "_law_some_tick", "_law_some_tick", defArgs s__law_some_tick, defBody s__law_some_tick, defScope s__law_some_tick, [], []⟩
def dd57 : He.DefD := ⟨("_law_sum", none), "_law_sum", "_law_sum", defArgs s__law_sum, defBody s__law_sum, defScope s__law_sum, [], []⟩
def dd58 : He.DefD := ⟨("_law_place", none), "_law_place", "_law_place", defArgs s__law_place, defBody s__law_place, defScope s__law_place, [], []⟩
def dd59 : He.DefD := ⟨("_law_longest", none), "_law_longest", "_law_longest", defArgs s__law_longest, defBody s__law_longest, defScope s__law_longest, [], []⟩
def dd60 : He.DefD := ⟨("law", none), "law", "law", defArgs s_law, defBody s_law, defScope s_law, [], []⟩
def wd0 : He5.DefA := ⟨fun K => He5.wf K (He.ga K "State") "property" "key", "key", "State.key", defArgs s_State_key, defBody s_State_key, defScope s_State_key, [], []⟩
def wd1 : He5.DefA := ⟨fun K => He5.wf K (He.ga K "Story") "property" "size", "size", "Story.size", defArgs s_Story_size, defBody s_Story_size, defScope s_Story_size, [], []⟩
def waL : List He5.DefA := [wd0, wd1]
def fn0 : List He.DefD := [dd0, dd1, dd2, dd3, dd4, dd5, dd6, dd7, dd8, dd9, dd10, dd11, dd12, dd13, dd14, dd15, dd16, dd17, dd18, dd19, dd20, dd21, dd22, dd23, dd24, dd25, dd26, dd27, dd28, dd29]
def fn1 : List He.DefD := [dd30, dd31, dd32, dd33, dd34, dd35, dd36, dd37, dd38, dd39, dd40, dd41, dd42, dd43, dd44, dd45, dd46, dd47, dd48, dd49, dd50, dd51, dd52, dd53, dd54, dd55, dd56, dd57, dd58, dd59]
def fn2 : List He.DefD := [dd60]
def fnL : List He.DefD := fn0 ++ fn1 ++ fn2
def fa0 : List He.Fa := [.free "len", .free "abs", .free "list", .free "tuple", .free "range", .glo "_law_random", .glo "_law_below", .glo "_law_shuffled", .glo "_law_plan", .free "min", .glo "_law_short", .free "str", .free "sorted", .glo "_law_lines", .glo "_law_text", .glo "_law_empty", .glo "_law_tick", .glo "_law_cycle", .free "set", .glo "_law_lasting", .glo "_law_some_tick", .free "isinstance", .free "bool", .free "int", .free "all", .glo "_law_equal", .glo "SweepError", .free "enumerate", .glo "run_end", .glo "read_token"]
def fa1 : List He.Fa := [.glo "tokenize", .str "SIGNS" ";", .str "DIGITS" "0123456789", .str "LETTERS" "abcdefghijklmnopqrstuvwxyz", .str "SPACES" " \n", .str "SIGN" "sign", .str "NUMBER" "number", .str "KEYWORD" "keyword", .str "NAME" "name", .str "END" "end", .int "MAX_DIGITS" 2, .int "MAX_LETTERS" 8, .glo "KEYWORDS", .meth "Parser" "peek", .meth "Parser" "fail", .meth "Parser" "found", .meth "Parser" "take", .meth "Parser" "take_word", .meth "Parser" "take_keyword", .meth "Parser" "parse_names", .meth "Parser" "number_of", .meth "Parser" "tile_of", .meth "Parser" "parse_robot", .meth "Parser" "parse_put", .meth "Parser" "parse_rule", .meth "Parser" "parse_plan", .int "MAX_TILES" 16, .int "MAX_SIGNS" 4, .int "MAX_MOODS" 6, .int "MAX_ROBOTS" 3]
def fa2 : List He.Fa := [.glo "WAYS", .glo "MOVES", .glo "load", .str "REST" "rest", .glo "is_int_in", .glo "replaced", .glo "first_state", .glo "moved", .glo "act", .glo "next_tick", .int "MAX_STATES" 20000, .meth "Story" "happens", .glo "rest_tick", .glo "swept_in", .glo "swept_for_ever", .glo "never_swept", .int "MAX_TICK" 1000000000000000000, .glo "check_tick", .glo "check_tile", .free "sum", .free "divmod", .meth "Story" "count", .glo "count_swept", .glo "next_swept", .glo "longest_wait", .glo "_law_place", .glo "_law_longest", .glo "_law_sum", .glo "law"]
def faL : List He.Fa := fa0 ++ fa1 ++ fa2
def fclsB (K : PySem.W.Frag) : Bool := match PySem.W.findCls K (.ref (He.ga K "SweepError")) (.type "type") "__init__" with
  | some (.val (.builtin n)) => n == "ValueError.__init__"
  | _ => false
def mvB (K : PySem.W.Frag) : Bool := match K.lookup (He.ga K "MOVES") with
  | some ⟨.type "tuple", none, _, _⟩ => true
  | _ => false
def recB (K : PySem.W.Frag) (p : Addr) : Bool := match PySem.W.recIn K p "property" with
  | some (.ref _ :: _) => true
  | _ => false
def propB (K : PySem.W.Frag) (C f : Str) : Bool := He.eqO (PySem.W.findIn K (.ref (He.ga K C)) f) (some (some (.ref (He.ma K (He.ga K C) f)))) && (He.eqO (PySem.W.specialIn K (.ref (He.ma K (He.ga K C) f)) "__get__") (some (some (.builtin "property.__get__"))) &&
  (decide (PySem.W.takesIn K (.ref (He.ma K (He.ga K C) f)) = some true) && recB K (He.ma K (He.ga K C) f)))
def exB (K : PySem.W.Frag) : Bool := PySem.W.readsIn K (He.ga K "SweepError") (.type "type") && (He.eqO (PySem.W.specialIn K (.ref (He.ga K "SweepError")) "__getattribute__") (some (some (.builtin "type.__getattribute__"))) && (fclsB K && (excCB K "SyntaxFault" ["line", "column"] && (mkCB K "Token" tokF && (He.tupB K "KEYWORDS" (kws.map fun w => He.Dv.str (sx w)) && (mkCB K "Parser" parN && (decide (He.ga K "Parser" ≠ He.ga K "Token") && (He.tupB K "WAYS" (ways.map fun w => He.Dv.str (sx w)) && (He.tupB K "MOVES" (moves.map fun w => He.Dv.str (sx w)) && (mkCB K "Plan" planF && (mkCB K "State" ["floor", "robots"] && (mkCB K "Tick" ["swept", "words", "state"] && (decide (He.ga K "State" ≠ He.ga K "Story") && (decide (He.ga K "Plan" ≠ He.ga K "Story") && (decide (He.ga K "Tick" ≠ He.ga K "Story") && (propB K "State" "key" && (mkCB K "Story" ["ticks", "start"] && (propB K "Story" "size"))))))))))))))))))
abbrev R : PySem.W.OpenRow := PySem.W.OpenLaw.row PySem.Challenge.rw_sweeprota_k06_swept_tiles
def tsL : List He.Tab := []
def codeW (g : Addr → Option Obj) (a : Addr) : List Addr := match g a with
  | some ⟨_, _, .func fd, _⟩ => He.refV fd.code
  | _ => []
def asZ (g : Addr → Option Obj) (as : List Addr) : List Addr := as ++ (cStatics :: waL.flatMap fun d => codeW g (d.at_ (He.frG g as)))
def asY (g : Addr → Option Obj) : List Addr := asZ g (He.asD g 4)
abbrev AlY : Type := He.AlT × He.AlD × Bool
def tfL : List He.Defn := [("count_swept", none)]
def frY (g : Addr → Option Obj) : PySem.W.Frag := He.frT g (asY g)
def obsY (g : Addr → Option Obj) : AlY := (He.obsT faL fnL tsL (frY g), He5.obsA [] waL (frY g), exB (frY g) && He.tabsB g tfL (frY g))
/-- what is told; the tables of the defs that make lambdas are empty and not in K -/
structure SaysY (w : World) (h : Heap) (K : PySem.W.Frag) : Prop where
  t : He.SaysT faL fnL tsL w K
  a : He5.SaysA [] waL K
  more : exB K = true
  tb : ∀ p ∈ tfL, PySem.W.codeHdIn K (He.cT K p).1 (He.cT K p).2 = true ∧ K.lookup (He.cT K p).2 = none ∧ h.get? (He.cT K p).2 = some { cls := .none, data := .fields #[] }
def valY (w : World) : AlY := (He.valT fnL tsL w, He5.valA waL, true)
theorem saysY_of {w : World} {h : Heap} (e : obsY h.get? = valY w) : SaysY w h (frY h.get?) := by
  have e3 : (exB (frY h.get?) && He.tabsB h.get? tfL (frY h.get?)) = true := congrArg (fun z : AlY => z.2.2) e
  obtain ⟨h1, h2⟩ := He.ba e3
  refine ⟨congrArg (fun z : AlY => z.1) e, congrArg (fun z : AlY => z.2.1) e, h1, fun p hp => ?_⟩
  obtain ⟨h3, h4⟩ := He.ba (List.all_eq_true.mp h2 p hp)
  cases q : h.get? (He.cT (frY h.get?) p).2 with
  | none =>
    rw [q] at h4
    cases h4
  | some o =>
    rw [q] at h4
    exact ⟨h3, He.frT_none q h4, by rw [He.emptyTab_eq h4]⟩
def hk : PySem.W.Hook where
  α := AlY
  obs := fun s => obsY s.heap.get?
  val := valY
  says := fun w h => ∃ K : PySem.W.Frag, K.In h ∧ SaysY w h K
  of := fun _ _ e => ⟨_, He.frT_in, saysY_of e⟩
  keeps := fun _ _ _ ⟨K, hK, c⟩ k => ⟨K, PySem.W.Frag.In.keeps hK k, ⟨c.t, c.a, c.more, fun p hp => ⟨(c.tb p hp).1, (c.tb p hp).2.1, k _ _ (c.tb p hp).2.2⟩⟩⟩
def ob (s : PySem.W.SharedT) : AlY := obsY (HandSHeadRun.getT s)
theorem ob_eq (s : PySem.W.SharedT) : ob s = hk.obs s.abs := by
  have e : HandSHeadRun.getT s = s.abs.heap.get? := funext (HandSHeadRun.getT_eq s)
  unfold ob
  rw [e] <;> rfl
def nm0 : List PySem.Str := ["_wall", "SweepError", "SyntaxFault", "CheckFault", "InvalidTick", "InvalidNumber", "TooLong", "WAYS", "MOVES", "KEYWORDS", "LETTERS", "DIGITS", "SPACES", "SIGNS", "MAX_LETTERS", "MAX_DIGITS", "NAME", "NUMBER", "KEYWORD", "SIGN", "END", "Token", "run_end", "read_token", "tokenize", "MAX_TILES", "MAX_SIGNS", "MAX_MOODS", "MAX_ROBOTS", "Plan"]
def nm1 : List PySem.Str := ["Parser", "load", "MAX_TICK", "MAX_STATES", "REST", "is_int_in", "check_tick", "replaced", "State", "first_state", "moved", "act", "Tick", "next_tick", "Story", "check_tile", "rest_tick", "swept_in", "swept_for_ever", "never_swept", "count_swept", "next_swept", "longest_wait", "_law_random", "_law_below", "_law_shuffled", "_law_plan", "_law_short", "_law_lines", "_law_text"]
def nm2 : List PySem.Str := ["_law_empty", "_law_tick", "_law_cycle", "_law_equal", "_law_lasting", "_law_some_tick", "_law_sum", "_law_place", "_law_longest"]
def names : List PySem.Str := nm0 ++ nm1 ++ nm2
theorem run (w : World) : HandSHeadRun.RunEq R (PySem.W.view R.prog [75]) hk ob 60000 names w := by
  intro os
  kernel_rfl
end Sw

end

section
set_option maxRecDepth 100000
set_option maxHeartbeats 4000000
/-! what the head asks: instances of an own class, asked by isinstance -/
namespace Sw
open PySem PySem.Spec PyProof.Rows L2 SwA
def isiB (K : PySem.W.Frag) (C : Addr) : Bool := He.eqO (PySem.W.findIn K (.ref C) "__class__") (some (some (.builtin "object.__class__"))) && (He.eqO (PySem.W.specialIn K (.builtin "object.__class__") "__get__") (some (some (.builtin "getset_descriptor.__get__"))) &&
  (decide (PySem.W.takesIn K (.builtin "object.__class__") = some true) && (decide (PySem.W.mroIn K C (.type "object") = some true) && decide (PySem.W.kitOne K (.ref C) (.ref C) = some true))))
structure IsiC (K : PySem.W.Frag) (C : Addr) : Prop where
  ha : PySem.W.findIn K (.ref C) "__class__" = some (some (.builtin "object.__class__"))
  hn : PySem.W.specialIn K (.builtin "object.__class__") "__get__" = some (some (.builtin "getset_descriptor.__get__"))
  ht : PySem.W.takesIn K (.builtin "object.__class__") = some true
  hm : PySem.W.mroIn K C (.type "object") = some true
  kit : PySem.W.kitOne K (.ref C) (.ref C) = some true
theorem isiB_ok {K : PySem.W.Frag} {C : Addr} (h : isiB K C = true) : IsiC K C := by
  obtain ⟨h1, h⟩ := He.ba h
  obtain ⟨h2, h⟩ := He.ba h
  obtain ⟨h3, h⟩ := He.ba h
  obtain ⟨h4, h5⟩ := He.ba h
  exact ⟨He.eqO_ok h1, He.eqO_ok h2, of_decide_eq_true h3, of_decide_eq_true h4, of_decide_eq_true h5⟩
end Sw

end

section
set_option maxRecDepth 100000
set_option maxHeartbeats 4000000
/-! dicts whose keys are tuples of tuples -/
namespace SwA
open PySem PySem.Spec PyProof.Rows L2
mutual
/-- the value v is the key k, by tracked tuples -/
inductive Nk (H : Hp) : NestedKey → V → Prop
  | bl (b : Bool) : Nk H (.num (if b = true then 1 else 0)) (.bl b)
  | int (i : Int) : Nk H (.num i) (.int i)
  | str (x : Str) : Nk H (.text x) (.str x)
  | tup {a : Addr} {vs : List V} {ks : List NestedKey} : H a = some (.tup vs) → NkAll H ks vs → Nk H (.tup ks) (.ref a)
inductive NkAll (H : Hp) : List NestedKey → List V → Prop
  | nil : NkAll H [] []
  | cons {k : NestedKey} {v : V} {ks : List NestedKey} {vs : List V} : Nk H k v → NkAll H ks vs → NkAll H (k :: ks) (v :: vs)
end
mutual
theorem Nk.keep {H H' : Hp} (s : ∀ a xs, H a = some (.tup xs) → H' a = some (.tup xs)) : ∀ {k : NestedKey} {v : V}, Nk H k v → Nk H' k v
  | _, _, .bl b => .bl b
  | _, _, .int i => .int i
  | _, _, .str x => .str x
  | _, _, .tup h t => .tup (s _ _ h) (NkAll.keep s t)
theorem NkAll.keep {H H' : Hp} (s : ∀ a xs, H a = some (.tup xs) → H' a = some (.tup xs)) : ∀ {ks : List NestedKey} {vs : List V}, NkAll H ks vs → NkAll H' ks vs
  | _, _, .nil => .nil
  | _, _, .cons h t => .cons (Nk.keep s h) (NkAll.keep s t)
end
section
variable {P : Program} {w : World} {H : Hp} {h : Heap}
mutual
theorem Nk.is (ok : HOk P w H h) : ∀ {k : NestedKey} {v : V} {u : Value}, Nk H k v → RelV v u → NestedIs h k u
  | _, _, u, .bl b, r => by
    obtain rfl : u = Value.bool b := r
    exact .bool rfl
  | _, _, u, .int i, r => by
    obtain ⟨t, rfl⟩ := (show ∃ t, u = Value.int i t from r)
    exact .int i t
  | _, _, u, .str x, r => by
    obtain ⟨t, rfl⟩ := (show ∃ t, u = Value.str x t from r)
    exact .text x t
  | _, _, u, .tup (a := a) (vs := vs) e t, r => by
    obtain rfl : u = Value.ref a := r
    obtain ⟨_, its, rl, o, h1, h2, n, h3⟩ := (show ObjOk P w H h a (.tup vs) from ok a _ e)
    exact .tup h1 h2 h3 (by simpa using NkAll.is ok t rl)
theorem NkAll.is (ok : HOk P w H h) : ∀ {ks : List NestedKey} {vs : List V} {us : List Value}, NkAll H ks vs → Vals vs us → NestedAll h ks us
  | _, _, _, .nil, r => by cases r; exact .nil
  | _, _, _, .cons hk t, r => by
    cases r with
    | cons r1 r2 => exact .cons (Nk.is ok hk r1) (NkAll.is ok t r2)
end
end
/-- a key's tuple -/
def KeyN (H : Hp) (k : NestedKey) (b : Addr) : Prop := Nk H k (.ref b) ∧ k.depth ≤ 8
theorem KeyN.keep {H H' : Hp} (s : ∀ a xs, H a = some (.tup xs) → H' a = some (.tup xs)) {k : NestedKey} {b : Addr} (h : KeyN H k b) : KeyN H' k b := ⟨h.1.keep s, h.2⟩
theorem KeyN.is {P : Program} {w : World} {H : Hp} {h : Heap} (ok : HOk P w H h) {k : NestedKey} {b : Addr} (x : KeyN H k b) : (nestedKind P w).is h k b := ⟨x.1.is ok rfl, x.2⟩
abbrev KvN := NestedKey × Addr × V
abbrev RelN : List KvN → List (NestedKey × Addr × Value) → Prop := Paired fun p q => p.1 = q.1 ∧ p.2.1 = q.2.1 ∧ RelV p.2.2 q.2.2
/-- the dict's own object -/
def DNo (P : Program) (w : World) (a : Addr) (kvs : List KvN) : HO := .ext fun h => kvs.length ≤ sizeLine ∧ (a == sysModules) = false ∧ ∃ xs, RelN kvs xs ∧
  ∃ o es ep, h.get? a = some o ∧ o.ExactDict ∧ o.data = .dict es ep ∧ es.toList = xs.map (entryOfKey (nestedKind P w)) ∧ (xs.map (·.1)).Nodup
theorem dno_ok {P : Program} {w : World} {H : Hp} {h : Heap} {a : Addr} {kvs : List KvN} (z : kvs.length ≤ sizeLine) (y : (a == sysModules) = false) {xs : List (NestedKey × Addr × Value)} (r : RelN kvs xs) {o : Obj} {es : Array DictEntry} {ep : Nat}
    (h1 : h.get? a = some o) (h2 : o.ExactDict) (h3 : o.data = .dict es ep) (h4 : es.toList = xs.map (entryOfKey (nestedKind P w))) (h5 : (xs.map (·.1)).Nodup) : ObjOk P w H h a (DNo P w a kvs) :=
  ⟨⟨z, y, xs, r, o, es, ep, h1, h2, h3, h4, h5⟩, ⟨o, h1⟩, fun g1 g2 ⟨z, y, xs, r, o, es, ep, h1, h2, h3, h4, h5⟩ k => ⟨z, y, xs, r, o, es, ep, k o h1, h2, h3, h4, h5⟩⟩
/-- a dict with nested keys -/
def DictN (P : Program) (w : World) (H : Hp) (a : Addr) (kvs : List KvN) : Prop := H a = some (DNo P w a kvs) ∧ ∀ x ∈ kvs, KeyN H x.1 x.2.1
theorem DictN.keep {P : Program} {w : World} {H H' : Hp} {a : Addr} {kvs : List KvN} (h : DictN P w H a kvs) (s : ∀ b xs, H b = some (.tup xs) → H' b = some (.tup xs)) (e : H' a = H a) : DictN P w H' a kvs := ⟨e.trans h.1, fun x hx => (h.2 x hx).keep s⟩
theorem DictN.same {P : Program} {w : World} {H H' : Hp} {a : Addr} {kvs : List KvN} (h : DictN P w H a kvs) (s : Same H H') : DictN P w H' a kvs := ⟨s _ _ h.1, fun x hx => (h.2 x hx).keep fun _ _ z => s _ _ z⟩
theorem paired_append {α β : Type} {F : α → β → Prop} : ∀ {a : List α} {b : List β} {c : List α} {d : List β}, Paired F a b → Paired F c d → Paired F (a ++ c) (b ++ d)
  | _, _, _, _, .nil, h => h
  | _, _, _, _, .cons x t, h => .cons x (paired_append t h)
def valN (kvs : List KvN) (k : NestedKey) : Option V := (kvs.find? fun x => decide (x.1 = k)).map (·.2.2)
theorem RelN.val {kvs : List KvN} {xs : List (NestedKey × Addr × Value)} (r : RelN kvs xs) (k : NestedKey) : RelO (valN kvs k) ((atKey xs k).map (·.2)) := by
  induction r with
  | nil => exact True.intro
  | @cons p q ps qs h t ih =>
    by_cases e : p.1 = k
    · have e2 : q.1 = k := by rw [← h.1]; exact e
      have a1 : valN (p :: ps) k = some p.2.2 := by simp [valN, e]
      have a2 : (atKey (q :: qs) k).map (·.2) = some q.2.2 := by simp [atKey, e2]
      rw [a1, a2]
      exact h.2.2
    · have e2 : ¬ q.1 = k := by rw [← h.1]; exact e
      have a1 : valN (p :: ps) k = valN ps k := by simp [valN, e]
      have a2 : atKey (q :: qs) k = atKey qs k := by simp [atKey, e2]
      rw [a1, a2]
      exact ih
theorem RelN.keys {P : Program} {w : World} {H : Hp} {h : Heap} (ok : HOk P w H h) {kvs : List KvN} {xs : List (NestedKey × Addr × Value)} (r : RelN kvs xs) : (∀ x ∈ kvs, KeyN H x.1 x.2.1) → ∀ x ∈ xs, (nestedKind P w).is h x.1 x.2.1 := by
  induction r with
  | nil => intro _ x hx; exact nomatch hx
  | @cons p q ps qs hq t ih =>
    intro hk x hx
    rcases List.mem_cons.mp hx with e | hx
    · subst e
      have := (hk p List.mem_cons_self).is ok
      rw [hq.1, hq.2.1] at this
      exact this
    · exact ih (fun y hy => hk y (List.mem_cons_of_mem _ hy)) x hx
theorem DictN.rd {P : Program} {w : World} {H : Hp} {h : Heap} {a : Addr} {kvs : List KvN} (ok : HOk P w H h) (d : DictN P w H a kvs) : kvs.length ≤ sizeLine ∧ (a == sysModules) = false ∧ ∃ xs, RelN kvs xs ∧ h.DictOfH (nestedKind P w) a xs := by
  obtain ⟨⟨z, y, xs, r, o, es, ep, h1, h2, h3, h4, h5⟩, _⟩ := (show ObjOk P w H h a (DNo P w a kvs) from ok a _ d.1)
  exact ⟨z, y, xs, r, o, es, ep, h1, h2, h3, h4, r.keys ok d.2, h5⟩
def tNGet (P : Program) (w : World) (td ty : TE) : TE := fun σ H Q => td σ H fun x H1 => ty σ H1 fun y H2 => ∃ a kvs k b v, x = .ref a ∧ y = .ref b ∧ DictN P w H2 a kvs ∧ KeyN H2 k b ∧ valN kvs k = some v ∧ Q v H2
def tNIn (P : Program) (w : World) (ty td : TE) : TE := fun σ H Q => ty σ H fun y H1 => td σ H1 fun x H2 => ∃ a kvs k b, x = .ref a ∧ y = .ref b ∧ DictN P w H2 a kvs ∧ KeyN H2 k b ∧ Q (.bl (valN kvs k).isSome) H2
/-- d[y] = v, y new -/
def sNPut (P : Program) (w : World) (td ty tv : TE) : TS := fun D σ H => tv σ H fun v H1 => td σ H1 fun x H2 => ty σ H2 fun y H3 => ∃ a kvs k b, x = .ref a ∧ y = .ref b ∧ DictN P w H3 a kvs ∧ KeyN H3 k b ∧ valN kvs k = none ∧ kvs.length < sizeLine ∧ D.nx σ (upd H3 a (DNo P w a (kvs ++ [(k, b, v)])))
def tDNewN (P : Program) (w : World) : TE := fun _ H Q => ∀ p, H p = none → Q (.ref p) (upd H p (DNo P w p []))
section
variable {X : Cx} {o i e value : Expr} {pos pos' tpos : Pos} {td ty tv : TE}
theorem room8 {A : Around} (hu : A.units + 9 < cLine) : (A.in1).units + 8 < cLine := by
  rw [Around.in1_units]
  omega
theorem pe_nget {P : Program} {w : World} (hP : X.prog = P) (hw : X.w = w) (hu : X.A.units + 9 < cLine) (ho : PE X o td) (hi : PE X i ty) (hs : NoSl i) : PE X (.Subscript o i pos) (tNGet P w td ty) := by
  subst hP hw
  refine ⟨fun pins s σ H Q I h => ?_⟩
  refine subD_of PySem.F.slot_dict_getitem.lookup hs (thn (ho.run pins s σ H _ I h) fun u s1 ⟨x, H1, I1, rx, q1⟩ => thn (hi.run pins s1 σ H1 _ I1 q1) fun iv s2 ⟨y, H2, I2, ry, a, kvs, k, b, v, ex, ey, dn, kn, hv, q2⟩ => ?_)
  subst ex ey
  obtain rfl : u = Value.ref a := rx
  obtain rfl : iv = Value.ref b := ry
  obtain ⟨z, hd, xs, rel, dd⟩ := dn.rd I2.hok
  obtain ⟨w', hw, rw'⟩ := RelO.some_of (v := v) (o := (atKey xs k).map (·.2)) (by rw [← hv]; exact rel.val k)
  obtain ⟨p, hp, hp2⟩ := Option.map_eq_some_iff.mp hw
  refine ⟨dd.typeIs, wpAny_getItem_heap (knd := nestedKind X.prog X.w) (room8 hu) (kn.is I2.hok) dd hp ?_⟩
  rw [hp2]
  exact ⟨v, H2, I2.tok _, rw', q2⟩
theorem pc_nin {P : Program} {w : World} (hP : X.prog = P) (hw : X.w = w) (hu : X.A.units + 9 < cLine) (hi : PE X i ty) (ho : PE X o td) : PC X .In i o (tNIn P w ty td) := by
  subst hP hw
  refine ⟨fun pins s σ H Q I h => ?_⟩
  refine thn (hi.run pins s σ H _ I h) fun iv s1 ⟨y, H1, I1, ry, q1⟩ => thn (ho.run pins s1 σ H1 _ I1 q1) fun u s2 ⟨x, H2, I2, rx, a, kvs, k, b, ex, ey, dn, kn, q2⟩ => ?_
  subst ex ey
  obtain rfl : u = Value.ref a := rx
  obtain rfl : iv = Value.ref b := ry
  obtain ⟨z, hd, xs, rel, dd⟩ := dn.rd I2.hok
  refine wpAny_in_heap (knd := nestedKind X.prog X.w) (room8 hu) (kn.is I2.hok) hd dd ?_
  have q := (rel.val k).isSome_eq
  rw [Option.isSome_map] at q
  rw [← q]
  exact ⟨.bl (valN kvs k).isSome, H2, I2.tok _, rfl, q2⟩
theorem ps_nput {P : Program} {w : World} (hP : X.prog = P) (hw : X.w = w) (hu : X.A.units + 9 < cLine) (ho : PE X o td) (hi : PE X i ty) (hv : PE X value tv) (hs : swapsWith value (some (.Subscript o i pos')) pos.line X.env = pure false) :
    PS X (.Assign [.Subscript o i pos'] value pos) (sNPut P w td ty tv) := by
  subst hP hw
  refine ⟨fun pins s σ H D I h => ?_⟩
  refine wpAny_Assign_Subscript (thn (hv.run pins s σ H _ I h) fun r s1 ⟨v, H1, I1, rv, q1⟩ => thn (ho.run pins s1 σ H1 _ I1 q1) fun u s2 ⟨x, H2, I2, rx, q2⟩ => thn (hi.run pins s2 σ H2 _ I2 q2) fun iv s3 ⟨y, H3, I3, ry, a, kvs, k, b, ex, ey, dn, kn, hno, hl, q3⟩ => ?_) hs
  subst ex ey
  obtain rfl : u = Value.ref a := rx
  obtain rfl : iv = Value.ref b := ry
  obtain ⟨z, hd, xs, rel, dd⟩ := dn.rd I3.hok
  have hz : xs.length ≤ sizeLine := by rw [← Paired.length rel]; exact z
  have hno2 : atKey xs k = none := by
    have q := (rel.val k).isSome_eq
    rw [hno, Option.isSome_map] at q
    cases e : atKey xs k with
    | none => rfl
    | some _ => rw [e] at q; cases q
  refine wpAny_setItem_heap (knd := nestedKind X.prog X.w) (hsz := hz) (room8 hu) (kn.is I3.hok) dd fun h' dd' hs => ?_
  rw [storedH_new hno2] at dd'
  obtain ⟨q, es, ep, hq, h2, h3, h4, _, h5⟩ := dd'
  refine ⟨σ, _, d_write I3 (by rw [dn.1]; exact True.intro) hs ⟨q, hq⟩ (dno_ok ?_ hd ?_ hq h2 h3 h4 h5), q3⟩
  · rw [List.length_append, List.length_singleton]
    omega
  · exact paired_append rel (.cons ⟨rfl, rfl, rv⟩ .nil)
theorem pe_dnewN {P : Program} {w : World} (hP : X.prog = P) (hw : X.w = w) : PE X (.Dict [] [] pos) (tDNewN P w) := by
  subst hP hw
  exact ⟨fun pins s σ H Q I h =>
  wpAny_Dict_empty ⟨.ref s.heap.objs.size, _, I.laid (a := s.heap.objs.size) (o := DNo X.prog X.w s.heap.objs.size []) (t' := s.toks) (fun _ _ q => Heap.get?_push_of_some _ q) (Nat.le_refl _)
    (dno_ok (Nat.zero_le _) (beq_eq_false_iff_ne.mpr (Ne.symm (Nat.ne_of_lt I.big))) .nil (Heap.get?_push_size _ rfl) ⟨rfl, rfl, rfl⟩ rfl rfl List.nodup_nil), rfl, h _ (I.hok.fresh (Nat.le_refl _))⟩⟩
end
end SwA

end

section
set_option maxRecDepth 100000
set_option maxHeartbeats 4000000
/-! for .. in d.items(), d.values(), where d's keys are tuples; the dict is locked -/
namespace SwA
open PySem PySem.Spec PyProof.Rows L2
theorem relN_at {kvs : List KvN} {xs : List (NestedKey × Addr × Value)} (r : RelN kvs xs) : ∀ {i : Nat} {x : KvN}, kvs[i]? = some x → ∃ y, xs[i]? = some y ∧ x.1 = y.1 ∧ x.2.1 = y.2.1 ∧ RelV x.2.2 y.2.2 := by
  induction r with
  | nil => intro i x h; simp at h
  | @cons p q ps qs h t ih =>
    intro i x e
    cases i with
    | zero =>
      have e : p = x := by simpa using e
      subst e
      exact ⟨q, rfl, h⟩
    | succ i => exact ih (by simpa using e)
theorem frzN {X : Cx} {pins : List (Addr × Obj)} {σ : L2.St} {H : Hp} {s : Shared} {d : Addr} {o : Obj} {kvs : List KvN} (I : Inv X pins σ H s) (h : H d = some (.frz o (DNo X.prog X.w d kvs))) :
    (d == sysModules) = false ∧ s.heap.get? d = some o ∧ o.ExactDict ∧ ∃ (es : Array DictEntry) (ep : Nat), o.data = .dict es ep ∧ es.size = kvs.length ∧
      ∀ (i : Nat) (x : KvN), kvs[i]? = some x → ∃ hi : i < es.size, es[i].key = .ref x.2.1 ∧ RelV x.2.2 es[i].val := by
  obtain ⟨hd, q⟩ := (show ObjOk X.prog X.w H s.heap d (.frz o (DNo X.prog X.w d kvs)) from I.hok d _ h)
  obtain ⟨⟨z, hs, xs, r, o', es, ep, ho, hx, hdt, he, _⟩, _⟩ := (show ObjOk X.prog X.w H s.heap d (DNo X.prog X.w d kvs) from q)
  rw [hd] at ho
  cases ho
  have l1 : es.size = xs.length := size_of_entries he
  have l2 : kvs.length = xs.length := Paired.length r
  refine ⟨hs, hd, hx, es, ep, hdt, by omega, fun i x hxi => ?_⟩
  obtain ⟨y, hy, _, e2, e3⟩ := relN_at r hxi
  have hi : i < es.size := by
    have := (List.getElem?_eq_some_iff.mp hy).1
    omega
  have qe := entry_at he i
  rw [hy, Array.getElem?_eq_getElem hi] at qe
  have qe : es[i] = entryOfKey (nestedKind X.prog X.w) y := Option.some.inj qe
  refine ⟨hi, ?_, ?_⟩
  · rw [qe, e2]; rfl
  · rw [qe]; exact e3
/-- the values -/
def ItvN (P : Program) (w : World) (d : Addr) (o : Obj) (kvs : List KvN) : It :=
  ⟨fun i H => H d = some (.frz o (DNo P w d kvs)) ∧ i < kvs.length, fun i H x H' => H' = H ∧ ∃ y, kvs[i]? = some y ∧ x = y.2.2, fun i H => H d = some (.frz o (DNo P w d kvs)) ∧ kvs.length ≤ i⟩
/-- the keys: each its own tuple -/
def ItkN (P : Program) (w : World) (d : Addr) (o : Obj) (kvs : List KvN) : It :=
  ⟨fun i H => H d = some (.frz o (DNo P w d kvs)) ∧ i < kvs.length, fun i H x H' => H' = H ∧ ∃ y, kvs[i]? = some y ∧ x = .ref y.2.1, fun i H => H d = some (.frz o (DNo P w d kvs)) ∧ kvs.length ≤ i⟩
/-- the pairs, each a new tuple -/
def ItiN (P : Program) (w : World) (d : Addr) (o : Obj) (kvs : List KvN) : It :=
  ⟨fun i H => H d = some (.frz o (DNo P w d kvs)) ∧ i < kvs.length, fun i H x H' => ∃ T y, kvs[i]? = some y ∧ x = .ref T ∧ H T = none ∧ H' = upd H T (.tup [.ref y.2.1, y.2.2]), fun i H => H d = some (.frz o (DNo P w d kvs)) ∧ kvs.length ≤ i⟩
theorem walk_valN {P : Program} {w : World} {d : Addr} {o : Obj} {kvs : List KvN} : Walk (ItvN P w d o kvs) kvs.length (fun H => H d = some (.frz o (DNo P w d kvs))) (fun i H x H' => H' = H ∧ ∃ y, kvs[i]? = some y ∧ x = y.2.2) :=
  ⟨fun _ _ hi q => ⟨q, hi⟩, fun _ q => ⟨q, Nat.le_refl _⟩, fun _ _ _ _ _ _ y => y⟩
theorem walk_keyN {P : Program} {w : World} {d : Addr} {o : Obj} {kvs : List KvN} : Walk (ItkN P w d o kvs) kvs.length (fun H => H d = some (.frz o (DNo P w d kvs))) (fun i H x H' => H' = H ∧ ∃ y, kvs[i]? = some y ∧ x = .ref y.2.1) :=
  ⟨fun _ _ hi q => ⟨q, hi⟩, fun _ q => ⟨q, Nat.le_refl _⟩, fun _ _ _ _ _ _ y => y⟩
theorem walk_itemN {P : Program} {w : World} {d : Addr} {o : Obj} {kvs : List KvN} : Walk (ItiN P w d o kvs) kvs.length (fun H => H d = some (.frz o (DNo P w d kvs))) (fun i H x H' => ∃ T y, kvs[i]? = some y ∧ x = .ref T ∧ H T = none ∧ H' = upd H T (.tup [.ref y.2.1, y.2.2])) :=
  ⟨fun _ _ hi q => ⟨q, hi⟩, fun _ q => ⟨q, Nat.le_refl _⟩, fun _ _ _ _ _ _ y => y⟩
section
variable {P : Program} {w : World} {K : PySem.W.Frag} {tg : Expr} {d : Addr} {o : Obj} {es : Array DictEntry} {ep : Nat}
theorem turn_valN {kvs : List KvN} (it : Addr) (hod : o.data = .dict es ep) : Turn P w K tg (ItvN P w d o kvs) [it] it (fun i h => h.IsValIter it d i kvs.length ep) where
  mem := by simp
  obj := fun i h st b hb => by
    have e : b = it := by simpa using hb
    subst e
    obtain ⟨oi, e, c, dd⟩ := st
    exact ⟨oi, e, fun v z => by rw [dd] at z; cases z⟩
  keep := fun i h h' st k => st.at fun oi e => k it (by simp) oi e
  item := by
    intro X hP hw hK hc i pins s σ H E I hf st hg
    subst hP hw hK
    obtain ⟨hd, hi⟩ := hg
    obtain ⟨f0, f1, f2, f3, f4, f5⟩ := hf it (by simp)
    obtain ⟨hs, hgd, hx, es', ep', hdt, hsz, ent⟩ := frzN I hd
    obtain ⟨rfl, rfl⟩ := dict_ep hod hdt
    have hkv : kvs[i]? = some kvs[i] := List.getElem?_eq_getElem hi
    obtain ⟨hi2, _, ru⟩ := ent i _ hkv
    rw [← hsz] at st
    refine wpAny_pyNext_values_item_raw st ⟨o, hgd, hx, hdt⟩ hi2 fun h' st' sb => ?_
    have I1 : Inv X pins σ H { s with heap := h' } := I.turned (t' := s.toks) (fun b ob hb e => (sb.2 b hb).trans e) f0 f1 f3 f4 f5
    obtain ⟨oi, e, c, dd⟩ := id st'
    refine ⟨es'[i].val, rfl, go_of (s := { s with heap := h' }) e c dd (by decide) ⟨kvs[i].2.2, H, I1, ru, ⟨rfl, kvs[i], hkv, rfl⟩, ?_, fun b hb => (hf b hb).1⟩⟩
    show h'.IsValIter it d (i + 1) kvs.length _
    rw [← hsz]
    exact st'
  done := by
    intro X hP hw hK hc i pins s σ H E I hf st hg
    subst hP hw hK
    obtain ⟨hd, hi⟩ := hg
    obtain ⟨f0, f1, f2, f3, f4, f5⟩ := hf it (by simp)
    obtain ⟨hs, hgd, hx, es', ep', hdt, hsz, ent⟩ := frzN I hd
    obtain ⟨rfl, rfl⟩ := dict_ep hod hdt
    rw [← hsz] at st
    exact wpAny_pyNext_values_end_raw (I.ok.hd hc) st ⟨o, hgd, hx, hdt⟩ (by omega) fun h' eb => ⟨rfl, I.turned (t' := s.toks) (fun b ob hb e => eb b ob hb e) f0 f1 f3 f4 f5⟩
  self := fun A i s Q E st h => wpAny_pyIter_valiter st h
theorem turn_itemN {kvs : List KvN} {elts : List Expr} {kk : Nat} {tpos : Pos} (it : Addr) (hod : o.data = .dict es ep) :
    Turn P w K (.Tuple elts kk tpos) (ItiN P w d o kvs) [it] it (fun i h => ∃ ok ov, IsItemIter h it d i kvs.length ep ok ov) where
  mem := by simp
  obj := fun i h st b hb => by
    have e : b = it := by simpa using hb
    subst e
    obtain ⟨ok, ov, e⟩ := st
    exact ⟨_, e, fun v z => nomatch z⟩
  keep := fun i h h' st k => let ⟨ok, ov, e⟩ := st; ⟨ok, ov, k it (by simp) _ e⟩
  item := by
    intro X hP hw hK hc i pins s σ H E I hf st hg
    subst hP hw hK
    obtain ⟨hd, hi⟩ := hg
    obtain ⟨hs, hgd, hx, es', ep', hdt, hsz, ent⟩ := frzN I hd
    obtain ⟨rfl, rfl⟩ := dict_ep hod hdt
    have hkv : kvs[i]? = some kvs[i] := List.getElem?_eq_getElem hi
    obtain ⟨hi2, ek, ru⟩ := ent i _ hkv
    obtain ⟨ok, ov, he⟩ := st
    rw [← hsz] at he
    have hlt : it < s.heap.objs.size := Heap.lt_size he
    refine wpAny_pyNext_items_item_raw he ⟨o, hgd, hx, hdt⟩ hi2 fun h' ho hT hz hk => ?_
    refine ⟨_, rfl, wpAny_letOwnedTupleGo_items (s := { s with heap := h' }) ho fun h'' he' sb => ?_⟩
    have hT2 : h''.get? s.heap.objs.size = some { cls := .type "tuple", data := .seq #[es'[i].key, es'[i].val] } := (sb.2 _ (Nat.ne_of_gt hlt)).trans hT
    have new : ObjOk X.prog X.w (upd H s.heap.objs.size (.tup [.ref kvs[i].2.1, kvs[i].2.2])) h'' s.heap.objs.size (.tup [.ref kvs[i].2.1, kvs[i].2.2]) :=
      ⟨by show 2 ≤ sizeLine; decide, [es'[i].key, es'[i].val], .cons ek (.cons ru .nil), ⟨_, hT2, rfl, _, rfl⟩⟩
    have I1 : Inv X pins σ (upd H s.heap.objs.size (.tup [.ref kvs[i].2.1, kvs[i].2.2])) { s with heap := h'' } :=
      I.turnedNew (t' := s.toks) (ch := [it]) (fun b ob hb e => (sb.2 b (by simpa using hb)).trans (hk b ob (by simpa using hb) e)) hf (Nat.le_refl _) new
    refine ⟨.ref s.heap.objs.size, _, I1, rfl, ⟨_, kvs[i], hkv, rfl, I.hok.fresh (Nat.le_refl _), rfl⟩, ⟨es'[i].key, es'[i].val, ?_⟩, fun b hb => ?_⟩
    · rw [← hsz]; exact he'
    · have e : b = it := by simpa using hb
      rw [e, upd_ne (Nat.ne_of_lt hlt)]
      exact (hf it (by simp)).1
  done := by
    intro X hP hw hK hc i pins s σ H E I hf st hg
    subst hP hw hK
    obtain ⟨hd, hi⟩ := hg
    obtain ⟨f0, f1, f2, f3, f4, f5⟩ := hf it (by simp)
    obtain ⟨hs, hgd, hx, es', ep', hdt, hsz, ent⟩ := frzN I hd
    obtain ⟨rfl, rfl⟩ := dict_ep hod hdt
    obtain ⟨ok, ov, he⟩ := st
    rw [← hsz] at he
    exact wpAny_pyNext_items_end_raw (I.ok.hd hc) he ⟨o, hgd, hx, hdt⟩ (by omega) fun h' eb => ⟨rfl, I.turned (t' := s.toks) (fun b ob hb e => eb b ob hb e) f0 f1 f3 f4 f5⟩
  self := fun A i s Q E st h => let ⟨_, _, e⟩ := st; PySem.W.kcp_self e h
theorem turn_keyN {kvs : List KvN} (it : Addr) (hod : o.data = .dict es ep) : Turn P w K tg (ItkN P w d o kvs) [it] it (fun i h => h.IsKeyIter it d i kvs.length ep) where
  mem := by simp
  obj := fun i h st b hb => by
    have e : b = it := by simpa using hb
    subst e
    obtain ⟨oi, e, c, dd⟩ := st
    exact ⟨oi, e, fun v z => by rw [dd] at z; cases z⟩
  keep := fun i h h' st k => st.at fun oi e => k it (by simp) oi e
  item := by
    intro X hP hw hK hc i pins s σ H E I hf st hg
    subst hP hw hK
    obtain ⟨hd, hi⟩ := hg
    obtain ⟨f0, f1, f2, f3, f4, f5⟩ := hf it (by simp)
    obtain ⟨hs, hgd, hx, es', ep', hdt, hsz, ent⟩ := frzN I hd
    obtain ⟨rfl, rfl⟩ := dict_ep hod hdt
    have hkv : kvs[i]? = some kvs[i] := List.getElem?_eq_getElem hi
    obtain ⟨hi2, ek, _⟩ := ent i _ hkv
    rw [← hsz] at st
    refine wpAny_pyNext_keys_item_raw st ⟨o, hgd, hx, hdt⟩ hi2 fun h' st' sb => ?_
    have I1 : Inv X pins σ H { s with heap := h' } := I.turned (t' := s.toks) (fun b ob hb e => (sb.2 b hb).trans e) f0 f1 f3 f4 f5
    obtain ⟨oi, e, c, dd⟩ := id st'
    refine ⟨es'[i].key, rfl, go_of (s := { s with heap := h' }) e c dd (by decide) ⟨.ref kvs[i].2.1, H, I1, ek, ⟨rfl, kvs[i], hkv, rfl⟩, ?_, fun b hb => (hf b hb).1⟩⟩
    show h'.IsKeyIter it d (i + 1) kvs.length _
    rw [← hsz]
    exact st'
  done := by
    intro X hP hw hK hc i pins s σ H E I hf st hg
    subst hP hw hK
    obtain ⟨hd, hi⟩ := hg
    obtain ⟨f0, f1, f2, f3, f4, f5⟩ := hf it (by simp)
    obtain ⟨hs, hgd, hx, es', ep', hdt, hsz, ent⟩ := frzN I hd
    obtain ⟨rfl, rfl⟩ := dict_ep hod hdt
    rw [← hsz] at st
    exact wpAny_pyNext_keys_end_raw (I.ok.hd hc) st ⟨o, hgd, hx, hdt⟩ (by omega) fun h' eb => ⟨rfl, I.turned (t' := s.toks) (fun b ob hb e => eb b ob hb e) f0 f1 f3 f4 f5⟩
  self := fun A i s Q E st h => by
    refine wpAny_pyIter_slot st.typeIs F.slot_dict_keyiterator_iter (wpAny_call_entry F.slot_dict_keyiterator_iter st.typeIs F.entry_dict_keyiterator_iter ?_ (F.args_dict_keyiterator_iter_1 _))
    show wpAny _ _ (ret (.ref it)) _ _ s
    exact wpAny_pure ⟨_, rfl, "dict_keyiterator", _, st.typeIs, F.slot_dict_keyiterator_next.lookup, h⟩
end
def iValN (P : Program) (w : World) (td : TE) : TI := fun σ H R => td σ H fun x H1 => ∃ d o kvs, x = .ref d ∧ H1 d = some (.frz o (DNo P w d kvs)) ∧ R (ItvN P w d o kvs) H1
def iItemN (P : Program) (w : World) (td : TE) : TI := fun σ H R => td σ H fun x H1 => ∃ d o kvs, x = .ref d ∧ H1 d = some (.frz o (DNo P w d kvs)) ∧ R (ItiN P w d o kvs) H1
def iKeyN (P : Program) (w : World) (td : TE) : TI := fun σ H R => td σ H fun x H1 => ∃ d o kvs, x = .ref d ∧ H1 d = some (.frz o (DNo P w d kvs)) ∧ R (ItkN P w d o kvs) H1
section
variable {X : Cx} {tg e : Expr} {td : TE} {apos cpos : Pos}
theorem pi_keyN {P : Program} {w : World} (hP : X.prog = P) (hw : X.w = w) (he : PE X e td) : PI X tg e (iKeyN P w td) := by
  subst hP hw
  refine ⟨fun pins s σ H R I h => ?_⟩
  refine thn (he.run pins s σ H _ I h) fun u s1 ⟨x, H1, I1, rx, d, o, kvs, ex, hd, q⟩ => ?_
  subst ex
  obtain rfl : u = Value.ref d := rx
  obtain ⟨hs, hgd, hx, es, ep, hdt, hsz, ent⟩ := frzN I1 hd
  refine iter_keys hs hgd hx hdt (pi_one (tk := s1.toks) I1 _ (turn_keyN _ hdt) ⟨_, Heap.get?_push_size _ rfl, rfl, ?_⟩ q)
  rw [hsz] <;> rfl
theorem pi_valN {P : Program} {w : World} (hP : X.prog = P) (hw : X.w = w) (he : PE X e td) (hbase : attributeBase e "values" X.env (eval e X.env) = eval e X.env := by rfl) (hline : (apos.endLine == cpos.line) = true := by rfl) : PI X tg (.Call (.Attribute e "values" apos) [] [] cpos) (iValN P w td) := by
  subst hP hw
  refine ⟨fun pins s σ H R I h => ?_⟩
  refine wpAny_Call_method (T := "dict") (id := "dict.values") hbase rfl hline F.plainAttrs_dict F.slot_dict_values F.type_dict_values (thn (he.run pins s σ H _ I h) fun u s1 ⟨x, H1, I1, rx, d, o, kvs, ex, hd, q⟩ => ?_)
  subst ex
  obtain rfl : u = Value.ref d := rx
  obtain ⟨hs, hgd, hx, es, ep, hdt, hsz, ent⟩ := frzN I1 hd
  have raw : s1.heap.DictRaw d es ep := ⟨o, hgd, hx, hdt⟩
  refine ⟨raw.typeIs, (fun b hb => by cases hb; exact ⟨o, hgd, hx.2.1⟩), ?_⟩
  have I2 : Inv X pins σ H1 { s1 with heap := s1.heap.push { cls := .type "dict_values", data := .fields #[.ref d] } } := I1.kept (t' := s1.toks) fun b ob q => Heap.get?_push_of_some _ q
  have fin : wpAny (model X.prog X.w) X.A (pyIter (.ref s1.heap.objs.size)) (PIE X pins σ tg R) X.xe { s1 with heap := s1.heap.push { cls := .type "dict_values", data := .fields #[.ref d] } } := by
    refine wpAny_pyIter_values_raw ⟨_, Heap.get?_push_size _ rfl, rfl, rfl⟩ (raw.at fun _ z => Heap.get?_push_of_some _ z) (pi_one (tk := s1.toks) I2 _ (turn_valN _ hdt) ⟨_, Heap.get?_push_size _ rfl, rfl, ?_⟩ q)
    rw [hsz] <;> rfl
  show wpAny _ _ (callWith cpos (.builtin "dict.values") [.ref d] [] []) _ X.xe s1
  exact method_meetsIn F.slot_dict_values F.entry_dict_values rfl (PySem.evalArgs_none ⟨rfl, raw.typeIs, F.args_dict_values_1 _, _, meets_dict_values_raw d hs, ⟨es, ep, raw⟩, fin⟩)
theorem pi_itemN {P : Program} {w : World} {elts : List Expr} {kk : Nat} {tpos : Pos} (hP : X.prog = P) (hw : X.w = w) (he : PE X e td) (hbase : attributeBase e "items" X.env (eval e X.env) = eval e X.env := by rfl) (hline : (apos.endLine == cpos.line) = true := by rfl) :
    PI X (.Tuple elts kk tpos) (.Call (.Attribute e "items" apos) [] [] cpos) (iItemN P w td) := by
  subst hP hw
  refine ⟨fun pins s σ H R I h => ?_⟩
  refine wpAny_Call_method (T := "dict") (id := "dict.items") hbase rfl hline F.plainAttrs_dict F.slot_dict_items F.type_dict_items (thn (he.run pins s σ H _ I h) fun u s1 ⟨x, H1, I1, rx, d, o, kvs, ex, hd, q⟩ => ?_)
  subst ex
  obtain rfl : u = Value.ref d := rx
  obtain ⟨hs, hgd, hx, es, ep, hdt, hsz, ent⟩ := frzN I1 hd
  have raw : s1.heap.DictRaw d es ep := ⟨o, hgd, hx, hdt⟩
  refine ⟨raw.typeIs, (fun b hb => by cases hb; exact ⟨o, hgd, hx.2.1⟩), ?_⟩
  have I2 : Inv X pins σ H1 { s1 with heap := s1.heap.push { cls := .type "dict_items", data := .fields #[.ref d] } } := I1.kept (t' := s1.toks) fun b ob q => Heap.get?_push_of_some _ q
  have fin : wpAny (model X.prog X.w) X.A (pyIter (.ref s1.heap.objs.size)) (PIE X pins σ (.Tuple elts kk tpos) R) X.xe { s1 with heap := s1.heap.push { cls := .type "dict_items", data := .fields #[.ref d] } } := by
    refine wpAny_pyIter_items_raw ⟨_, Heap.get?_push_size _ rfl, rfl, rfl⟩ (raw.at fun _ z => Heap.get?_push_of_some _ z) (pi_one (tk := s1.toks) I2 _ (turn_itemN _ hdt) ⟨.none, .none, ?_⟩ q)
    rw [hsz]
    exact Heap.get?_push_size _ rfl
  show wpAny _ _ (callWith cpos (.builtin "dict.items") [.ref d] [] []) _ X.xe s1
  exact method_meetsIn F.slot_dict_items F.entry_dict_items rfl (PySem.evalArgs_none ⟨rfl, raw.typeIs, F.args_dict_items_1 _, _, meets_dict_items_raw d hs, ⟨es, ep, raw⟩, fin⟩)
end
end SwA

end

section
set_option maxRecDepth 100000
set_option maxHeartbeats 4000000
/-! rules of tuples: enumerate, count -/
namespace SwA
open PySem PySem.Spec PyProof.Rows L2
section
variable {X : Cx}
/-! ### t.count(k) of a tuple of ints -/
def rCntT (K : PySem.W.Frag) : V → List V → Hp → VK → Prop := fun x xs H Q => ∃ (p : Addr) (ns : List Int) (k : Int), x = .ref p ∧ xs = [.int k] ∧ SqT K H p (ns.map V.int) ∧ Q (.int (ns.count k : Nat)) H
theorem mt_tcount : MtR X "tuple.count" (rCntT X.K) := by
  intro pins s σ H x xs v us Q I rx rxs h
  obtain ⟨p, ns, k, rfl, rfl, hs, q⟩ := h
  cases rx
  obtain ⟨u, rfl, ru⟩ := rxs.one
  obtain ⟨t, rfl⟩ := ru
  obtain ⟨its, rv, ⟨⟨cls, dd, data, sl⟩, ho, hc, n, hd⟩, hlen⟩ := I.tuple hs
  simp only at hc hd
  subst hc hd
  have hi := ints_of_vals rv
  refine call_meets PySem.F.slot_tuple_count ⟨_, ho, rfl⟩ PySem.F.entry_tuple_count (PySem.F.args_tuple_count_2 _ _)
    (SeqAt.tuple_countAt p its.toArray n dd sl (.int k t) (eqk k)) ⟨ho, fun y hy => (eqk_gives hi y (by simpa using hy)).at _ _, ?_⟩
  have ec : its.toArray.toList.countP (eqk k) = ns.count k := eqk_count hi
  refine ⟨.int (ns.count k : Nat), H, I.tok _, ⟨s.toks, ?_⟩, q⟩
  show Value.int ((its.toArray.toList.countP (eqk k) : Nat) : Int) s.toks = Value.int ((ns.count k : Nat) : Int) s.toks
  rw [ec]
end
/-! ### enumerate(t) of a tuple -/
open AutoSeq1 (wpAny_loadPart') in
theorem meets_enumerate_newT (l : Addr) (items : Array Value) :
    Meets (Builtin.«enumerate.__new__» ⟨[.type "enumerate", .ref l], []⟩) (fun _ R s => s.heap.IsTuple l items ∧
      R (.ok (.ret (.ref (s.heap.push { cls := .type "tuple_iterator", data := .fields #[.ref l, .int 0 0] }).objs.size)))
        { s with heap := (s.heap.push { cls := .type "tuple_iterator", data := .fields #[.ref l, .int 0 0] }).push { cls := .type "enumerate", data := .fields #[.none, .bool false, .ref s.heap.objs.size, rawInt 0, .none, .none] } }) :=
  .of_wp fun prog w A R s h => by
    obtain ⟨hp, g, d, tk, os⟩ := s; obtain ⟨hL, h⟩ := h
    have hsub := sub_enumerate
    have q1 : ∀ {A' : Around} {E : Value → Shared → Prop} {Q : Value → Shared → Prop}, Q (.ref hp.objs.size) ⟨hp.push { cls := .type "tuple_iterator", data := .fields #[.ref l, .int 0 0] }, g, d, tk, os⟩ → wpAny (model prog w) A' (pyIter (.ref l)) Q E ⟨hp, g, d, tk, os⟩ :=
      fun q => wpAny_pyIter_tuple hL q
    wp_walk using q1
    refine wpAny_stack_any fun st => wpAny_pure ?_
    split
    · rename_i c _ _ _ _ _
      cases (c == Value.type "enumerate")
      · wp_walk using q1
        exact ⟨_, rfl, h⟩
      · wp_walk using q1
        exact ⟨_, rfl, h⟩
    · wp_walk using q1
      exact ⟨_, rfl, h⟩
theorem call_enumerate_tuple {prog : Program} {w : World} {A : Around} {E : Value → Shared → Prop} {s : Shared} {l : Addr} {items : Array Value} {Q : Value → Shared → Prop} (hL : s.heap.IsTuple l items)
    (h : ∀ h', IsEnum h' (s.heap.objs.size + 1) s.heap.objs.size 0 .none → h'.IsTupleIter s.heap.objs.size l 0 → h'.objs.size = s.heap.objs.size + 2 →
      (∀ b o, s.heap.get? b = some o → h'.get? b = some o) → Q (.ref (s.heap.objs.size + 1)) { s with heap := h' }) :
    wpAny (model prog w) A (call (.type "enumerate") [.ref l]) Q E s := by
  refine callType_new F.called_enumerate (by decide) (F.typeCall_enumerate_1 _) (F.newCall_enumerate_1 _) (fun obj => F.args_object_init_2 obj _) F.entry_enumerate_new
    (meets_enumerate_newT l items) ⟨hL, ?_⟩
  have hz : (s.heap.push { cls := .type "tuple_iterator", data := .fields #[.ref l, .int 0 0] }).objs.size = s.heap.objs.size + 1 := Heap.size_push ..
  show _ ∧ _
  rw [hz]
  have he : IsEnum ((s.heap.push { cls := .type "tuple_iterator", data := .fields #[.ref l, .int 0 0] }).push
      { cls := .type "enumerate", data := .fields #[.none, .bool false, .ref s.heap.objs.size, rawInt 0, .none, .none] }) (s.heap.objs.size + 1) s.heap.objs.size 0 .none := by
    have := Heap.get?_push_size (s.heap.push { cls := .type "tuple_iterator", data := .fields #[.ref l, .int 0 0] })
      (o := { cls := .type "enumerate", data := .fields #[.none, .bool false, .ref s.heap.objs.size, rawInt 0, .none, .none] }) rfl
    rw [hz] at this; exact this
  refine ⟨⟨_, he, rfl⟩, h _ he ⟨_, Heap.get?_push_of_some _ (Heap.get?_push_size _ rfl), rfl, rfl⟩ (by rw [Heap.size_push, hz]) fun b o x => Heap.get?_push_of_some _ (Heap.get?_push_of_some _ x)⟩
/-- the tuple at a, each item in a new pair -/
def ItET (K : PySem.W.Frag) (a : Addr) : It :=
  ⟨fun i H => ∃ (xs : List V) (x : V), SqT K H a xs ∧ xs[i]? = some x, fun i H v H' => ∃ T x, v = .ref T ∧ H T = none ∧ H' = upd H T (.tup [.int (i : Nat), x]) ∧ ∀ xs, SqT K H a xs → xs[i]? = some x, fun i H => ∃ xs : List V, SqT K H a xs ∧ xs.length = i⟩
theorem turn_enumT {P : Program} {w : World} {K : PySem.W.Frag} {elts : List Expr} {kk : Nat} {tpos : Pos} (a e it : Addr) (hai : a ≠ it) (hae : a ≠ e) :
    Turn P w K (.Tuple elts kk tpos) (ItET K a) [e, it] e (fun i h => (∃ old, IsEnum h e it ((i : Nat) : Int) old) ∧ h.IsTupleIter it a i ∧ e ≠ it) where
  mem := by simp
  obj := fun i h st b hb => by
    obtain ⟨⟨old, he⟩, ⟨o, ho, hc, hd⟩, _⟩ := st
    have e' : b = e ∨ b = it := by simpa using hb
    rcases e' with z | z
    · rw [z]; exact ⟨_, he, fun v q => nomatch q⟩
    · rw [z]; exact ⟨o, ho, fun v q => by rw [hd] at q; cases q⟩
  keep := fun i h h' st k => let ⟨⟨old, he⟩, hi, hne⟩ := st; ⟨⟨old, k e (by simp) _ he⟩, hi.at fun o q => k it (by simp) o q, hne⟩
  item := by
    intro X hP hw hK hc i pins s σ H E I hf st hg
    subst hP hw hK
    obtain ⟨⟨old, he⟩, hit, hne⟩ := st
    obtain ⟨xs, x, hq, hx⟩ := hg
    obtain ⟨its, rv, p, hz⟩ := I.tuple hq
    obtain ⟨u, hu, ru⟩ := rv.get hx
    have hel : e < s.heap.objs.size := Heap.lt_size he
    have hil : it < s.heap.objs.size := by obtain ⟨_, q, _⟩ := hit; exact Heap.lt_size q
    have hui : i < its.toArray.size := by rw [List.size_toArray]; exact (List.getElem?_eq_some_iff.mp hu).1
    have D := Draws.tuple (prog := X.prog) (w := X.w) (A := X.A.in1) (I.ok.hd hc) it a hai its.toArray
    refine wpAny_pyNext_enum_itemD D he ⟨hit, p⟩ hui hne (by simp; exact ⟨hne, fun z => hae z.symm⟩) fun y h' tk hy ho hit' hT hsz hk => ?_
    have ey : y = u := by
      have e1 : its.toArray[i]? = some u := by simpa using hu
      rw [e1] at hy
      exact (Option.some.inj hy).symm
    subst ey
    refine ⟨_, rfl, wpAny_letOwnedTupleGo_enum (s := { s with heap := h', toks := tk + 1 }) ho fun h'' he' sb => ?_⟩
    have hT2 : h''.get? s.heap.objs.size = some { cls := .type "tuple", data := .seq #[.int i tk, y] } := (sb.2 _ (Nat.ne_of_gt hel)).trans hT
    have new : ObjOk X.prog X.w (upd H s.heap.objs.size (.tup [.int (i : Nat), x])) h'' s.heap.objs.size (.tup [.int (i : Nat), x]) :=
      ⟨by show 2 ≤ sizeLine; decide, [.int i tk, y], .cons ⟨_, rfl⟩ (.cons ru .nil), ⟨_, hT2, rfl, _, rfl⟩⟩
    have I1 : Inv X pins σ (upd H s.heap.objs.size (.tup [.int (i : Nat), x])) { s with heap := h'', toks := tk + 1 } :=
      I.turnedNew (ch := [e, it]) (fun b ob hb q => (sb.2 b (fun z => hb (by simp [z]))).trans (hk b ob (fun z => hb (by simp [z])) (fun z => hb (by simp [z])) q)) hf (Nat.le_refl _) new
    refine ⟨.ref s.heap.objs.size, _, I1, rfl, ⟨_, x, rfl, I.hok.fresh (Nat.le_refl _), rfl, fun ys hy => by rw [I.tuple_inj hy hq]; exact hx⟩, ⟨⟨y, ?_⟩, hit'.1.at fun o q => (sb.2 it (Ne.symm hne)).trans q, hne⟩, fun b hb => ?_⟩
    · have e1 : ((i + 1 : Nat) : Int) = (i : Int) + 1 := by omega
      rw [e1]; exact he'
    · have hb' : b < s.heap.objs.size := by
        have e' : b = e ∨ b = it := by simpa using hb
        rcases e' with z | z
        · rw [z]; exact hel
        · rw [z]; exact hil
      rw [upd_ne (Nat.ne_of_lt hb')]
      exact (hf b hb).1
  done := by
    intro X hP hw hK hc i pins s σ H E I hf st hg
    subst hP hw hK
    obtain ⟨⟨old, he⟩, hit, hne⟩ := st
    obtain ⟨xs, hq, hx⟩ := hg
    obtain ⟨its, rv, p, hz⟩ := I.tuple hq
    obtain ⟨f0, f1, f2, f3, f4, f5⟩ := hf it (by simp)
    have hl := rv.length
    have D := Draws.tuple (prog := X.prog) (w := X.w) (A := X.A.in1) (I.ok.hd hc) it a hai its.toArray
    have ei : its.toArray.size = i := by rw [List.size_toArray]; omega
    exact wpAny_pyNext_enum_endD D he ⟨by rw [ei]; exact hit, p⟩ fun h' eb => ⟨rfl, I.turned (t' := s.toks) (fun b o hb q => eb b o hb q) f0 f1 f3 f4 f5⟩
  self := fun A i s Q E st h => let ⟨⟨_, he⟩, _⟩ := st; wpAny_pyIter_enum he h
def iEnumT (K : PySem.W.Frag) (ta : TA) : TI := fun σ H R => ta σ H fun vs H1 => ∃ a xs, vs = [.ref a] ∧ SqT K H1 a xs ∧ R (ItET K a) H1
theorem pi_enumT {X : Cx} {e : Expr} {ta : TA} {p pos tpos : Pos} {elts : List Expr} {kk : Nat} (hg : Gl X "enumerate") (hm : X.mg "enumerate" = none) (ha : PA X [e] ta) (hs : starEach [e] X.env = [(false, eval e X.env)] := by rfl) :
    PI X (.Tuple elts kk tpos) (.Call (.Name "enumerate" p) [e] [] pos) (iEnumT X.K ta) := by
  refine ⟨fun pins s σ H R I h => ?_⟩
  refine Call_ (ld_blt I hg hm boot_enumerate (PyProof.Rows.callWith_type1 (thn (ha.run pos pins s σ H _ I h) fun us s1 ⟨vs, H1, I1, r1, q1⟩ => ?_) hs rfl))
  obtain ⟨a, xs, ex, hq, q⟩ := q1
  subst ex
  cases r1 with
  | cons r rr =>
    cases rr
    cases r
    obtain ⟨its, rv, p', hz⟩ := I1.tuple hq
    have hal : a < s1.heap.objs.size := by obtain ⟨_, z, _⟩ := p'; exact Heap.lt_size z
    refine call_enumerate_tuple (items := its.toArray) p' fun h' he hit hsz hk => wpAny_pyIter_enum he ?_
    have I2 : Inv X pins σ H1 { s1 with heap := h' } := I1.kept (t' := s1.toks) hk
    refine ⟨s1.heap.objs.size + 1, [s1.heap.objs.size + 1, s1.heap.objs.size], _, _, H1, rfl, I2, turn_enumT a (s1.heap.objs.size + 1) s1.heap.objs.size (Nat.ne_of_lt hal) (Nat.ne_of_lt (Nat.lt_succ_of_lt hal)), ⟨⟨.none, he⟩, hit, Nat.succ_ne_self _⟩, fun b hb => ?_, q⟩
    have e' : b = s1.heap.objs.size + 1 ∨ b = s1.heap.objs.size := by simpa using hb
    have hle : s1.heap.objs.size ≤ b := by
      rcases e' with z | z
      · rw [z]; exact Nat.le_add_right _ _
      · rw [z]; exact Nat.le_refl _
    exact I1.fpOk hle (I1.hok.fresh hle)
/-! ### match upon a tuple: a written text ahead, names behind -/
inductive Caps (X : Cx) : List Pattern → List (Str × Nat) → Prop
  | nil : Caps X [] []
  | cons {x : Str} {i : Nat} {p : Pos} {ps : List Pattern} {xs : List (Str × Nat)} (hi : X.N[i]? = some x) (hx : Loc X.env.scope x) (hf : X.fn x = true ∨ X.env.scope.names.lookup x = some .local) (t : Caps X ps xs) :
      Caps X (.MatchAs none (some x) p :: ps) ((x, i) :: xs)
def setAll : L2.St → List (Str × Nat) → List V → L2.St
  | σ, (_, i) :: r, v :: vs => setAll (σ.set i (some v)) r vs
  | σ, _, _ => σ
def capB : List (Str × Nat) → List Value → List (Str × Value)
  | (x, _) :: r, u :: us => (x, u) :: capB r us
  | _, _ => []
theorem matchEach_caps {X : Cx} {M : Model} {A : Around} {E : Value → Shared → Prop} {s : Shared} : ∀ {ps : List Pattern} {xs : List (Str × Nat)} {us : List Value} {Q : Option (List (Str × Value)) → Shared → Prop}, Caps X ps xs → us.length = ps.length → Q (some (capB xs us)) s → wpAny M A (matchEach ps X.env us) Q E s
  | _, _, [], _, .nil, _, h => wpAny_matchEach_nil h
  | _, _, u :: us, Q, .cons hi hx hf t, hl, h => by
    refine wpAny_matchEach_cons (wpAny_matchPattern_Capture ?_)
    refine matchEach_caps t (by simpa using hl) ?_
    exact h
theorem assign_caps {X : Cx} {M : Model} {A : Around} {E : Value → Shared → Prop} (hN : X.N.Nodup) {pins : List (Addr × Obj)} {H : Hp} : ∀ {ps : List Pattern} {xs : List (Str × Nat)} {us : List Value} {vs : List V} {s : Shared} {σ : L2.St} {Q : Unit → Shared → Prop}, Caps X ps xs → us.length = ps.length → Vals vs us → Inv X pins σ H s →
    (∀ s', Inv X pins (setAll σ xs vs) H s' → Q () s') → wpAny M A (assignInOrder ((capB xs us).map fun (n, _) => bindName X.env n) ((capB xs us).map (·.2))) Q E s
  | _, _, [], _, _, _, _, .nil, _, .nil, I, h => wpAny_assignInOrder_none (h _ I)
  | _, _, u :: us, _, s, σ, Q, .cons hi hx hf t, hl, .cons r rr, I, h => by
    refine wpAny_assignInOrder_more ?_
    refine wpAny_bindName (store_ok I hN hi hx r (fun s' I' => ?_) hf)
    exact assign_caps hN t (by simpa using hl) rr I' h
def tCaseQ (K : PySem.W.Frag) (z : Str) (xs : List (Str × Nat)) (tb : TS) (tr : V → TS) : V → TS := fun v D σ H => ∃ a y ys, v = .ref a ∧ SqT K H a (.str y :: ys) ∧
  (y = z ∧ ys.length = xs.length → tb D (setAll σ xs ys) H) ∧ (¬ (y = z ∧ ys.length = xs.length) → tr v D σ H)
theorem Caps.len {X : Cx} : ∀ {ps : List Pattern} {xs : List (Str × Nat)}, Caps X ps xs → ps.length = xs.length
  | _, _, .nil => rfl
  | _, _, .cons _ _ _ t => by simp [t.len]
theorem pms_seq {X : Cx} {z : Str} {k : Nat} {ps : List Pattern} {xs : List (Str × Nat)} {body : List Stmt} {rest : List MatchCase} {tb : TS} {tr : V → TS} {p1 p2 p3 : Pos} (hc : X.calm = true) (hN : X.N.Nodup) (hp : Caps X ps xs) (hb : PSs X body tb) (hr : PMs X rest tr)
    (hstar : ((.MatchValue (.Constant (.str z) k p1) p2 : Pattern) :: ps).findIdx? (·.isStar) = none := by rfl)
    (hwild : (((.MatchValue (.Constant (.str z) k p1) p2 : Pattern) :: ps).all fun p => p.isWildcard || (p.isStar && p.names.isEmpty)) = false := by rfl) :
    PMs X (⟨.MatchSequence (.MatchValue (.Constant (.str z) k p1) p2 :: ps) p3, none, body⟩ :: rest) (tCaseQ X.K z xs tb tr) := by
  refine ⟨fun pins s σ H D v u first I r h => ?_⟩
  obtain ⟨a, y, ys, ev, hs, h1, h2⟩ := h
  subst ev
  cases r
  obtain ⟨its, rv, ht, hz⟩ := I.tuple hs
  have hlen := rv.length
  have hfit : (its.toArray.size : Int) < 2 ^ 63 := by
    rw [sizeLine_eq] at hz
    simp only [List.size_toArray]
    omega
  have hpl := hp.len
  refine wpAny_matchCases_cons ?_
  by_cases e : its.length = ps.length + 1
  · refine matchSeq_tuple_hit ht hfit (by simpa using e) ?_ hstar hwild
    have en : ((.MatchValue (.Constant (.str z) k p1) p2 : Pattern) :: ps).length = its.toArray.size := by simpa using e.symm
    rw [en]
    have I0 : Inv X pins σ H { s with toks := s.toks + 1 + 1 } := I.tok _
    refine unpackItems_tuple (s := { s with toks := s.toks + 1 + 1 }) (I.ok.hd hc) ht fun h' hx => ?_
    have I1 : Inv X pins σ H { s with heap := h', toks := s.toks + 1 + 1 } := I0.kept (t' := s.toks + 1 + 1) fun b o e => hx b o (Nat.ne_of_lt (Heap.lt_size e)) e
    cases rv with
    | @cons _ u0 _ ur r0 rr =>
      obtain ⟨tt, rfl⟩ := r0
      have hur : ur.length = ps.length := by simpa using e
      have hyl : ys.length = xs.length := by
        have := rr.length
        omega
      refine wpAny_matchEach_cons (wpAny_matchPattern_Value ?_)
      refine thn ((pe_str (X := X) (x := z) (j := k) (pos := p1)).run pins _ σ H (fun x H' => x = .str z ∧ H' = H) I1 ⟨rfl, rfl⟩) fun zv s1 ⟨x, H1, I1', rz, ex, eh⟩ => ?_
      subst ex
      subst eh
      refine thn (op_eq pins s1 σ H1 (.str y) (.str z) (.str y tt) zv (fun x H' => x = .bl (decide (V.str y = V.str z)) ∧ H' = H1) I1' ⟨tt, rfl⟩ rz ⟨rfl, rfl, rfl⟩) fun c s2 ⟨x, H2, I2, rc, ex, eh⟩ => ?_
      subst ex
      subst eh
      obtain rfl : c = Value.bool (decide (V.str y = V.str z)) := rc
      refine wpAny_truthy_bool ?_
      by_cases eq : y = z
      · have d : decide (V.str y = V.str z) = true := decide_eq_true (by rw [eq])
        rw [d]
        refine matchEach_caps hp hur ?_
        refine assign_caps hN hp hur rr I2 fun s' I' => ?_
        exact hb.run pins s' _ H2 D I' (h1 ⟨eq, hyl⟩)
      · have d : decide (V.str y = V.str z) = false := decide_eq_false (fun q => eq (V.str.inj q))
        rw [d]
        exact hr.run pins s2 σ H2 D (.ref a) _ false I2 rfl (h2 fun q => eq q.1)
  · refine matchSeq_tuple_miss ht hfit (by simpa using e) ?_ hstar hwild
    refine hr.run pins _ σ H D (.ref a) _ false (I.tok _) rfl (h2 fun q => e ?_)
    have := q.2
    simp only [List.length_cons] at hlen
    omega
/-! ### a tuple with no dict, whose methods can be asked -/
def TupN (H : Hp) (a : Addr) (xs : List V) : Prop := ∃ o : Obj, o.cls = .type "tuple" ∧ o.dict = none ∧ H a = some (.frz o (.tup xs))
theorem TupN.sq {K : PySem.W.Frag} {H : Hp} {a : Addr} {xs : List V} (h : TupN H a xs) : SqT K H a xs := let ⟨o, _, _, e⟩ := h; .inl (.inr ⟨o, e⟩)
theorem TupN.mono {H H' : Hp} {a : Addr} {xs : List V} (s : ∀ o, H a = some (.frz o (.tup xs)) → H' a = some (.frz o (.tup xs))) (h : TupN H a xs) : TupN H' a xs := let ⟨o, c, d, e⟩ := h; ⟨o, c, d, s o e⟩
section
variable {X : Cx} {a : Expr} {ta : TE}
def kTupN (K : PySem.W.Frag) (x : V) (H : Hp) (Q : VK) : Prop := ∃ p xs, x = .ref p ∧ SqL K H p xs ∧ ∀ (q : Addr) (o : Obj), H q = none → o.cls = .type "tuple" → o.dict = none → Q (.ref q) (upd H q (.frz o (.tup xs)))
theorem rl_tupleN (pins : List (Addr × Obj)) (s : Shared) (σ : L2.St) (H : Hp) (x : V) (v : Value) (Q : VK) (I : Inv X pins σ H s) (r : RelV x v) (h : kTupN X.K x H Q) :
    wpAny (model X.prog X.w) X.A (call (.type "tuple") [v]) (EP X pins σ Q) X.xe s := by
  obtain ⟨p, xs, rfl, hs, q⟩ := h
  obtain rfl : v = .ref p := r
  obtain ⟨its, rv, pl, hz⟩ := I.list hs
  refine call_tuple_list pl.isList (fun h' hk => ?_) (by rw [List.size_toArray, ← rv.length]; exact hz)
  have I1 : Inv X pins σ H { s with heap := h' } := I.kept (t' := s.toks) hk
  have ob : (h'.push { cls := .type "tuple", data := .seq its.toArray }).get? h'.objs.size = some { cls := .type "tuple", data := .seq its.toArray } := Heap.get?_push_size _ rfl
  have I2 : Inv X pins σ (upd H h'.objs.size (.frz { cls := .type "tuple", data := .seq its.toArray } (.tup xs))) { s with heap := h'.push { cls := .type "tuple", data := .seq its.toArray } } :=
    I1.laid (t' := s.toks) (fun b o e => Heap.get?_push_of_some _ e) (Nat.le_refl _) (show ObjOk X.prog X.w _ _ _ (.frz _ (.tup xs)) from ⟨ob, hz, its, rv, IsTup.new _ _⟩)
  exact ⟨.ref h'.objs.size, _, I2, rfl, q _ _ (I1.hok.fresh (Nat.le_refl _)) rfl rfl⟩
theorem pe_tupleOfN {p pos : Pos} (hg : Gl X "tuple") (hm : X.mg "tuple" = none) (ha : PE X a ta) (na : starEach [a] X.env = (false, eval a X.env) :: starEach [] X.env := by rfl) :
    PE X (.Call (.Name "tuple" p) [a] [] pos) (tThen ta (kTupN X.K)) := by
  refine ⟨fun pins s σ H Q I h => ?_⟩
  exact Call_ (ld_blt I hg hm boot_tuple (PyProof.Rows.callWith_type1 (one_arg ha I h (fun v s2 x H2 I2 r q => rl_tupleN pins s2 σ H2 x v Q I2 r q) na) na))
variable {o e : Expr} {es : List Expr} {to : TE} {t : TA} {name : Str} {apos cpos : Pos} {id : String} {r : V → List V → Hp → VK → Prop}
def tBMN (r : V → List V → Hp → VK → Prop) (to : TE) (t : TA) : TE := fun σ H Q => to σ H fun x H1 => (∃ p xs, x = .ref p ∧ TupN H1 p xs) ∧ t σ H1 fun xs H2 => r x xs H2 Q
theorem pe_bmN (slot : Slot "tuple" name id) (hty : typeOf (.builtin id) = pure (.type "method_descriptor")) (hm : MtR X id r) (ho : PE X o to) (ha : PA X (e :: es) t)
    (hbase : attributeBase o name X.env (eval o X.env) = eval o X.env := by rfl)
    (hfew : ((backTo cpos (starEach (e :: es) X.env)).all (fun x => !x.1) && (backToKw cpos (keywordEach [] X.env)).all (fun x => x.1.isSome)
      && decide ((e :: es).length + ([] : List Keyword).length + (if ([] : List Keyword).isEmpty then 0 else 1) < 30)) = true := by rfl)
    (hline : (apos.endLine == cpos.line) = true := by rfl) (hs : starEach (e :: es) X.env = (false, eval e X.env) :: starEach es X.env := by rfl) (hplain : (backTo cpos (starEach es X.env)).any (·.1) = false := by rfl) :
    PE X (.Call (.Attribute o name apos) (e :: es) [] cpos) (tBMN r to t) := by
  refine ⟨fun pins s σ H Q I h => ?_⟩
  refine wpAny_Call_method_late hbase hfew hline rfl (thn (ho.run pins s σ H _ I h) fun v s1 ⟨x, H1, I1, r1, ⟨p, xs, ex, tn⟩, q1⟩ => ?_)
  subst ex
  obtain rfl : v = .ref p := r1
  obtain ⟨ob, oc, od, eH⟩ := tn
  obtain ⟨eo, _⟩ := I1.hok p _ eH
  refine ⟨"tuple", id, PySem.F.plainAttrs_tuple, slot, hty, ⟨ob, eo, oc⟩, fun b eb => ?_, ?_⟩
  · cases eb
    exact ⟨ob, eo, od⟩
  have hA := ha.run cpos pins s1 σ H1 _ I1 q1
  rw [hs] at hA ⊢
  refine Calls.callWith_builtin (by show (false || (backTo cpos (starEach es X.env)).any (·.1)) = false; rw [hplain] <;> rfl) (Calls.evalArgs_plain ?_)
  exact thn hA fun us s2 ⟨vs, H2, I2, r2, q2⟩ => hm pins s2 σ H2 (.ref p) vs (.ref p) us Q I2 rfl r2 q2
end
end SwA
namespace SwA
open PySem PySem.Spec PyProof.Rows L2
/-! ### l == [], l != [] -/
section
variable {X : Cx}
def rEqNil (K : PySem.W.Frag) : R2 := fun x y H Q => ∃ a b xs, x = .ref a ∧ y = .ref b ∧ SqL K H a xs ∧ SqL K H b [] ∧ Q (.bl (decide (xs = []))) H
def rNeNil (K : PySem.W.Frag) : R2 := fun x y H Q => ∃ a b xs, x = .ref a ∧ y = .ref b ∧ SqL K H a xs ∧ SqL K H b [] ∧ Q (.bl (!decide (xs = []))) H
theorem op_eqNil (hu : X.A.units < cLine) : OpR X (compareOp .Eq) (rEqNil X.K) := by
  intro pins s σ H x y v u Q I rx ry h
  obtain ⟨a, b, xs, rfl, rfl, ha, hb, q⟩ := h
  cases rx
  cases ry
  obtain ⟨its, rv, p, hz⟩ := I.list ha
  obtain ⟨its2, rv2, p2, hz2⟩ := I.list hb
  cases rv2
  show wpAny _ _ (richCompare .Eq (.ref a) (.ref b)) _ _ _
  cases rv with
  | nil =>
    refine SeqAt.RcAt.lists (e := fun _ => true) p.isList p2.isList rfl hu (fun j h1 h2 => absurd h1 (Nat.not_lt_zero _)) _ _ _ _ ?_
    exact ⟨.bl true, H, I, rfl, q⟩
  | cons r rr =>
    refine SeqAt.RcAt.lists_lengths p.isList p2.isList (by simp) hu _ _ _ _ ?_
    exact ⟨.bl false, H, I, rfl, q⟩
theorem op_neNil (hu : X.A.units < cLine) : OpR X (compareOp .NotEq) (rNeNil X.K) := by
  intro pins s σ H x y v u Q I rx ry h
  obtain ⟨a, b, xs, rfl, rfl, ha, hb, q⟩ := h
  cases rx
  cases ry
  obtain ⟨its, rv, p, hz⟩ := I.list ha
  obtain ⟨its2, rv2, p2, hz2⟩ := I.list hb
  cases rv2
  show wpAny _ _ (richCompare .NotEq (.ref a) (.ref b)) _ _ _
  cases rv with
  | nil =>
    refine SeqAt.RcNeAt.lists (e := fun _ => true) p.isList p2.isList rfl hu (fun j h1 h2 => absurd h1 (Nat.not_lt_zero _)) _ _ _ _ ?_
    exact ⟨.bl false, H, I, rfl, q⟩
  | cons r rr =>
    refine SeqAt.RcNeAt.lists_lengths p.isList p2.isList (by simp) hu _ _ _ _ ?_
    exact ⟨.bl true, H, I, rfl, q⟩
end
theorem hu0 {A : Around} {k : Nat} (hr : Room k A) : A.units < cLine := by
  have := hr.units
  omega
end SwA

end

section
set_option maxRecDepth 100000
set_option maxHeartbeats 4000000
/-! the errors' classes -/
namespace Sw
open PySem PySem.Spec PyProof.Rows L2 SwA
/-- a def of the text, as it stands behind the top -/
abbrev FD (K : PySem.W.Frag) (p : Str × Option Str) (x q : Str) (st : Stmt) : Prop := ∃ fd, FunD K x q (defArgs st) (defBody st) (defScope st) [] [] (He.fAd K p) fd
/-- it keeps a promise -/
def FnE (P : Program) (w : World) (K : PySem.W.Frag) (mg : Str → Option Value) (base : Heap) (CX : CXT) (k : Nat) (p : Str × Option Str) (ps : List Str) (sp : Sp) : Prop :=
  ∃ fd, FnOk P w K mg base CX k (He.fAd K p) fd ps sp ∧ Binds K fd ps [] ∧ PySem.W.keepIn K (.ref (He.fAd K p)) = true
/-- an error's class with an __init__ of its own, its fields -/
structure ExcC (K : PySem.W.Frag) (mg : Str → Option Value) (x : Str) (fields : List Str) : Prop where
  g : mg x = some (.ref (He.ga K x))
  o : OexC K (He.ga K x)
  i : PySem.W.findIn K (.ref (He.ga K x)) "__init__" = some (some (.ref (He.ma K (He.ga K x) "__init__")))
  t : PySem.W.typeIn K (.ref (He.ma K (He.ga K x) "__init__")) = some (.type "function")
  n : ∀ f ∈ fields, PySem.W.findIn K (.ref (He.ga K x)) f = some none
theorem excCB_ok {K : PySem.W.Frag} {h : Heap} {mg : Str → Option Value} (X : K.In h) (G : h.Ns mainGlobals mg) {x : Str} {fields : List Str} (c : excCB K x fields = true) : ExcC K mg x fields := by
  obtain ⟨c1, c⟩ := He.ba c
  obtain ⟨c2, c⟩ := He.ba c
  obtain ⟨c3, c⟩ := He.ba c
  obtain ⟨c4, c5⟩ := He.ba c
  exact ⟨He.glo_ok X G c1, oexB_ok c2, He.eqO_ok c3, of_decide_eq_true c4, fun f hf => He.eqO_ok (List.all_eq_true.mp c5 f hf)⟩
/-- SweepError, whose __init__ is ValueError's -/
structure BaseT (K : PySem.W.Frag) (mg : Str → Option Value) : Prop where
  g : mg "SweepError" = some (.ref (He.ga K "SweepError"))
  cr : ClX.CRead K (He.ga K "SweepError") (.type "type")
  vv : PySem.W.findCls K (.ref (He.ga K "SweepError")) (.type "type") "__init__" = some (.val (.builtin "ValueError.__init__"))
structure ErrT (K : PySem.W.Frag) (mg : Str → Option Value) : Prop where
  base : BaseT K mg
  syn : ExcC K mg "SyntaxFault" ["line", "column"]
  d_syn : FD K ("SyntaxFault", some "__init__") "__init__" "SyntaxFault.__init__" s_SyntaxFault_init
section
variable {P : Program} {w : World} {K : PySem.W.Frag} {mg : Str → Option Value} {base : Heap}
theorem sc_syn : FnScope ["self", "line", "column"] ["self", "line", "column"] (defScope s_SyntaxFault_init) := ⟨rfl, rfl, rfl, by decide +kernel, rfl, by decide +kernel, by decide +kernel⟩
theorem ok_syn (T : ErrT K mg) : FnE P w K mg base CX0 1 ("SyntaxFault", some "__init__") ["self", "line", "column"] (spFault (He.ga K "SyntaxFault") ["line", "column"]) := by
  obtain ⟨fd, F⟩ := T.d_syn
  refine ⟨fd, F.ok sc_syn (fun vs H Q E h => ?_) (fun cdv A outer s H vs Q E hr h => ?_), F.bindsN fun _ _ _ _ _ _ us hl => match us, hl with | [_, _, _], _ => rfl, F.kp⟩
  · obtain ⟨a, args, rfl, e, _⟩ := h
    simp [e]
  · obtain ⟨a, args, rfl, e, ha, k⟩ := h
    obtain ⟨v1, v2, rfl⟩ : ∃ v1 v2, args = [v1, v2] := by
      match args, e with
      | [v1, v2], _ => exact ⟨v1, v2, rfl⟩
    refine ⟨_, PSs.nox (pss_cons (ps_expr (pe_ownveinit rfl T.base.g T.base.cr T.base.vv (pa_cons (pv 0) (pa_cons (pv 1) (pa_cons (pv 2) pa_nil)))))
      (pss_cons (ps_ost (pv 0) (pv 1)) (pss_one (ps_ost (pv 0) (pv 2))))), ?_⟩
    refine ⟨_, rfl, _, rfl, _, rfl, a, _, _, rfl, by simp, T.syn.o, ha, ?_⟩
    refine ⟨_, rfl, _, rfl, a, _, rfl, T.syn.o, T.syn.n _ (by simp), Or.inl ⟨ha, fun dx ndx da => ?_⟩⟩
    refine ⟨_, rfl, _, rfl, a, _, rfl, T.syn.o, T.syn.n _ (by simp), Or.inr ⟨dx, _, upd_same, by rw [upd_ne da, upd_same], by simp, ?_⟩⟩
    exact k dx _ ndx da (by rw [upd_ne (Ne.symm da), upd_same]) upd_same fun b h1 h2 => by rw [upd_ne h2, upd_ne h1, upd_ne h2]
end
end Sw

end

section
set_option maxRecDepth 100000
set_option maxHeartbeats 4000000
/-! the lexer, walked -/
namespace Sw
open PySem PySem.Spec PyProof.Rows L2 SwA
/-- a class whose __init__ stores its arguments -/
structure MkC (K : PySem.W.Frag) (mg : Str → Option Value) (x : Str) (fields : List Str) : Prop where
  g : mg x = some (.ref (He.ga K x))
  m : Mk K (He.ga K x) (He.ma K (He.ga K x) "__init__")
  c : Cls K (He.ga K x)
  n : ∀ f ∈ fields, NoAttr K (He.ga K x) f
theorem mkCB_ok {K : PySem.W.Frag} {h : Heap} {mg : Str → Option Value} (X : K.In h) (G : h.Ns mainGlobals mg) {x : Str} {fields : List Str} (c : mkCB K x fields = true) : MkC K mg x fields := by
  obtain ⟨c1, c⟩ := He.ba c
  obtain ⟨c2, c⟩ := He.ba c
  obtain ⟨c3, c4⟩ := He.ba c
  exact ⟨He.glo_ok X G c1, He.mkr_ok c2, He.cls_ok c3, fun f hf => He.noat_ok (List.all_eq_true.mp c4 f hf)⟩
structure LexT (K : PySem.W.Frag) (mg : Str → Option Value) : Prop where
  e : ErrT K mg
  len : mg "len" = none
  enumerate : mg "enumerate" = none
  tok : MkC K mg "Token" tokF
  d_tok : FD K ("Token", some "__init__") "__init__" "Token.__init__" s_Token_init
  d_run_end : FD K ("run_end", none) "run_end" "run_end" s_run_end
  g_run_end : mg "run_end" = some (.ref (He.ga K "run_end"))
  d_read_token : FD K ("read_token", none) "read_token" "read_token" s_read_token
  g_read_token : mg "read_token" = some (.ref (He.ga K "read_token"))
  d_tokenize : FD K ("tokenize", none) "tokenize" "tokenize" s_tokenize
  g_tokenize : mg "tokenize" = some (.ref (He.ga K "tokenize"))
  SIGNS : ∃ t, mg "SIGNS" = some (.str ";" t)
  DIGITS : ∃ t, mg "DIGITS" = some (.str "0123456789" t)
  LETTERS : ∃ t, mg "LETTERS" = some (.str "abcdefghijklmnopqrstuvwxyz" t)
  SPACES : ∃ t, mg "SPACES" = some (.str " \n" t)
  SIGN : ∃ t, mg "SIGN" = some (.str "sign" t)
  NUMBER : ∃ t, mg "NUMBER" = some (.str "number" t)
  KEYWORD : ∃ t, mg "KEYWORD" = some (.str "keyword" t)
  NAME : ∃ t, mg "NAME" = some (.str "name" t)
  END : ∃ t, mg "END" = some (.str "end" t)
  MAX_DIGITS : ∃ t, mg "MAX_DIGITS" = some (.int 2 t)
  MAX_LETTERS : ∃ t, mg nMaxLetters = some (.int 8 t)
  KEYWORDS : mg "KEYWORDS" = some (.ref (He.ga K "KEYWORDS"))
  kws : ∀ H : Hp, SqT K H (He.ga K "KEYWORDS") (kws.map fun w => V.str (sx w))
/-- a token's object -/
def TokAt (K : PySem.W.Frag) (H : Hp) (a : Addr) (t : Tk) : Prop := ∃ dx, H a = some (.ins (He.ga K "Token") dx [("kind", .str t.kind.str), ("text", .str (sx t.text)), ("line", .int t.line), ("column", .int t.col)])
def synFs (line col : Nat) : List (Str × V) := [("column", .int col), ("line", .int line)]
/-- a SyntaxFault leaves -/
def Syn (K : PySem.W.Frag) (H : Hp) (E : XK) (line col : Nat) : Prop := ∀ (d : Addr) (H' : Hp), Same H H' → H' d = some (.xd (synFs line col)) → E (.ref (He.ga K "SyntaxFault")) (some d) H'
section
variable {P : Program} {w : World} {K : PySem.W.Frag} {mg : Str → Option Value} {base : Heap}
def spRunEnd : Sp := fun vs H Q _ => ∃ (row : Cs) (s : Nat) (z : Str), vs = [.str (sx row), .int s, .str z] ∧ row.length ≤ 100000 ∧ s ≤ row.length ∧
  Q (.int ((s + ((row.drop s).takeWhile fun c => decide (c ∈ z.cps.toList)).length : Nat) : Int)) H
theorem sc_run_end : FnScope ["row", "start", "letters", "end"] ["row", "start", "letters"] (defScope s_run_end) := ⟨rfl, rfl, rfl, by decide +kernel, rfl, by decide +kernel, by decide +kernel⟩
theorem len_sx (l : Cs) : (sx l).length = l.length := by simp [sx, Str.length]
theorem sz5 {n : Nat} (h : n ≤ 100000) : n ≤ sizeLine := Nat.le_trans h (by decide)
theorem tw_le (p : Nat → Bool) (l : Cs) : (l.takeWhile p).length ≤ l.length := (List.takeWhile_sublist p).length_le
theorem at_sx {l : Cs} {i : Nat} (h : i < l.length) : (sx l).cps[((i : Nat) : Int).toNat]? = some l[i] := by
  rw [Int.toNat_natCast]
  simp [sx, h]
theorem tw_in {p : Nat → Bool} : ∀ {l : Cs} {s i : Nat} (q : i < ((l.drop s).takeWhile p).length) (h : s + i < l.length), p l[s + i] = true
  | [], s, i, q, h => absurd h (by simp)
  | c :: r, 0, i, q, h => by
    rw [List.drop_zero] at q
    cases e : p c with
    | false => rw [List.takeWhile_cons, e] at q; simp at q
    | true =>
      rw [List.takeWhile_cons, e] at q
      cases i with
      | zero => simpa using e
      | succ i =>
        have z := tw_in (p := p) (l := r) (s := 0) (i := i) (by simpa using q) (by simpa using h)
        simpa using z
  | c :: r, s + 1, i, q, h => by
    have h' : s + i < r.length := by simp at h; omega
    have z := tw_in (p := p) (l := r) (s := s) (i := i) (by simpa using q) h'
    have e : s + 1 + i = (s + i) + 1 := by omega
    simp only [e, List.getElem_cons_succ]
    exact z
theorem tw_stop {p : Nat → Bool} : ∀ {l : Cs} {s i : Nat} (q : i = ((l.drop s).takeWhile p).length) (h : s + i < l.length), p l[s + i] = false
  | [], s, i, q, h => absurd h (by simp)
  | c :: r, 0, i, q, h => by
    rw [List.drop_zero] at q
    cases e : p c with
    | false =>
      rw [List.takeWhile_cons, e] at q
      simp at q
      subst q
      simpa using e
    | true =>
      rw [List.takeWhile_cons, e] at q
      simp at q
      subst q
      have z := tw_stop (p := p) (l := r) (s := 0) rfl (by simp at h; simpa using h)
      simpa using z
  | c :: r, s + 1, i, q, h => by
    have h' : s + i < r.length := by simp at h; omega
    have z := tw_stop (p := p) (l := r) (s := s) (i := i) (by simpa using q) h'
    have e : s + 1 + i = (s + i) + 1 := by omega
    simp only [e, List.getElem_cons_succ]
    exact z
theorem ok_run_end (T : LexT K mg) : FnE P w K mg base CX0 1 ("run_end", none) ["row", "start", "letters"] spRunEnd := by
  obtain ⟨fd, F⟩ := T.d_run_end
  refine ⟨fd, F.ok sc_run_end (fun vs H Q E h => ?_) (fun cdv A outer s H vs Q E hr h => ?_), F.bindsN fun _ _ _ _ _ _ us hl => match us, hl with | [_, _, _], _ => rfl, F.kp⟩
  · obtain ⟨row, s, z, rfl, _⟩ := h
    rfl
  · obtain ⟨row, s, z, rfl, hl, hs, k⟩ := h
    refine ⟨_, PSs.nox (pss_cons (ps_set (i := 3) sc_run_end.nd rfl (.inl rfl) (pv 1))
      (pss_cons (ps_while PassesOwn.never (PW.pt (pw_and (pt_cmpR op_lt (pv 3) (pe_callB call_len_str (by rfl) T.len boot_len (pa_cons (pv 0) pa_nil)) (nomark _))
          (pw_and1 (pt_cmpR op_in_sign (pe_item_str (pv 0) (pv 3) (fun _ _ => rfl)) (pv 2) rfl))))
        (pss_one (ps_aug (i := 3) sc_run_end.nd rfl (.inl rfl) pe_int ip_add)))
      (pss_one (ps_ret (pv 3))))), ?_⟩
    refine ⟨_, rfl, ?_⟩
    refine ⟨fun m σ H' => ∃ k : Nat, m + k = ((row.drop s).takeWhile fun c => decide (c ∈ z.cps.toList)).length ∧ H' = H ∧ σ = [some (.str (sx row)), some (.int s), some (.str z), some (.int ((s + k : Nat) : Int))], ⟨_, 0, rfl, rfl, rfl⟩, ?_⟩
    rintro m σ H' ⟨i, hm, rfl, rfl⟩
    refine ⟨_, rfl, _, rfl, _, rfl, by rw [len_sx]; exact sz5 hl, _, _, rfl, rfl, _, rfl, ?_⟩
    refine ite2 (fun h => ?_) (fun h => ?_)
    · have h' : s + i < row.length := by
        have h := of_decide_eq_true h
        rw [len_sx] at h
        omega
      refine ⟨_, rfl, _, rfl, sx row, ((s + i : Nat) : Int), row[s + i], rfl, rfl, by omega, by omega, by rw [len_sx]; omega, ?_, _, rfl, _, _, rfl, rfl, _, rfl, ?_⟩
      · exact at_sx h'
      · refine ite2 (fun h2 => ?_) (fun h2 => ?_)
        · have h2 : decide (row[s + i] ∈ z.cps.toList) = true := h2
          have lt : i < ((row.drop s).takeWhile fun c => decide (c ∈ z.cps.toList)).length := by
            refine Nat.lt_of_le_of_ne (by omega) fun e => ?_
            exact absurd h2 (by rw [tw_stop (p := fun c => decide (c ∈ z.cps.toList)) (l := row) (s := s) (i := i) e h']; exact Bool.false_ne_true)
          refine ⟨_, fun _ _ n => n, _, rfl, _, _, rfl, rfl, m - 1, by omega, i + 1, by omega, rfl, ?_⟩
          simp
          omega
        · have h2 : ¬ decide (row[s + i] ∈ z.cps.toList) = true := h2
          have e : i = ((row.drop s).takeWhile fun c => decide (c ∈ z.cps.toList)).length := by
            refine Nat.le_antisymm (by omega) (Nat.le_of_not_lt fun q => h2 ?_)
            exact tw_in (p := fun c => decide (c ∈ z.cps.toList)) (l := row) (s := s) (i := i) q h'
          refine ⟨_, rfl, ?_⟩
          rw [e]
          exact k
    · have h' : row.length ≤ s + i := by
        have h : ¬ ((s + i : Nat) : Int) < ((sx row).length : Int) := fun q => h (decide_eq_true q)
        rw [len_sx] at h
        omega
      have e : i = ((row.drop s).takeWhile fun c => decide (c ∈ z.cps.toList)).length := by
        have z1 : ((row.drop s).takeWhile fun c => decide (c ∈ z.cps.toList)).length ≤ (row.drop s).length := tw_le _ _
        rw [List.length_drop] at z1
        omega
      refine iteF ⟨_, rfl, ?_⟩
      rw [e]
      exact k
theorem putF_le (f : Str) (v : V) : ∀ fs : List (Str × V), (putF f v fs).length ≤ fs.length + 1
  | [] => by simp [putF]
  | (g, x) :: r => by
    unfold putF
    split
    · simp
    · have := putF_le f v r
      simp only [List.length_cons]
      omega
theorem ln0 : ([] : List (Str × V)).length ≤ 0 := Nat.le_refl 0
theorem lnS {f : Str} {v : V} {fs : List (Str × V)} {n : Nat} (h : fs.length ≤ n) : (putF f v fs).length ≤ n + 1 := Nat.le_trans (putF_le f v fs) (Nat.succ_le_succ h)
theorem lnZ {fs : List (Str × V)} {n : Nat} (h : fs.length ≤ n) (hn : n < 1000 := by decide) : fs.length < 1000 := Nat.lt_of_le_of_lt h hn
theorem sc_tok : FnScope ["self", "kind", "text", "line", "column"] ["self", "kind", "text", "line", "column"] (defScope s_Token_init) := ⟨rfl, rfl, rfl, by decide +kernel, rfl, by decide +kernel, by decide +kernel⟩
theorem put_tok (a b c d : V) : putF "column" d (putF "line" c (putF "text" b (putF "kind" a []))) = ([("kind", a), ("text", b), ("line", c), ("column", d)] : List (Str × V)) := by kernel_rfl
theorem ok_tok (T : LexT K mg) : FnE P w K mg base CX0 1 ("Token", some "__init__") ["self", "kind", "text", "line", "column"] (spInit (He.ga K "Token") tokF) := by
  obtain ⟨fd, F⟩ := T.d_tok
  refine ⟨fd, F.ok sc_tok (fun vs H Q E h => ?_) (fun cdv A outer s H vs Q E hr h => ?_), F.bindsN fun _ _ _ _ _ _ us hl => match us, hl with | [_, _, _, _, _], _ => rfl, F.kp⟩
  · obtain ⟨a, dx, args, rfl, e, _⟩ := h
    simp [e]
  · obtain ⟨p, dx, args, rfl, e, hp, k⟩ := h
    obtain ⟨v1, v2, v3, v4, rfl⟩ : ∃ v1 v2 v3 v4, args = [v1, v2, v3, v4] := by
      match args, e with
      | [v1, v2, v3, v4], _ => exact ⟨v1, v2, v3, v4, rfl⟩
    refine ⟨_, PSs.nox (pss_cons (ps_fld (pv 0) (pv 1) rfl) (pss_cons (ps_fld (pv 0) (pv 2) rfl) (pss_cons (ps_fld (pv 0) (pv 3) rfl) (pss_one (ps_fld (pv 0) (pv 4) rfl))))), ?_⟩
    refine ⟨_, rfl, _, rfl, p, _, dx, _, rfl, hp, T.tok.c, T.tok.n _ (by simp), lnZ ln0, ?_⟩
    refine ⟨_, rfl, _, rfl, p, _, dx, _, rfl, upd_same, T.tok.c, T.tok.n _ (by simp), lnZ (lnS ln0), ?_⟩
    refine ⟨_, rfl, _, rfl, p, _, dx, _, rfl, upd_same, T.tok.c, T.tok.n _ (by simp), lnZ (lnS (lnS ln0)), ?_⟩
    refine ⟨_, rfl, _, rfl, p, _, dx, _, rfl, upd_same, T.tok.c, T.tok.n _ (by simp), lnZ (lnS (lnS (lnS ln0))), ?_⟩
    refine k _ ?_ fun b hb => by rw [upd_ne hb, upd_ne hb, upd_ne hb, upd_ne hb]
    rw [upd_same, put_tok]
    rfl
end
end Sw

end

section
set_option maxRecDepth 100000
set_option maxHeartbeats 4000000
namespace Sw
open PySem PySem.Spec PyProof.Rows L2 SwA
section
variable {P : Program} {w : World} {K : PySem.W.Frag} {mg : Str → Option Value} {base : Heap}
/-! ### texts as codes -/
theorem mem_digits (c : Nat) : decide (c ∈ ("0123456789" : Str).cps.toList) = isD c := by
  have e : ("0123456789" : Str).cps.toList = [48, 49, 50, 51, 52, 53, 54, 55, 56, 57] := by decide +kernel
  rw [e]
  simp only [isD, List.mem_cons, List.not_mem_nil, or_false]
  rw [Bool.eq_iff_iff]
  simp
  omega
theorem mem_letters (c : Nat) : decide (c ∈ ("abcdefghijklmnopqrstuvwxyz" : Str).cps.toList) = isL c := by
  have e : ("abcdefghijklmnopqrstuvwxyz" : Str).cps.toList = [97, 98, 99, 100, 101, 102, 103, 104, 105, 106, 107, 108, 109, 110, 111, 112, 113, 114, 115, 116, 117, 118, 119, 120, 121, 122] := by decide +kernel
  rw [e]
  simp only [isL, List.mem_cons, List.not_mem_nil, or_false]
  rw [Bool.eq_iff_iff]
  simp
  omega
theorem mem_signs (c : Nat) : decide (c ∈ (";" : Str).cps.toList) = decide (c = 59) := by
  have e : (";" : Str).cps.toList = [59] := by decide +kernel
  rw [e]
  simp
theorem mem_spaces (c : Nat) : decide (c ∈ (" \n" : Str).cps.toList) = isS c := by
  have e : (" \n" : Str).cps.toList = [32, 10] := by decide +kernel
  rw [e]
  simp [isS, Bool.decide_or, BEq.beq]
/-- a slice of a row -/
theorem cut_sx {l : Cs} {a n : Nat} (h : a + n ≤ l.length) : cutS (sx l) (some (a : Int)) (some ((a + n : Nat) : Int)) = sx ((l.drop a).take n) := by
  unfold cutS
  rw [HT.sIx_nat, HT.sIx_nat, len_sx, Nat.min_eq_left h, Nat.min_eq_left (by omega : a ≤ l.length), Nat.add_sub_cancel_left]
  rfl
theorem tw_take (p : Nat → Bool) : ∀ l : Cs, l.take (l.takeWhile p).length = l.takeWhile p
  | [] => rfl
  | c :: r => by
    cases e : p c with
    | false => simp [List.takeWhile_cons, e]
    | true => simp [List.takeWhile_cons, e, tw_take p r]
theorem eq_str_sx (a b : Cs) : eqV (V.str (sx a)) (V.str (sx b)) = decide (a = b) := by
  show (sx a == sx b) = decide (a = b)
  rw [Bool.eq_iff_iff, beq_iff_eq, decide_eq_true_iff]
  exact ⟨fun h => sx_inj h, fun h => by rw [h]⟩
theorem inV_sx (a : Cs) (l : List Cs) : inV (V.str (sx a)) (l.map fun w => V.str (sx w)) = decide (a ∈ l) := by
  unfold inV
  induction l with
  | nil => simp
  | cons b r ih =>
    rw [List.map_cons, List.any_cons, ih, eq_str_sx]
    rw [Bool.eq_iff_iff]
    simp only [Bool.or_eq_true, decide_eq_true_eq, List.mem_cons]
    exact or_congr ⟨Eq.symm, Eq.symm⟩ Iff.rfl
theorem flat_sx (l : List Cs) : (l.map fun w => V.str (sx w)).all flatV = true := by
  induction l with
  | nil => rfl
  | cons b r ih => rw [List.map_cons, List.all_cons, ih]; rfl
theorem sign_inj {c d : Nat} {z : Str} (h : (⟨#[c]⟩ : Str) = z) (e : z = ⟨#[d]⟩) : c = d := by
  rw [e] at h
  injection h with h
  injection h with h
  injection h
/-! ### read_token -/
def spReadTok (K : PySem.W.Frag) : Sp := fun vs H Q E => ∃ (row : Cs) (line col : Nat), vs = [.str (sx row), .int line, .int col] ∧ row.length ≤ 100000 ∧ col < row.length ∧
  (∀ t, readTok line col (row.drop col) = some t → ∀ (a : Addr) (H' : Hp), H a = none → Same H H' → TokAt K H' a t → Q (.ref a) H') ∧
  (readTok line col (row.drop col) = none → Syn K H E line col)
theorem sc_read_token : FnScope ["row", "line", "column", "first", "word"] ["row", "line", "column"] (defScope s_read_token) := ⟨rfl, rfl, rfl, by decide +kernel, rfl, by decide +kernel, by decide +kernel⟩
theorem ok_read_token (T : LexT K mg) : FnE P w K mg base (L2.CX P w) 3 ("read_token", none) ["row", "line", "column"] (spReadTok K) := by
  obtain ⟨fd, F⟩ := T.d_read_token
  obtain ⟨fdR, GR, bR, kR⟩ := ok_run_end (P := P) (w := w) (base := base) T
  obtain ⟨fdT, GT, bT, kT⟩ := ok_tok (P := P) (w := w) (base := base) T
  obtain ⟨fdS, GS, bS, kS⟩ := ok_syn (P := P) (w := w) (base := base) T.e
  obtain ⟨t1, mSIGNS⟩ := T.SIGNS
  obtain ⟨t2, mDIGITS⟩ := T.DIGITS
  obtain ⟨t3, mLETTERS⟩ := T.LETTERS
  obtain ⟨t4, mSIGN⟩ := T.SIGN
  obtain ⟨t5, mNUMBER⟩ := T.NUMBER
  obtain ⟨t6, mKEYWORD⟩ := T.KEYWORD
  obtain ⟨t7, mNAME⟩ := T.NAME
  obtain ⟨t8, mMAXD⟩ := T.MAX_DIGITS
  obtain ⟨t9, mMAXL⟩ := T.MAX_LETTERS
  refine ⟨fd, F.ok sc_read_token (fun vs H Q E h => ?_) (fun cdv A outer s H vs Q E hr h => ?_), F.bindsN fun _ _ _ _ _ _ us hl => match us, hl with | [_, _, _], _ => rfl, F.kp⟩
  · obtain ⟨row, line, col, rfl, _⟩ := h
    rfl
  · obtain ⟨row, line, col, rfl, hl, hc, hT, hE⟩ := h
    have hr1 : Room 1 _ := hr.mono (by decide)
    refine ⟨_, (pss_cons (ps_set (i := 3) sc_read_token.nd rfl (.inl rfl) (pe_item_str (pv 0) (pv 2) (fun _ _ => rfl)))
      (pss_cons (ps_if (pt_cmpR op_in_sign (pv 3) (pe_glob (v := .str ";") rfl mSIGNS ⟨_, rfl⟩) rfl)
          (pss_one (ps_ret (pe_make T.tok.m GT hr rfl T.tok.g bT .nil pass0 (pa_cons (pe_glob (v := .str "sign") rfl mSIGN ⟨_, rfl⟩) (pa_cons (pv 3) (pa_cons (pv 1) (pa_cons (pv 2) pa_nil)))))))
          pss_nil)
      (pss_cons (ps_if (pt_cmpR op_in_sign (pv 3) (pe_glob (v := .str "0123456789") rfl mDIGITS ⟨_, rfl⟩) rfl)
          (pss_cons (ps_set (i := 4) sc_read_token.nd rfl (.inl rfl) (pe_slice sl_str (pv 0) (po_some (pv 2)) (po_some (pe_call GR hr1 rfl T.g_run_end kR bR .nil pass0
              (pa_cons (pv 0) (pa_cons (pv 2) (pa_cons (pe_glob (v := .str "0123456789") rfl mDIGITS ⟨_, rfl⟩) pa_nil)))))))
          (pss_cons (ps_if (PW.pt (pw_or (pt_cmpR op_gt (pe_callB call_len_str (by rfl) T.len boot_len (pa_cons (pv 4) pa_nil)) (pe_glob (v := .int 2) rfl mMAXD ⟨_, rfl⟩) (nomark _))
              (pw_or1 (PW.pt (pw_and (pt_cmpR op_gt (pe_callB call_len_str (by rfl) T.len boot_len (pa_cons (pv 4) pa_nil)) pe_int (nomark _)) (pw_and1 (pt_cmpR op_eq (pv 3) pe_str (nomark _))))))))
              (pss_one (ps_raise rfl (takes_of rfl rfl rfl rfl) (pmk_oex T.e.syn.o T.e.syn.i T.e.syn.t GS hr bS .nil pass0 rfl T.e.syn.g (pa_cons (pv 1) (pa_cons (pv 2) pa_nil)))))
              pss_nil)
          (pss_one (ps_ret (pe_make T.tok.m GT hr rfl T.tok.g bT .nil pass0 (pa_cons (pe_glob (v := .str "number") rfl mNUMBER ⟨_, rfl⟩) (pa_cons (pv 4) (pa_cons (pv 1) (pa_cons (pv 2) pa_nil)))))))))
          pss_nil)
      (pss_cons (ps_set (i := 4) sc_read_token.nd rfl (.inl rfl) (pe_slice sl_str (pv 0) (po_some (pv 2)) (po_some (pe_call GR hr1 rfl T.g_run_end kR bR .nil pass0
              (pa_cons (pv 0) (pa_cons (pv 2) (pa_cons (pe_glob (v := .str "abcdefghijklmnopqrstuvwxyz") rfl mLETTERS ⟨_, rfl⟩) pa_nil)))))))
      (pss_cons (ps_if (pt_cmpR op_in_seq (pv 4) (pe_glob (v := .ref (He.ga K "KEYWORDS")) rfl T.KEYWORDS rfl) rfl)
          (pss_one (ps_ret (pe_make T.tok.m GT hr rfl T.tok.g bT .nil pass0 (pa_cons (pe_glob (v := .str "keyword") rfl mKEYWORD ⟨_, rfl⟩) (pa_cons (pv 4) (pa_cons (pv 1) (pa_cons (pv 2) pa_nil)))))))
          pss_nil)
      (pss_cons (ps_if (pt_not (pt_chain op_le op_le pe_int (pe_callB call_len_str (by rfl) T.len boot_len (pa_cons (pv 4) pa_nil)) (pe_glob (v := .int 8) rfl mMAXL ⟨_, rfl⟩)))
          (pss_one (ps_raise rfl (takes_of rfl rfl rfl rfl) (pmk_oex T.e.syn.o T.e.syn.i T.e.syn.t GS hr bS .nil pass0 rfl T.e.syn.g (pa_cons (pv 1) (pa_cons (pv 2) pa_nil)))))
          pss_nil)
      (pss_one (ps_ret (pe_make T.tok.m GT hr rfl T.tok.g bT .nil pass0 (pa_cons (pe_glob (v := .str "name") rfl mNAME ⟨_, rfl⟩) (pa_cons (pv 4) (pa_cons (pv 1) (pa_cons (pv 2) pa_nil))))))))))))), ?_⟩
    have e0 : row.drop col = row[col] :: row.drop (col + 1) := List.drop_eq_getElem_cons hc
    have fin : ∀ (kd : Kd) (tx : Cs) (z : Str), z = kd.str → readTok line col (row.drop col) = some ⟨kd, tx, line, col⟩ → ∀ (x : Addr) (H2 : Hp), H x = none → Same H H2 →
        (∃ dx, H2 x = some (.ins (He.ga K "Token") dx (tokF.zip [.str z, .str (sx tx), .int line, .int col]))) → Q (.ref x) H2 := fun kd tx z ez er x H2 nx sm hx => by
      subst ez
      exact hT _ er x H2 nx sm hx
    have bad : readTok line col (row.drop col) = none → ∀ (d : Addr) (H2 : Hp), H d = none → Same H H2 → H2 d = some (.xd ((["line", "column"] : List Str).zip [V.int line, V.int col]).reverse) → E (.ref (He.ga K "SyntaxFault")) (some d) H2 :=
      fun er d H2 _ sm hx => hE er d H2 sm hx
    refine ⟨_, rfl, _, rfl, sx row, (col : Int), row[col], rfl, rfl, by omega, by omega, by rw [len_sx]; omega, at_sx hc, ?_⟩
    refine ⟨_, rfl, row[col], ";", rfl, rfl, _, rfl, ?_⟩
    refine ite2 (fun h => ?_) (fun h => ?_)
    · -- a sign
      have h1 : row[col] = 59 := by
        have h := h
        rw [mem_signs] at h
        exact of_decide_eq_true h
      refine ⟨_, rfl, _, rfl, _, rfl, mk_at rfl ?_⟩
      have e1 : (⟨#[row[col]]⟩ : Str) = sx [59] := by rw [h1]; rfl
      rw [e1]
      refine fin .sign [59] "sign" rfl ?_
      rw [e0]
      simp [readTok, h1]
    have h1 : row[col] ≠ 59 := by
      have h := h
      rw [mem_signs] at h
      exact fun q => h (decide_eq_true q)
    refine ⟨_, rfl, row[col], "0123456789", rfl, rfl, _, rfl, ?_⟩
    refine ite2 (fun h => ?_) (fun h => ?_)
    · -- a number
      have h2 : isD row[col] = true := by
        have h := h
        rw [mem_digits] at h
        exact h
      have ew : ((row.drop col).takeWhile fun c => decide (c ∈ ("0123456789" : Str).cps.toList)) = (row.drop col).takeWhile isD := by
        congr 1
        exact funext mem_digits
      have hle : col + ((row.drop col).takeWhile isD).length ≤ row.length := by
        have z := tw_le isD (row.drop col)
        rw [List.length_drop] at z
        omega
      refine ⟨_, rfl, _, rfl, _, rfl, _, rfl, _, rfl, row, col, _, rfl, hl, Nat.le_of_lt hc, ?_⟩
      rw [ew]
      refine ⟨_, rfl, sx row, rfl, by rw [len_sx]; exact sz5 hl, ?_⟩
      rw [cut_sx hle, tw_take]
      have hz : (sx ((row.drop col).takeWhile isD)).length ≤ sizeLine := by
        rw [len_sx]
        exact sz5 (by omega)
      refine ⟨_, rfl, _, rfl, hz, _, _, rfl, rfl, _, rfl, ?_⟩
      have rd : readTok line col (row.drop col) = if 2 < ((row.drop col).takeWhile isD).length ∨ (1 < ((row.drop col).takeWhile isD).length ∧ row[col] = 48) then none else some ⟨.number, (row.drop col).takeWhile isD, line, col⟩ := by
        conv => lhs; rw [e0]
        simp only [readTok, if_neg h1, if_pos h2]
        rw [← e0]
      have ok2 : ¬ (2 < ((row.drop col).takeWhile isD).length ∨ (1 < ((row.drop col).takeWhile isD).length ∧ row[col] = 48)) → ∀ (x : Addr) (H2 : Hp), H x = none → Same H H2 →
          (∃ dx, H2 x = some (.ins (He.ga K "Token") dx (tokF.zip [.str "number", .str (sx ((row.drop col).takeWhile isD)), .int line, .int col]))) → Q (.ref x) H2 :=
        fun q => fin .number _ "number" rfl (by rw [rd, if_neg q])
      have bad2 : (2 < ((row.drop col).takeWhile isD).length ∨ (1 < ((row.drop col).takeWhile isD).length ∧ row[col] = 48)) → ∀ (d : Addr) (H2 : Hp), H d = none → Same H H2 → H2 d = some (.xd ((["line", "column"] : List Str).zip [V.int line, V.int col]).reverse) → E (.ref (He.ga K "SyntaxFault")) (some d) H2 :=
        fun q => bad (by rw [rd, if_pos q])
      rw [len_sx]
      refine ite2 (fun h3 => ?_) (fun h3 => ?_)
      · have h3 := of_decide_eq_true h3
        refine iteT ⟨_, rfl, _, rfl, fault_at rfl (by simp) (bad2 (Or.inl (by omega)))⟩
      · have h3 : ¬ (2 : Int) < ((((row.drop col).takeWhile isD).length : Nat) : Int) := fun q => h3 (decide_eq_true q)
        refine ⟨_, rfl, _, rfl, hz, _, _, rfl, rfl, _, rfl, ?_⟩
        rw [len_sx]
        refine ite2 (fun h4 => ?_) (fun h4 => ?_)
        · have h4 := of_decide_eq_true h4
          refine ⟨_, rfl, rfl, _, rfl, ?_⟩
          refine ite2 (fun h5 => ?_) (fun h5 => ?_)
          · have h5 := V.str.inj (of_decide_eq_true h5)
            have h6 : row[col] = 48 := sign_inj h5 (by decide +kernel)
            exact ⟨_, rfl, _, rfl, fault_at rfl (by simp) (bad2 (Or.inr ⟨by omega, h6⟩))⟩
          · have h6 : row[col] ≠ 48 := fun q => h5 (decide_eq_true (by rw [q]; decide +kernel))
            exact ⟨_, rfl, _, rfl, _, rfl, mk_at rfl (ok2 (by
              rintro (q | q)
              · omega
              · exact h6 q.2))⟩
        · have h4 : ¬ (1 : Int) < ((((row.drop col).takeWhile isD).length : Nat) : Int) := fun q => h4 (decide_eq_true q)
          refine iteF ⟨_, rfl, _, rfl, _, rfl, mk_at rfl (ok2 (by
              rintro (q | q)
              · omega
              · omega))⟩
    · -- a word
      have h2 : ¬ isD row[col] = true := by
        have h := h
        rw [mem_digits] at h
        exact h
      have ew : ((row.drop col).takeWhile fun c => decide (c ∈ ("abcdefghijklmnopqrstuvwxyz" : Str).cps.toList)) = (row.drop col).takeWhile isL := by
        congr 1
        exact funext mem_letters
      have hle : col + ((row.drop col).takeWhile isL).length ≤ row.length := by
        have z := tw_le isL (row.drop col)
        rw [List.length_drop] at z
        omega
      have rd : readTok line col (row.drop col) = if (row.drop col).takeWhile isL ∈ kws then some ⟨.keyword, (row.drop col).takeWhile isL, line, col⟩
          else if 1 ≤ ((row.drop col).takeWhile isL).length ∧ ((row.drop col).takeWhile isL).length ≤ 8 then some ⟨.name, (row.drop col).takeWhile isL, line, col⟩ else none := by
        conv => lhs; rw [e0]
        simp only [readTok, if_neg h1, if_neg h2]
        rw [← e0]
      refine ⟨_, rfl, _, rfl, _, rfl, _, rfl, _, rfl, row, col, _, rfl, hl, Nat.le_of_lt hc, ?_⟩
      rw [ew]
      refine ⟨_, rfl, sx row, rfl, by rw [len_sx]; exact sz5 hl, ?_⟩
      rw [cut_sx hle, tw_take]
      have hz : (sx ((row.drop col).takeWhile isL)).length ≤ sizeLine := by
        rw [len_sx]
        exact sz5 (by omega)
      refine ⟨_, rfl, _, _, rfl, Or.inr (T.kws H), rfl, flat_sx kws, _, rfl, ?_⟩
      refine ite2 (fun h3 => ?_) (fun h3 => ?_)
      · have h3 : (row.drop col).takeWhile isL ∈ kws := by
          have h3 : inV (V.str (sx ((row.drop col).takeWhile isL))) (kws.map fun w => V.str (sx w)) = true := h3
          rw [inV_sx] at h3
          exact of_decide_eq_true h3
        exact ⟨_, rfl, _, rfl, _, rfl, mk_at rfl (fin .keyword _ "keyword" rfl (by rw [rd, if_pos h3]))⟩
      · have h3 : ¬ (row.drop col).takeWhile isL ∈ kws := fun q => h3 (by
          show inV (V.str (sx ((row.drop col).takeWhile isL))) (kws.map fun w => V.str (sx w)) = true
          rw [inV_sx]
          exact decide_eq_true q)
        refine ⟨_, rfl, _, rfl, hz, ?_⟩
        rw [len_sx]
        refine ⟨_, _, rfl, rfl, _, rfl, ?_⟩
        refine ite2 (fun h4 => ?_) (fun h4 => ?_)
        · have h4 := of_decide_eq_true h4
          refine ⟨_, _, rfl, rfl, _, rfl, ?_⟩
          refine ite2 (fun h5 => ?_) (fun h5 => ?_)
          · have h5 : ¬ ((((row.drop col).takeWhile isL).length : Nat) : Int) ≤ 8 := fun q => by
              rw [decide_eq_true q] at h5
              exact absurd h5 (by decide)
            exact ⟨_, rfl, _, rfl, fault_at rfl (by simp) (bad (by rw [rd, if_neg h3, if_neg (by omega)]))⟩
          · have h5 : ((((row.drop col).takeWhile isL).length : Nat) : Int) ≤ 8 := Decidable.byContradiction fun q => h5 (by rw [decide_eq_false q]; rfl)
            exact ⟨_, rfl, _, rfl, _, rfl, mk_at rfl (fin .name _ "name" rfl (by rw [rd, if_neg h3, if_pos (by omega)]))⟩
        · have h4 : ¬ (1 : Int) ≤ ((((row.drop col).takeWhile isL).length : Nat) : Int) := fun q => h4 (decide_eq_true q)
          exact ⟨_, rfl, iteT ⟨_, rfl, _, rfl, fault_at rfl (by simp) (bad (by rw [rd, if_neg h3, if_neg (by omega)]))⟩⟩
end
end Sw

end

section
set_option maxRecDepth 100000
set_option maxHeartbeats 4000000
namespace Sw
open PySem PySem.Spec PyProof.Rows L2 SwA
section
variable {P : Program} {w : World} {K : PySem.W.Frag} {mg : Str → Option Value} {base : Heap}
/-! ### the rows -/
theorem split_sx (text : Cs) : Txt.split (sx text) "\n" = (rowsOf text).map sx := by
  refine TL.map_tl_inj ?_
  have e : TL.tl ("\n" : Str) = [10] := by decide +kernel
  rw [TL.split_spl (sx text) "\n" (by rw [e]; simp) (TL.kind_ok (by decide +kernel)), e, List.map_map]
  show rowsOf text = (rowsOf text).map (fun l => l)
  rw [List.map_id']
theorem spl_sum : ∀ (l acc : Cs), ((TL.spl [10] 0 acc l).map List.length).sum ≤ acc.length + l.length
  | [], acc => by simp [TL.spl]
  | c :: r, acc => by
    unfold TL.spl
    split
    · have z := spl_sum r []
      simp only [List.map_cons, List.sum_cons, List.length_cons, List.length_nil] at z ⊢
      have z2 : ((TL.spl [10] (0 + 1 - 1) [] r).map List.length).sum ≤ 0 + r.length := z
      omega
    · have z := spl_sum r (acc ++ [c])
      simp only [List.length_append, List.length_cons, List.length_nil] at z ⊢
      omega
theorem rows_sum (text : Cs) : ((rowsOf text).map List.length).sum ≤ text.length := by
  have z := spl_sum text []
  rw [List.length_nil, Nat.zero_add] at z
  exact z
theorem sum_take : ∀ (l : List Nat) (i : Nat), (l.take i).sum ≤ l.sum
  | [], i => by simp
  | a :: r, 0 => by simp
  | a :: r, i + 1 => by
    have z := sum_take r i
    simp only [List.take_succ_cons, List.sum_cons]
    omega
theorem sum_take_succ {l : List Nat} {i a : Nat} (h : l[i]? = some a) : (l.take (i + 1)).sum = (l.take i).sum + a := by
  rw [List.take_succ, h]
  simp
theorem spl_ne (l acc : Cs) : TL.spl [10] 0 acc l ≠ [] := by
  cases l with
  | nil => simp [TL.spl]
  | cons c r =>
    unfold TL.spl
    split
    · simp
    · exact spl_ne r (acc ++ [c])
theorem spl_len : ∀ (l acc : Cs), (TL.spl [10] 0 acc l).length ≤ l.length + 1
  | [], acc => by simp [TL.spl]
  | c :: r, acc => by
    unfold TL.spl
    split
    · have z := spl_len r []
      have z2 : (TL.spl [10] ([10].length - 1) [] r).length ≤ r.length + 1 := z
      simp only [List.length_cons] at z2 ⊢
      omega
    · have z := spl_len r (acc ++ [c])
      simp only [List.length_cons]
      omega
/-! ### the tokens' objects -/
abbrev TksAt (K : PySem.W.Frag) (H : Hp) (tas : List Addr) (ts : List Tk) : Prop := Paired (fun a t => TokAt K H a t) tas ts
theorem TokAt.same {H H' : Hp} {a : Addr} {t : Tk} (s : Same H H') (h : TokAt K H a t) : TokAt K H' a t := let ⟨dx, e⟩ := h; ⟨dx, s _ _ e⟩
theorem TksAt.same {H H' : Hp} {tas : List Addr} {ts : List Tk} (s : Same H H') (h : TksAt K H tas ts) : TksAt K H' tas ts := Paired.mapP h fun _ _ x => x.same s
theorem TokAt.upd {H : Hp} {a l : Addr} {xs ys : List V} {t : Tk} (hl : H l = some (.lst xs)) (h : TokAt K H a t) : TokAt K (upd H l (.lst ys)) a t := by
  obtain ⟨dx, e⟩ := h
  exact ⟨dx, by rw [upd_ne (ne_of e hl (by intro z; cases z))]; exact e⟩
theorem TksAt.upd {H : Hp} {l : Addr} {xs ys : List V} {tas : List Addr} {ts : List Tk} (hl : H l = some (.lst xs)) (h : TksAt K H tas ts) : TksAt K (L2.upd H l (.lst ys)) tas ts := Paired.mapP h fun _ _ x => x.upd hl
theorem Paired_snoc {α β : Type} {F : α → β → Prop} : ∀ {l : List α} {m : List β} {a : α} {b : β}, Paired F l m → F a b → Paired F (l ++ [a]) (m ++ [b])
  | _, _, _, _, .nil, h => .cons h .nil
  | _, _, _, _, .cons x r, h => .cons x (Paired_snoc r h)
theorem sameUpd {H H' : Hp} {p : Addr} {o : HO} (s : Same H H') (h : H p = none) : Same H (upd H' p o) := fun b u e => by
  rw [upd_ne (ne_of_none e h)]
  exact s b u e
theorem Syn.mono {H H' : Hp} {E : XK} {l c : Nat} (h : Syn K H E l c) (s : Same H H') : Syn K H' E l c := fun d H2 s2 e => h d H2 (s.trans s2) e
theorem lk_text {a b c d : V} : List.lookup ("text" : Str) ([("kind", a), ("text", b), ("line", c), ("column", d)] : List (Str × V)) = some b := by kernel_rfl
theorem lk_kind {a b c d : V} : List.lookup ("kind" : Str) ([("kind", a), ("text", b), ("line", c), ("column", d)] : List (Str × V)) = some a := by kernel_rfl
theorem lk_line {a b c d : V} : List.lookup ("line" : Str) ([("kind", a), ("text", b), ("line", c), ("column", d)] : List (Str × V)) = some c := by kernel_rfl
theorem lk_col {a b c d : V} : List.lookup ("column" : Str) ([("kind", a), ("text", b), ("line", c), ("column", d)] : List (Str × V)) = some d := by kernel_rfl
theorem str_nil : ("" : Str) = sx [] := by decide +kernel
/-! ### tokenize -/
def spTokenize (K : PySem.W.Frag) : Sp := fun vs H Q E => ∃ text : Cs, vs = [.str (sx text)] ∧ text.length ≤ 90000 ∧
  (∀ ts, tokenize text = .ok ts → ∀ (a : Addr) (tas : List Addr) (H' : Hp), H a = none → Same H H' → H' a = some (.lst (tas.map V.ref)) → TksAt K H' tas ts → Q (.ref a) H') ∧
  (∀ l c, tokenize text = .error (l, c) → Syn K H E l c)
theorem sc_tokenize : FnScope ["source", "tokens", "rows", "line", "row", "column", "token"] ["source"] (defScope s_tokenize) := ⟨rfl, rfl, rfl, by decide +kernel, rfl, by decide +kernel, by decide +kernel⟩
/-- what is left of the rows, what is done -/
def RowsInv (rows : List Cs) (i : Nat) (done : List Tk) : Prop :=
  (∀ e, lexRows i (rows.drop i) = .error e → lexRows 0 rows = .error e) ∧ (∀ us, lexRows i (rows.drop i) = .ok us → lexRows 0 rows = .ok (done ++ us))
def RowInv (line : Nat) (row : Cs) (f c : Nat) (done : List Tk) : Prop :=
  (row.drop c).length ≤ f ∧ (∀ e, lexRow line f c (row.drop c) = .error e → lexRow line row.length 0 row = .error e) ∧ (∀ us, lexRow line f c (row.drop c) = .ok us → lexRow line row.length 0 row = .ok (done ++ us))
theorem readTok_len {line col : Nat} {rest : Cs} {t : Tk} (h : readTok line col rest = some t) : 1 ≤ t.text.length ∧ t.text.length ≤ rest.length := by
  unfold readTok at h
  split at h
  · cases h
  · rename_i c r
    split at h
    · cases h; simp
    · split at h
      · rename_i hd
        split at h
        · cases h
        · cases h
          have z := tw_le isD (c :: r)
          refine ⟨?_, z⟩
          simp [List.takeWhile_cons, hd]
      · split at h
        · rename_i hk
          cases h
          refine ⟨?_, tw_le isL (c :: r)⟩
          refine Nat.pos_of_ne_zero fun z => ?_
          have z' : (c :: r).takeWhile isL = [] := List.length_eq_zero_iff.mp z
          rw [z'] at hk
          exact absurd hk (by decide)
        · split at h
          · rename_i hk
            cases h
            exact ⟨hk.1, tw_le isL (c :: r)⟩
          · cases h
theorem ok_tokenize (T : LexT K mg) : FnE P w K mg base (L2.CX P w) 4 ("tokenize", none) ["source"] (spTokenize K) := by
  obtain ⟨fd, F⟩ := T.d_tokenize
  obtain ⟨fdR, GR, bR, kR⟩ := ok_read_token (P := P) (w := w) (base := base) T
  obtain ⟨fdT, GT, bT, kT⟩ := ok_tok (P := P) (w := w) (base := base) T
  obtain ⟨t1, mSPACES⟩ := T.SPACES
  obtain ⟨t2, mEND⟩ := T.END
  refine ⟨fd, F.ok sc_tokenize (fun vs H Q E h => ?_) (fun cdv A outer s H vs Q E hr h => ?_), F.bindsN fun _ _ _ _ _ _ us hl => match us, hl with | [_], _ => rfl, F.kp⟩
  · obtain ⟨text, rfl, _⟩ := h
    rfl
  · obtain ⟨text, rfl, hl, hT, hE⟩ := h
    have hr1 : Room 2 _ := hr.mono (by decide)
    refine ⟨_, (pss_cons (ps_set (i := 1) sc_tokenize.nd rfl (.inl rfl) (pe_lst pa_nil))
      (pss_cons (ps_set (i := 2) sc_tokenize.nd rfl (.inl rfl) (pe_split (pv 0) pe_str))
      (pss_cons (ps_for (passes_of rfl) rfl (pi_enum (by rfl) T.enumerate (pa_cons (pv 2) pa_nil)) (pg_tup rfl (pgs_cons (pg_name (i := 3) sc_tokenize.nd rfl (.inl rfl)) (pgs_cons (pg_name (i := 4) sc_tokenize.nd rfl (.inl rfl)) pgs_nil)))
        (pss_cons (ps_set (i := 5) sc_tokenize.nd rfl (.inl rfl) pe_int)
        (pss_one (ps_while (passes_of rfl) (pt_cmpR op_lt (pv 5) (pe_callB call_len_str (by rfl) T.len boot_len (pa_cons (pv 4) pa_nil)) (nomark _))
          (pss_one (ps_if (pt_cmpR op_in_sign (pe_item_str (pv 4) (pv 5) (fun _ _ => rfl)) (pe_glob (v := .str " \n") rfl mSPACES ⟨_, rfl⟩) rfl)
            (pss_one (ps_aug (i := 5) sc_tokenize.nd rfl (.inl rfl) pe_int ip_add))
            (pss_cons (ps_set (i := 6) sc_tokenize.nd rfl (.inl rfl) (pe_call GR hr rfl T.g_read_token kR bR .nil (passes_call (takes_of rfl rfl rfl rfl) (fun _ _ _ _ h => h)) (pa_cons (pv 4) (pa_cons (pv 3) (pa_cons (pv 5) pa_nil)))))
            (pss_cons (ps_expr (pe_bm PySem.F.plainAttrs_list PySem.F.slot_list_append PySem.F.type_list_append mt_append (pv 1) (pa_cons (pv 6) pa_nil)))
            (pss_one (ps_aug (i := 5) sc_tokenize.nd rfl (.inl rfl) (pe_callB call_len_str (by rfl) T.len boot_len (pa_cons (pe_fld (pv 6) rfl) pa_nil)) ip_add))))))))))
      (pss_one (ps_ret (pe_op op_cat (pv 1) (pe_lst (pa_cons (pe_make T.tok.m GT hr1 rfl T.tok.g bT .nil pass0 (pa_cons (pe_glob (v := .str "end") rfl mEND ⟨_, rfl⟩) (pa_cons pe_str (pa_cons (pe_callB call_len_seq (by rfl) T.len boot_len (pa_cons (pv 2) pa_nil)) (pa_cons pe_int pa_nil))))) pa_nil)))))))), ?_⟩
    refine ⟨by simp, fun tl ntl => ?_⟩
    refine ⟨_, rfl, ⟨_, rfl⟩, sx text, "\n", rfl, rfl, by decide +kernel, by rw [len_sx, sizeLine_eq]; omega, ?_⟩
    rw [split_sx]
    intro rl nrl
    have ntr : rl ≠ tl := by
      rintro rfl
      rw [upd_same] at nrl
      cases nrl
    have nrl' : H rl = none := by
      rw [upd_ne ntr] at nrl
      exact nrl
    refine ⟨_, rfl, rl, _, rfl, SqL.of upd_same, for_it (walk_enum (K := K) (a := rl) (xs := ((rowsOf text).map sx).map V.str)) (fun i σ H' => ∃ (done : List Tk) (tas : List Addr) (o3 o4 o5 o6 : Option V),
        σ = [some (.str (sx text)), some (.ref tl), some (.ref rl), o3, o4, o5, o6] ∧ Same H H' ∧ H' tl = some (.lst (tas.map V.ref)) ∧ H' rl = some (.lst (((rowsOf text).map sx).map V.str)) ∧
        TksAt K H' tas done ∧ done.length ≤ (((rowsOf text).map List.length).take i).sum ∧ RowsInv (rowsOf text) i done) ?_ ?_ ?_ ?_⟩
    · refine ⟨[], [], none, none, none, none, rfl, sameUpd (sameUpd (Same.refl H) ntl) nrl', by rw [upd_ne ntr.symm, upd_same]; rfl, upd_same, .nil, by simp, fun e h => h, fun us h => h⟩
    · rintro i σ H' hi ⟨done, tas, o3, o4, o5, o6, rfl, sm, h1, h2, _⟩
      exact SqL.of h2
    · rintro i x σ H1 H2 hi ⟨done, tas, o3, o4, o5, o6, rfl, sm, h1, h2, htk, hdl, hri⟩ ⟨T0, x1, y1, rfl, nT, rfl, e1, e2⟩
      cases e1
      rw [List.length_map, List.length_map] at hi
      have er : (rowsOf text)[i]? = some (rowsOf text)[i] := List.getElem?_eq_getElem hi
      have ey : y1 = .str (sx (rowsOf text)[i]) := by
        have e2 : (((rowsOf text).map sx).map V.str)[i]? = some y1 := e2
        rw [List.getElem?_map, List.getElem?_map, er] at e2
        exact (Option.some.inj e2).symm
      subst ey
      generalize hrow : (rowsOf text)[i] = row at er
      have hsum : (((rowsOf text).map List.length).take (i + 1)).sum = (((rowsOf text).map List.length).take i).sum + row.length := sum_take_succ (by rw [List.getElem?_map, er]; rfl)
      have htot : (((rowsOf text).map List.length).take (i + 1)).sum ≤ text.length := Nat.le_trans (sum_take _ _) (rows_sum text)
      have hdrop : (rowsOf text).drop i = row :: (rowsOf text).drop (i + 1) := by rw [List.drop_eq_getElem_cons hi, hrow]
      have hlr : row.length ≤ 100000 := by omega
      refine ⟨T0, _, rfl, SqT.of upd_same, rfl, _, _, rfl, _, _, rfl, rfl, ?_⟩
      have g1 : (upd H1 T0 (.tup [.int (i : Nat), .str (sx row)])) tl = some (.lst (tas.map V.ref)) := by rw [upd_ne (ne_of_none h1 nT)]; exact h1
      have g2 : (upd H1 T0 (.tup [.int (i : Nat), .str (sx row)])) rl = some (.lst (((rowsOf text).map sx).map V.str)) := by rw [upd_ne (ne_of_none h2 nT)]; exact h2
      have smT : Same H1 (upd H1 T0 (.tup [.int (i : Nat), .str (sx row)])) := sameUpd (Same.refl H1) nT
      refine ⟨fun m σ H3 => ∃ (c f : Nat) (doneR : List Tk) (tas : List Addr) (o6 : Option V), m + c = row.length ∧ σ = [some (.str (sx text)), some (.ref tl), some (.ref rl), some (.int (i : Nat)), some (.str (sx row)), some (.int (c : Nat)), o6] ∧
        Same H H3 ∧ H3 tl = some (.lst (tas.map V.ref)) ∧ H3 rl = some (.lst (((rowsOf text).map sx).map V.str)) ∧ TksAt K H3 tas (done ++ doneR) ∧ doneR.length ≤ c ∧ RowInv i row f c doneR,
        ⟨row.length, 0, row.length, [], tas, o6, rfl, rfl, sm.trans smT, g1, g2, by rw [List.append_nil]; exact htk.same smT, Nat.le_refl _, by unfold RowInv; rw [List.drop_zero]; exact ⟨Nat.le_refl _, fun e h => h, fun us h => h⟩⟩, ?_⟩
      rintro m σ H3 ⟨c, f, doneR, tas3, o6', hm, rfl, sm3, k1, k2, ktk, kdl, kin⟩
      refine ⟨_, rfl, _, rfl, _, rfl, by rw [len_sx]; exact sz5 hlr, _, _, rfl, rfl, _, rfl, ?_⟩
      refine ite2 (fun h => ?_) (fun h => ?_)
      · have hc : c < row.length := by
          have h := of_decide_eq_true h
          rw [len_sx] at h
          omega
        have e0 : row.drop c = row[c] :: row.drop (c + 1) := List.drop_eq_getElem_cons hc
        obtain ⟨kf, ke, ko⟩ := kin
        obtain ⟨f', rfl⟩ : ∃ f', f = f' + 1 := ⟨f - 1, by rw [e0] at kf; simp at kf; omega⟩
        refine ⟨_, fun _ _ n => n, ?_⟩
        refine ⟨_, rfl, _, rfl, sx row, (c : Int), row[c], rfl, rfl, by omega, by omega, by rw [len_sx]; omega, at_sx hc, row[c], _, rfl, rfl, _, rfl, ?_⟩
        refine ite2 (fun h5 => ?_) (fun h5 => ?_)
        · have h5 : isS row[c] = true := by
            have h5 := h5
            rw [mem_spaces] at h5
            exact h5
          refine ⟨_, rfl, _, _, rfl, rfl, m - 1, by omega, c + 1, f', doneR, tas3, o6', by omega, rfl, sm3, k1, k2, ktk, by omega, ?_⟩
          have es : lexRow i (f' + 1) c (row.drop c) = lexRow i f' (c + 1) (row.drop (c + 1)) := by
            rw [e0]
            simp only [lexRow, if_pos h5]
          refine ⟨?_, fun e q => ke e (by rw [es]; exact q), fun us q => ko us (by rw [es]; exact q)⟩
          rw [e0] at kf
          simp only [List.length_cons] at kf
          omega
        · have h5 : ¬ isS row[c] = true := by
            have h5 := h5
            rw [mem_spaces] at h5
            exact h5
          refine ⟨_, rfl, _, rfl, _, rfl, row, i, c, rfl, hlr, hc, fun t ht a H4 na sm4 hta => ?_, fun hn => ?_⟩
          · have j1 := sm4 _ _ k1
            have j2 := sm4 _ _ k2
            obtain ⟨l1, l2⟩ := readTok_len ht
            rw [List.length_drop] at l2
            have hcount : (tas3.map V.ref).length < sizeLine := by
              rw [List.length_map, ktk.length, List.length_append, sizeLine_eq]
              omega
            obtain ⟨dx, hdx⟩ := hta.upd (ys := tas3.map V.ref ++ [V.ref a]) j1
            refine ⟨_, rfl, .inl ⟨rfl, _, SqL.of j1⟩, _, rfl, tl, _, _, rfl, rfl, j1, hcount, ?_⟩
            refine ⟨_, rfl, _, rfl, a, _, dx, _, _, rfl, hdx, T.tok.c, T.tok.n _ (by simp), lk_text, _, rfl, by rw [len_sx]; exact sz5 (by omega), _, _, rfl, rfl, ?_⟩
            refine ⟨m - t.text.length, by omega, c + t.text.length, f', doneR ++ [t], tas3 ++ [a], _, by omega, by rw [len_sx]; rfl, sameUpd (sm3.trans sm4) ntl, by rw [upd_same, List.map_append]; rfl, by rw [upd_ne ntr]; exact j2, ?_, by simp; omega, ?_⟩
            · rw [← List.append_assoc]
              exact Paired_snoc ((ktk.same sm4).upd j1) ⟨dx, hdx⟩
            · have es : ∀ r, lexRow i f' (c + t.text.length) (row.drop (c + t.text.length)) = r → lexRow i (f' + 1) c (row.drop c) = (match r with | .error e => .error e | .ok ts => .ok (t :: ts)) := by
                intro r q
                have ed : (row[c] :: row.drop (c + 1)).drop t.text.length = row.drop (c + t.text.length) := by rw [← e0, List.drop_drop]
                conv => lhs; rw [e0]
                simp only [lexRow, if_neg h5]
                rw [← e0, ht]
                simp only
                rw [e0, ed, q]
                all_goals (cases r <;> rfl)
              refine ⟨?_, fun e q => ke e (by rw [es _ q]), fun us q => ?_⟩
              · rw [List.length_drop] at kf ⊢
                omega
              · have z := ko (t :: us) (by rw [es _ q])
                rw [z, List.append_assoc]
                rfl
          · have es : lexRow i (f' + 1) c (row.drop c) = .error (i, c) := by
              conv => lhs; rw [e0]
              simp only [lexRow, if_neg h5]
              rw [← e0, hn]
            have z1 := ke _ es
            have z2 : lexRows 0 (rowsOf text) = .error (i, c) := hri.1 _ (by rw [hdrop]; simp only [lexRows, z1])
            exact (hE i c (by simp only [tokenize, z2])).mono sm3
      · have hc : c = row.length := by
          have h : ¬ ((c : Nat) : Int) < ((sx row).length : Int) := fun q => h (decide_eq_true q)
          rw [len_sx] at h
          omega
        obtain ⟨kf, ke, ko⟩ := kin
        have ed : row.drop c = [] := by rw [hc]; exact List.drop_length
        have z1 : lexRow i row.length 0 row = .ok doneR := by
          have z := ko [] (by rw [ed]; cases f <;> rfl)
          rw [z, List.append_nil]
        refine ⟨done ++ doneR, tas3, _, _, _, _, rfl, sm3, k1, k2, ktk, by rw [hsum, List.length_append]; omega, fun e q => hri.1 e ?_, fun us q => ?_⟩
        · rw [hdrop]
          simp only [lexRows, z1, q]
        · have z := hri.2 (doneR ++ us) (by rw [hdrop]; simp only [lexRows, z1, q])
          rw [z, List.append_assoc]
    · rintro σ H1 ⟨done, tas, o3, o4, o5, o6, rfl, sm, h1, h2, htk, hdl, hri⟩
      rw [List.length_map, List.length_map] at hri hdl
      have hlen : (rowsOf text).length ≤ text.length + 1 := spl_len text []
      have hdn : done.length ≤ text.length := Nat.le_trans hdl (Nat.le_trans (sum_take _ _) (rows_sum text))
      have z1 : lexRows 0 (rowsOf text) = .ok done := by
        have z := hri.2 [] (by rw [List.drop_length]; rfl)
        rw [z, List.append_nil]
      refine ⟨_, rfl, _, rfl, rl, _, rfl, .inl (SqL.of h2), ?_⟩
      intro x dx0 nx ndx ne0
      refine init_at (names := tokF) rfl nx ndx fun H5 sm5 hx => ⟨rfl, ?_⟩
      refine ⟨(by show 1 ≤ sizeLine; decide), fun l nl => ?_⟩
      have nlt : tl ≠ l := ne_of_none (sm5 _ _ h1) nl
      refine ⟨tl, l, _, _, rfl, rfl, by rw [upd_ne nlt]; exact sm5 _ _ h1, upd_same, ?_, fun p np => ?_⟩
      · rw [List.length_map, htk.length, sizeLine_eq]
        simp
        omega
      · have npl : p ≠ l := by
          rintro rfl
          rw [upd_same] at np
          cases np
        rw [upd_ne npl] at np
        have s1 : Same H5 (upd (upd H5 l (.lst [.ref x])) p (.lst (tas.map V.ref ++ [.ref x]))) := sameUpd (sameUpd (Same.refl H5) nl) np
        have nH : H p = none := (sm.trans sm5).free np
        refine hT (done ++ [⟨.fin, [], (rowsOf text).length, 0⟩]) (by simp only [tokenize, z1]) p (tas ++ [x]) _ nH ((sm.trans sm5).trans s1) (by rw [upd_same, List.map_append]; rfl) ?_
        refine Paired_snoc (htk.same (sm5.trans s1)) ?_
        obtain ⟨dx, hdx⟩ := hx
        refine ⟨dx, ?_⟩
        rw [s1 _ _ hdx, List.length_map, List.length_map, str_nil]
        rfl
end
end Sw

end

section
set_option maxRecDepth 100000
set_option maxHeartbeats 4000000
/-! the parser's object -/
namespace Sw
open PySem PySem.Spec PyProof.Rows L2 SwA
abbrev sV (w : Cs) : V := .str (sx w)
/-- where the parser's parts stand -/
structure PLoc where
  tl : Addr
  fl : Addr
  sl : Addr
  ml : Addr
  rl : Addr
  rd : Addr
  pd : Addr
  sd : Addr
def parF (L : PLoc) (at_ : Nat) : List (Str × V) := [("tokens", .ref L.tl), ("at", .int at_), ("faults", .ref L.fl), ("signs", .ref L.sl), ("moods", .ref L.ml), ("robots", .ref L.rl), ("rules", .ref L.rd), ("pairs", .ref L.pd), ("spots", .ref L.sd)]
def FaultsAt (H : Hp) : Nat → List Addr → List (Nat × Nat × Cs) → Prop
  | _, [], [] => True
  | i, a :: as, f :: fs => H a = some (.tup [.int f.1, .int f.2.1, .int (i : Nat), sV f.2.2]) ∧ FaultsAt H (i + 1) as fs
  | _, _, _ => False
def keyT (q : Nat × Nat) : List Key := [.inl q.1, .inl q.2]
def RuleAt (H : Hp) (r : (Nat × Nat) × Rule) (kv : List Key × V) : Prop := kv.1 = keyT r.1 ∧ ∃ t, kv.2 = .ref t ∧ H t = some (.tup [.int r.2.left, sV r.2.move, .int r.2.later])
def RulesAt (H : Hp) (rd : Addr) (rules : List ((Nat × Nat) × Rule)) : Prop := ∃ kvs, H rd = some (.dT kvs) ∧ Paired (RuleAt H) rules kvs
def RobAt (H : Hp) (a : Addr) (r : Nat × Bool) : Prop := H a = some (.tup [.int r.1, .bl r.2])
def pairK (q : Cs × Cs) : List Key × V := ([.inr (sx q.1), .inr (sx q.2)], .bl true)
def spotK (q : Nat × Nat) : Key × V := (.inl q.1, .int q.2)
/-- the parser at p: its state -/
structure PA (K : PySem.W.Frag) (H0 H : Hp) (p : Addr) (L : PLoc) (tas : List Addr) (T : List Tk) (st : PSt) : Prop where
  same : Same H0 H
  ob : ∃ dx, H p = some (.ins (He.ga K "Parser") dx (parF L st.at_))
  tk : H L.tl = some (.lst (tas.map V.ref))
  tks : TksAt K H tas T
  fa : ∃ fas : List Addr, H L.fl = some (.lst (fas.map V.ref)) ∧ FaultsAt H 0 fas st.faults
  si : H L.sl = some (.lst (st.signs.map sV))
  mo : H L.ml = some (.lst (st.moods.map sV))
  ro : ∃ ras : List Addr, H L.rl = some (.lst (ras.map V.ref)) ∧ Paired (RobAt H) ras st.robots
  ru : RulesAt H L.rd st.rules
  pr : H L.pd = some (.dT (st.pairs.map pairK))
  sp : H L.sd = some (.dK (st.spots.map spotK))
  nd : [p, L.tl, L.fl, L.sl, L.ml, L.rl, L.rd, L.pd, L.sd].Nodup
  new : ∀ a ∈ [p, L.tl, L.fl, L.sl, L.ml, L.rl, L.rd, L.pd, L.sd], H0 a = none
theorem FaultsAt.mono {H H' : Hp} (s : ∀ a xs, H a = some (.tup xs) → H' a = some (.tup xs)) : ∀ {i : Nat} {as : List Addr} {fs : List (Nat × Nat × Cs)}, FaultsAt H i as fs → FaultsAt H' i as fs
  | _, [], [], h => h
  | _, a :: as, f :: fs, h => ⟨s _ _ h.1, FaultsAt.mono s h.2⟩
  | _, [], _ :: _, h => h.elim
  | _, _ :: _, [], h => h.elim
theorem FaultsAt.snoc {H : Hp} {a : Addr} {f : Nat × Nat × Cs} : ∀ {i : Nat} {as : List Addr} {fs : List (Nat × Nat × Cs)}, FaultsAt H i as fs → H a = some (.tup [.int f.1, .int f.2.1, .int ((i + fs.length : Nat) : Int), sV f.2.2]) → FaultsAt H i (as ++ [a]) (fs ++ [f])
  | _, [], [], _, e => ⟨e, trivial⟩
  | i, b :: as, g :: fs, h, e => ⟨h.1, FaultsAt.snoc h.2 (by
      have z : i + 1 + fs.length = i + (g :: fs).length := by simp only [List.length_cons]; omega
      rw [z]
      exact e)⟩
  | _, [], _ :: _, h, _ => h.elim
  | _, _ :: _, [], h, _ => h.elim
theorem FaultsAt.len {H : Hp} : ∀ {i : Nat} {as : List Addr} {fs : List (Nat × Nat × Cs)}, FaultsAt H i as fs → as.length = fs.length
  | _, [], [], _ => rfl
  | _, a :: as, f :: fs, h => by simp [FaultsAt.len h.2]
  | _, [], _ :: _, h => h.elim
  | _, _ :: _, [], h => h.elim
theorem RuleAt.mono {H H' : Hp} (s : ∀ a xs, H a = some (.tup xs) → H' a = some (.tup xs)) {r : (Nat × Nat) × Rule} {kv : List Key × V} (h : RuleAt H r kv) : RuleAt H' r kv :=
  let ⟨e, t, e1, e2⟩ := h
  ⟨e, t, e1, s _ _ e2⟩
section
variable {K : PySem.W.Frag} {H0 H H' : Hp} {p : Addr} {L : PLoc} {tas : List Addr} {T : List Tk} {st : PSt}
/-- more objects -/
theorem PA.mono (h : PA K H0 H p L tas T st) (s : Same H H') : PA K H0 H' p L tas T st where
  same := h.same.trans s
  ob := let ⟨dx, e⟩ := h.ob; ⟨dx, s _ _ e⟩
  tk := s _ _ h.tk
  tks := h.tks.same s
  fa := let ⟨fas, e1, e2⟩ := h.fa; ⟨fas, s _ _ e1, e2.mono fun _ _ z => s _ _ z⟩
  si := s _ _ h.si
  mo := s _ _ h.mo
  ro := let ⟨ras, e1, e2⟩ := h.ro; ⟨ras, s _ _ e1, Paired.mapP e2 fun _ _ z => s _ _ z⟩
  ru := let ⟨kvs, e1, e2⟩ := h.ru; ⟨kvs, s _ _ e1, Paired.mapP e2 fun _ _ z => z.mono fun _ _ z => s _ _ z⟩
  pr := s _ _ h.pr
  sp := s _ _ h.sp
  nd := h.nd
  new := h.new
/-- what is changed is neither a tuple nor an object of another kind: the rest -/
theorem keepT {x : Addr} {o o' : HO} (hx : H x = some o) (ht : ∀ xs, o ≠ .tup xs) : ∀ a xs, H a = some (.tup xs) → (upd H x o') a = some (.tup xs) := fun a xs e => by
  rw [upd_ne (ne_of e hx fun z => ht xs z.symm)]
  exact e
theorem keepK {x : Addr} {o o' : HO} (hx : H x = some o) (hi : ∀ C d fs, o = .ins C d fs → C ≠ He.ga K "Token") : ∀ a t, TokAt K H a t → TokAt K (upd H x o') a t := fun a t ⟨dx, e⟩ => by
  refine ⟨dx, ?_⟩
  rw [upd_ne (ne_of e hx fun z => hi _ _ _ z.symm rfl)]
  exact e
/-- self.at += 1 -/
theorem PA.setAt (h : PA K H0 H p L tas T st) (hPT : He.ga K "Parser" ≠ He.ga K "Token") {dx : Addr} {n : Nat} (e : H p = some (.ins (He.ga K "Parser") dx (parF L st.at_))) :
    PA K H0 (upd H p (.ins (He.ga K "Parser") dx (parF L n))) p L tas T { st with at_ := n } := by
  have z := h.nd
  simp only [List.nodup_cons, List.mem_cons, List.not_mem_nil, or_false, not_or] at z
  obtain ⟨⟨z1, z2, z3, z4, z5, z6, z7, z8⟩, _⟩ := z
  have kt := keepT (o' := .ins (He.ga K "Parser") dx (parF L n)) e (fun xs q => by cases q)
  have kk := keepK (K := K) (o' := .ins (He.ga K "Parser") dx (parF L n)) e (fun C d fs q => by cases q; exact hPT)
  refine ⟨sameUpd h.same (h.new _ (by simp)), ⟨dx, upd_same⟩, ?_, Paired.mapP h.tks fun a t q => kk a t q, ?_, ?_, ?_, ?_, ?_, ?_, ?_, h.nd, h.new⟩
  · rw [upd_ne (Ne.symm z1)]; exact h.tk
  · obtain ⟨fas, e1, e2⟩ := h.fa
    exact ⟨fas, by rw [upd_ne (Ne.symm z2)]; exact e1, e2.mono kt⟩
  · rw [upd_ne (Ne.symm z3)]; exact h.si
  · rw [upd_ne (Ne.symm z4)]; exact h.mo
  · obtain ⟨ras, e1, e2⟩ := h.ro
    exact ⟨ras, by rw [upd_ne (Ne.symm z5)]; exact e1, Paired.mapP e2 fun _ _ q => kt _ _ q⟩
  · obtain ⟨kvs, e1, e2⟩ := h.ru
    exact ⟨kvs, by rw [upd_ne (Ne.symm z6)]; exact e1, Paired.mapP e2 fun _ _ q => q.mono kt⟩
  · rw [upd_ne (Ne.symm z7)]; exact h.pr
  · rw [upd_ne (Ne.symm z8)]; exact h.sp
theorem PA.set_fl (h : PA K H0 H p L tas T st) {fas fas' : List Addr} {fs : List (Nat × Nat × Cs)} (e : H L.fl = some (.lst (fas.map V.ref))) (hn : FaultsAt (upd H L.fl (.lst (fas'.map V.ref))) 0 fas' fs) : PA K H0 (upd H L.fl (.lst (fas'.map V.ref))) p L tas T { st with faults := fs } := by
  have z := h.nd
  simp only [List.nodup_cons, List.mem_cons, List.not_mem_nil, or_false, not_or] at z
  obtain ⟨⟨n_p_tl, n_p_fl, n_p_sl, n_p_ml, n_p_rl, n_p_rd, n_p_pd, n_p_sd⟩, ⟨n_tl_fl, n_tl_sl, n_tl_ml, n_tl_rl, n_tl_rd, n_tl_pd, n_tl_sd⟩, ⟨n_fl_sl, n_fl_ml, n_fl_rl, n_fl_rd, n_fl_pd, n_fl_sd⟩, ⟨n_sl_ml, n_sl_rl, n_sl_rd, n_sl_pd, n_sl_sd⟩, ⟨n_ml_rl, n_ml_rd, n_ml_pd, n_ml_sd⟩, ⟨n_rl_rd, n_rl_pd, n_rl_sd⟩, ⟨n_rd_pd, n_rd_sd⟩, n_pd_sd, _⟩ := z
  have ne_p : p ≠ L.fl := n_p_fl
  have ne_tl : L.tl ≠ L.fl := n_tl_fl
  have ne_sl : L.sl ≠ L.fl := Ne.symm n_fl_sl
  have ne_ml : L.ml ≠ L.fl := Ne.symm n_fl_ml
  have ne_rl : L.rl ≠ L.fl := Ne.symm n_fl_rl
  have ne_rd : L.rd ≠ L.fl := Ne.symm n_fl_rd
  have ne_pd : L.pd ≠ L.fl := Ne.symm n_fl_pd
  have ne_sd : L.sd ≠ L.fl := Ne.symm n_fl_sd
  have kt := keepT (o' := .lst (fas'.map V.ref)) e (fun xs q => by cases q)
  have kk := keepK (K := K) (o' := .lst (fas'.map V.ref)) e (fun C d fs q => by cases q)
  exact ⟨sameUpd h.same (h.new _ (by simp)), (let ⟨dx, q⟩ := h.ob; ⟨dx, (upd_ne ne_p).trans q⟩), (upd_ne ne_tl).trans h.tk, Paired.mapP h.tks fun a t q => kk a t q,
    ⟨fas', upd_same, hn⟩,
    ((upd_ne (ne_sl)).trans h.si),
    ((upd_ne (ne_ml)).trans h.mo),
    (let ⟨ras, e1, e2⟩ := h.ro; ⟨ras, (upd_ne (ne_rl)).trans e1, Paired.mapP e2 fun _ _ q => kt _ _ q⟩),
    (let ⟨kvs, e1, e2⟩ := h.ru; ⟨kvs, (upd_ne (ne_rd)).trans e1, Paired.mapP e2 fun _ _ q => q.mono kt⟩),
    ((upd_ne (ne_pd)).trans h.pr),
    ((upd_ne (ne_sd)).trans h.sp), h.nd, h.new⟩
theorem PA.set_sl (h : PA K H0 H p L tas T st) {xs : List V} {ws : List Cs} (e : H L.sl = some (.lst xs)) (hn : True) : PA K H0 (upd H L.sl (.lst (ws.map sV))) p L tas T { st with signs := ws } := by
  have z := h.nd
  simp only [List.nodup_cons, List.mem_cons, List.not_mem_nil, or_false, not_or] at z
  obtain ⟨⟨n_p_tl, n_p_fl, n_p_sl, n_p_ml, n_p_rl, n_p_rd, n_p_pd, n_p_sd⟩, ⟨n_tl_fl, n_tl_sl, n_tl_ml, n_tl_rl, n_tl_rd, n_tl_pd, n_tl_sd⟩, ⟨n_fl_sl, n_fl_ml, n_fl_rl, n_fl_rd, n_fl_pd, n_fl_sd⟩, ⟨n_sl_ml, n_sl_rl, n_sl_rd, n_sl_pd, n_sl_sd⟩, ⟨n_ml_rl, n_ml_rd, n_ml_pd, n_ml_sd⟩, ⟨n_rl_rd, n_rl_pd, n_rl_sd⟩, ⟨n_rd_pd, n_rd_sd⟩, n_pd_sd, _⟩ := z
  have ne_p : p ≠ L.sl := n_p_sl
  have ne_tl : L.tl ≠ L.sl := n_tl_sl
  have ne_fl : L.fl ≠ L.sl := n_fl_sl
  have ne_ml : L.ml ≠ L.sl := Ne.symm n_sl_ml
  have ne_rl : L.rl ≠ L.sl := Ne.symm n_sl_rl
  have ne_rd : L.rd ≠ L.sl := Ne.symm n_sl_rd
  have ne_pd : L.pd ≠ L.sl := Ne.symm n_sl_pd
  have ne_sd : L.sd ≠ L.sl := Ne.symm n_sl_sd
  have kt := keepT (o' := .lst (ws.map sV)) e (fun xs q => by cases q)
  have kk := keepK (K := K) (o' := .lst (ws.map sV)) e (fun C d fs q => by cases q)
  exact ⟨sameUpd h.same (h.new _ (by simp)), (let ⟨dx, q⟩ := h.ob; ⟨dx, (upd_ne ne_p).trans q⟩), (upd_ne ne_tl).trans h.tk, Paired.mapP h.tks fun a t q => kk a t q,
    (let ⟨fas, e1, e2⟩ := h.fa; ⟨fas, (upd_ne (ne_fl)).trans e1, e2.mono kt⟩),
    upd_same,
    ((upd_ne (ne_ml)).trans h.mo),
    (let ⟨ras, e1, e2⟩ := h.ro; ⟨ras, (upd_ne (ne_rl)).trans e1, Paired.mapP e2 fun _ _ q => kt _ _ q⟩),
    (let ⟨kvs, e1, e2⟩ := h.ru; ⟨kvs, (upd_ne (ne_rd)).trans e1, Paired.mapP e2 fun _ _ q => q.mono kt⟩),
    ((upd_ne (ne_pd)).trans h.pr),
    ((upd_ne (ne_sd)).trans h.sp), h.nd, h.new⟩
theorem PA.set_ml (h : PA K H0 H p L tas T st) {xs : List V} {ws : List Cs} (e : H L.ml = some (.lst xs)) (hn : True) : PA K H0 (upd H L.ml (.lst (ws.map sV))) p L tas T { st with moods := ws } := by
  have z := h.nd
  simp only [List.nodup_cons, List.mem_cons, List.not_mem_nil, or_false, not_or] at z
  obtain ⟨⟨n_p_tl, n_p_fl, n_p_sl, n_p_ml, n_p_rl, n_p_rd, n_p_pd, n_p_sd⟩, ⟨n_tl_fl, n_tl_sl, n_tl_ml, n_tl_rl, n_tl_rd, n_tl_pd, n_tl_sd⟩, ⟨n_fl_sl, n_fl_ml, n_fl_rl, n_fl_rd, n_fl_pd, n_fl_sd⟩, ⟨n_sl_ml, n_sl_rl, n_sl_rd, n_sl_pd, n_sl_sd⟩, ⟨n_ml_rl, n_ml_rd, n_ml_pd, n_ml_sd⟩, ⟨n_rl_rd, n_rl_pd, n_rl_sd⟩, ⟨n_rd_pd, n_rd_sd⟩, n_pd_sd, _⟩ := z
  have ne_p : p ≠ L.ml := n_p_ml
  have ne_tl : L.tl ≠ L.ml := n_tl_ml
  have ne_fl : L.fl ≠ L.ml := n_fl_ml
  have ne_sl : L.sl ≠ L.ml := n_sl_ml
  have ne_rl : L.rl ≠ L.ml := Ne.symm n_ml_rl
  have ne_rd : L.rd ≠ L.ml := Ne.symm n_ml_rd
  have ne_pd : L.pd ≠ L.ml := Ne.symm n_ml_pd
  have ne_sd : L.sd ≠ L.ml := Ne.symm n_ml_sd
  have kt := keepT (o' := .lst (ws.map sV)) e (fun xs q => by cases q)
  have kk := keepK (K := K) (o' := .lst (ws.map sV)) e (fun C d fs q => by cases q)
  exact ⟨sameUpd h.same (h.new _ (by simp)), (let ⟨dx, q⟩ := h.ob; ⟨dx, (upd_ne ne_p).trans q⟩), (upd_ne ne_tl).trans h.tk, Paired.mapP h.tks fun a t q => kk a t q,
    (let ⟨fas, e1, e2⟩ := h.fa; ⟨fas, (upd_ne (ne_fl)).trans e1, e2.mono kt⟩),
    ((upd_ne (ne_sl)).trans h.si),
    upd_same,
    (let ⟨ras, e1, e2⟩ := h.ro; ⟨ras, (upd_ne (ne_rl)).trans e1, Paired.mapP e2 fun _ _ q => kt _ _ q⟩),
    (let ⟨kvs, e1, e2⟩ := h.ru; ⟨kvs, (upd_ne (ne_rd)).trans e1, Paired.mapP e2 fun _ _ q => q.mono kt⟩),
    ((upd_ne (ne_pd)).trans h.pr),
    ((upd_ne (ne_sd)).trans h.sp), h.nd, h.new⟩
theorem PA.set_rl (h : PA K H0 H p L tas T st) {xs : List V} {ras : List Addr} {rs : List (Nat × Bool)} (e : H L.rl = some (.lst xs)) (hn : Paired (RobAt (upd H L.rl (.lst (ras.map V.ref)))) ras rs) : PA K H0 (upd H L.rl (.lst (ras.map V.ref))) p L tas T { st with robots := rs } := by
  have z := h.nd
  simp only [List.nodup_cons, List.mem_cons, List.not_mem_nil, or_false, not_or] at z
  obtain ⟨⟨n_p_tl, n_p_fl, n_p_sl, n_p_ml, n_p_rl, n_p_rd, n_p_pd, n_p_sd⟩, ⟨n_tl_fl, n_tl_sl, n_tl_ml, n_tl_rl, n_tl_rd, n_tl_pd, n_tl_sd⟩, ⟨n_fl_sl, n_fl_ml, n_fl_rl, n_fl_rd, n_fl_pd, n_fl_sd⟩, ⟨n_sl_ml, n_sl_rl, n_sl_rd, n_sl_pd, n_sl_sd⟩, ⟨n_ml_rl, n_ml_rd, n_ml_pd, n_ml_sd⟩, ⟨n_rl_rd, n_rl_pd, n_rl_sd⟩, ⟨n_rd_pd, n_rd_sd⟩, n_pd_sd, _⟩ := z
  have ne_p : p ≠ L.rl := n_p_rl
  have ne_tl : L.tl ≠ L.rl := n_tl_rl
  have ne_fl : L.fl ≠ L.rl := n_fl_rl
  have ne_sl : L.sl ≠ L.rl := n_sl_rl
  have ne_ml : L.ml ≠ L.rl := n_ml_rl
  have ne_rd : L.rd ≠ L.rl := Ne.symm n_rl_rd
  have ne_pd : L.pd ≠ L.rl := Ne.symm n_rl_pd
  have ne_sd : L.sd ≠ L.rl := Ne.symm n_rl_sd
  have kt := keepT (o' := .lst (ras.map V.ref)) e (fun xs q => by cases q)
  have kk := keepK (K := K) (o' := .lst (ras.map V.ref)) e (fun C d fs q => by cases q)
  exact ⟨sameUpd h.same (h.new _ (by simp)), (let ⟨dx, q⟩ := h.ob; ⟨dx, (upd_ne ne_p).trans q⟩), (upd_ne ne_tl).trans h.tk, Paired.mapP h.tks fun a t q => kk a t q,
    (let ⟨fas, e1, e2⟩ := h.fa; ⟨fas, (upd_ne (ne_fl)).trans e1, e2.mono kt⟩),
    ((upd_ne (ne_sl)).trans h.si),
    ((upd_ne (ne_ml)).trans h.mo),
    ⟨ras, upd_same, hn⟩,
    (let ⟨kvs, e1, e2⟩ := h.ru; ⟨kvs, (upd_ne (ne_rd)).trans e1, Paired.mapP e2 fun _ _ q => q.mono kt⟩),
    ((upd_ne (ne_pd)).trans h.pr),
    ((upd_ne (ne_sd)).trans h.sp), h.nd, h.new⟩
theorem PA.set_rd (h : PA K H0 H p L tas T st) {kvs kvs' : List (List Key × V)} {rs : List ((Nat × Nat) × Rule)} (e : H L.rd = some (.dT kvs)) (hn : Paired (RuleAt (upd H L.rd (.dT kvs'))) rs kvs') : PA K H0 (upd H L.rd (.dT kvs')) p L tas T { st with rules := rs } := by
  have z := h.nd
  simp only [List.nodup_cons, List.mem_cons, List.not_mem_nil, or_false, not_or] at z
  obtain ⟨⟨n_p_tl, n_p_fl, n_p_sl, n_p_ml, n_p_rl, n_p_rd, n_p_pd, n_p_sd⟩, ⟨n_tl_fl, n_tl_sl, n_tl_ml, n_tl_rl, n_tl_rd, n_tl_pd, n_tl_sd⟩, ⟨n_fl_sl, n_fl_ml, n_fl_rl, n_fl_rd, n_fl_pd, n_fl_sd⟩, ⟨n_sl_ml, n_sl_rl, n_sl_rd, n_sl_pd, n_sl_sd⟩, ⟨n_ml_rl, n_ml_rd, n_ml_pd, n_ml_sd⟩, ⟨n_rl_rd, n_rl_pd, n_rl_sd⟩, ⟨n_rd_pd, n_rd_sd⟩, n_pd_sd, _⟩ := z
  have ne_p : p ≠ L.rd := n_p_rd
  have ne_tl : L.tl ≠ L.rd := n_tl_rd
  have ne_fl : L.fl ≠ L.rd := n_fl_rd
  have ne_sl : L.sl ≠ L.rd := n_sl_rd
  have ne_ml : L.ml ≠ L.rd := n_ml_rd
  have ne_rl : L.rl ≠ L.rd := n_rl_rd
  have ne_pd : L.pd ≠ L.rd := Ne.symm n_rd_pd
  have ne_sd : L.sd ≠ L.rd := Ne.symm n_rd_sd
  have kt := keepT (o' := .dT kvs') e (fun xs q => by cases q)
  have kk := keepK (K := K) (o' := .dT kvs') e (fun C d fs q => by cases q)
  exact ⟨sameUpd h.same (h.new _ (by simp)), (let ⟨dx, q⟩ := h.ob; ⟨dx, (upd_ne ne_p).trans q⟩), (upd_ne ne_tl).trans h.tk, Paired.mapP h.tks fun a t q => kk a t q,
    (let ⟨fas, e1, e2⟩ := h.fa; ⟨fas, (upd_ne (ne_fl)).trans e1, e2.mono kt⟩),
    ((upd_ne (ne_sl)).trans h.si),
    ((upd_ne (ne_ml)).trans h.mo),
    (let ⟨ras, e1, e2⟩ := h.ro; ⟨ras, (upd_ne (ne_rl)).trans e1, Paired.mapP e2 fun _ _ q => kt _ _ q⟩),
    ⟨kvs', upd_same, hn⟩,
    ((upd_ne (ne_pd)).trans h.pr),
    ((upd_ne (ne_sd)).trans h.sp), h.nd, h.new⟩
theorem PA.set_pd (h : PA K H0 H p L tas T st) {kvs : List (List Key × V)} {ps : List (Cs × Cs)} (e : H L.pd = some (.dT kvs)) (hn : True) : PA K H0 (upd H L.pd (.dT (ps.map pairK))) p L tas T { st with pairs := ps } := by
  have z := h.nd
  simp only [List.nodup_cons, List.mem_cons, List.not_mem_nil, or_false, not_or] at z
  obtain ⟨⟨n_p_tl, n_p_fl, n_p_sl, n_p_ml, n_p_rl, n_p_rd, n_p_pd, n_p_sd⟩, ⟨n_tl_fl, n_tl_sl, n_tl_ml, n_tl_rl, n_tl_rd, n_tl_pd, n_tl_sd⟩, ⟨n_fl_sl, n_fl_ml, n_fl_rl, n_fl_rd, n_fl_pd, n_fl_sd⟩, ⟨n_sl_ml, n_sl_rl, n_sl_rd, n_sl_pd, n_sl_sd⟩, ⟨n_ml_rl, n_ml_rd, n_ml_pd, n_ml_sd⟩, ⟨n_rl_rd, n_rl_pd, n_rl_sd⟩, ⟨n_rd_pd, n_rd_sd⟩, n_pd_sd, _⟩ := z
  have ne_p : p ≠ L.pd := n_p_pd
  have ne_tl : L.tl ≠ L.pd := n_tl_pd
  have ne_fl : L.fl ≠ L.pd := n_fl_pd
  have ne_sl : L.sl ≠ L.pd := n_sl_pd
  have ne_ml : L.ml ≠ L.pd := n_ml_pd
  have ne_rl : L.rl ≠ L.pd := n_rl_pd
  have ne_rd : L.rd ≠ L.pd := n_rd_pd
  have ne_sd : L.sd ≠ L.pd := Ne.symm n_pd_sd
  have kt := keepT (o' := .dT (ps.map pairK)) e (fun xs q => by cases q)
  have kk := keepK (K := K) (o' := .dT (ps.map pairK)) e (fun C d fs q => by cases q)
  exact ⟨sameUpd h.same (h.new _ (by simp)), (let ⟨dx, q⟩ := h.ob; ⟨dx, (upd_ne ne_p).trans q⟩), (upd_ne ne_tl).trans h.tk, Paired.mapP h.tks fun a t q => kk a t q,
    (let ⟨fas, e1, e2⟩ := h.fa; ⟨fas, (upd_ne (ne_fl)).trans e1, e2.mono kt⟩),
    ((upd_ne (ne_sl)).trans h.si),
    ((upd_ne (ne_ml)).trans h.mo),
    (let ⟨ras, e1, e2⟩ := h.ro; ⟨ras, (upd_ne (ne_rl)).trans e1, Paired.mapP e2 fun _ _ q => kt _ _ q⟩),
    (let ⟨kvs, e1, e2⟩ := h.ru; ⟨kvs, (upd_ne (ne_rd)).trans e1, Paired.mapP e2 fun _ _ q => q.mono kt⟩),
    upd_same,
    ((upd_ne (ne_sd)).trans h.sp), h.nd, h.new⟩
theorem PA.set_sd (h : PA K H0 H p L tas T st) {kvs : List (Key × V)} {ps : List (Nat × Nat)} (e : H L.sd = some (.dK kvs)) (hn : True) : PA K H0 (upd H L.sd (.dK (ps.map spotK))) p L tas T { st with spots := ps } := by
  have z := h.nd
  simp only [List.nodup_cons, List.mem_cons, List.not_mem_nil, or_false, not_or] at z
  obtain ⟨⟨n_p_tl, n_p_fl, n_p_sl, n_p_ml, n_p_rl, n_p_rd, n_p_pd, n_p_sd⟩, ⟨n_tl_fl, n_tl_sl, n_tl_ml, n_tl_rl, n_tl_rd, n_tl_pd, n_tl_sd⟩, ⟨n_fl_sl, n_fl_ml, n_fl_rl, n_fl_rd, n_fl_pd, n_fl_sd⟩, ⟨n_sl_ml, n_sl_rl, n_sl_rd, n_sl_pd, n_sl_sd⟩, ⟨n_ml_rl, n_ml_rd, n_ml_pd, n_ml_sd⟩, ⟨n_rl_rd, n_rl_pd, n_rl_sd⟩, ⟨n_rd_pd, n_rd_sd⟩, n_pd_sd, _⟩ := z
  have ne_p : p ≠ L.sd := n_p_sd
  have ne_tl : L.tl ≠ L.sd := n_tl_sd
  have ne_fl : L.fl ≠ L.sd := n_fl_sd
  have ne_sl : L.sl ≠ L.sd := n_sl_sd
  have ne_ml : L.ml ≠ L.sd := n_ml_sd
  have ne_rl : L.rl ≠ L.sd := n_rl_sd
  have ne_rd : L.rd ≠ L.sd := n_rd_sd
  have ne_pd : L.pd ≠ L.sd := n_pd_sd
  have kt := keepT (o' := .dK (ps.map spotK)) e (fun xs q => by cases q)
  have kk := keepK (K := K) (o' := .dK (ps.map spotK)) e (fun C d fs q => by cases q)
  exact ⟨sameUpd h.same (h.new _ (by simp)), (let ⟨dx, q⟩ := h.ob; ⟨dx, (upd_ne ne_p).trans q⟩), (upd_ne ne_tl).trans h.tk, Paired.mapP h.tks fun a t q => kk a t q,
    (let ⟨fas, e1, e2⟩ := h.fa; ⟨fas, (upd_ne (ne_fl)).trans e1, e2.mono kt⟩),
    ((upd_ne (ne_sl)).trans h.si),
    ((upd_ne (ne_ml)).trans h.mo),
    (let ⟨ras, e1, e2⟩ := h.ro; ⟨ras, (upd_ne (ne_rl)).trans e1, Paired.mapP e2 fun _ _ q => kt _ _ q⟩),
    (let ⟨kvs, e1, e2⟩ := h.ru; ⟨kvs, (upd_ne (ne_rd)).trans e1, Paired.mapP e2 fun _ _ q => q.mono kt⟩),
    ((upd_ne (ne_pd)).trans h.pr),
    upd_same, h.nd, h.new⟩
end
end Sw

end

section
set_option maxRecDepth 100000
set_option maxHeartbeats 4000000
/-! the parser's small methods -/
namespace Sw
open PySem PySem.Spec PyProof.Rows L2 SwA
/-- a method of a class -/
structure MeT (K : PySem.W.Frag) (C m q : Str) (st : Stmt) : Prop where
  d : FD K (C, some m) m q st
  m : Meth K (He.ga K C) m (He.ma K (He.ga K C) m)
structure ParT (K : PySem.W.Frag) (mg : Str → Option Value) : Prop where
  l : LexT K mg
  par : MkC K mg "Parser" parN
  ne : He.ga K "Parser" ≠ He.ga K "Token"
  int : mg "int" = none
  tuple : mg "tuple" = none
  range : mg "range" = none
  init : FD K ("Parser", some "__init__") "__init__" "Parser.__init__" s_Parser_init
  peek : MeT K "Parser" "peek" "Parser.peek" s_Parser_peek
  fail : MeT K "Parser" "fail" "Parser.fail" s_Parser_fail
  found : MeT K "Parser" "found" "Parser.found" s_Parser_found
  take : MeT K "Parser" "take" "Parser.take" s_Parser_take
  take_word : MeT K "Parser" "take_word" "Parser.take_word" s_Parser_take_word
  take_keyword : MeT K "Parser" "take_keyword" "Parser.take_keyword" s_Parser_take_keyword
  parse_names : MeT K "Parser" "parse_names" "Parser.parse_names" s_Parser_parse_names
  number_of : MeT K "Parser" "number_of" "Parser.number_of" s_Parser_number_of
  tile_of : MeT K "Parser" "tile_of" "Parser.tile_of" s_Parser_tile_of
  parse_robot : MeT K "Parser" "parse_robot" "Parser.parse_robot" s_Parser_parse_robot
  parse_put : MeT K "Parser" "parse_put" "Parser.parse_put" s_Parser_parse_put
  parse_rule : MeT K "Parser" "parse_rule" "Parser.parse_rule" s_Parser_parse_rule
  parse_plan : MeT K "Parser" "parse_plan" "Parser.parse_plan" s_Parser_parse_plan
  MAX_TILES : ∃ t, mg "MAX_TILES" = some (.int 16 t)
  MAX_SIGNS : ∃ t, mg "MAX_SIGNS" = some (.int 4 t)
  MAX_MOODS : ∃ t, mg "MAX_MOODS" = some (.int 6 t)
  MAX_ROBOTS : ∃ t, mg "MAX_ROBOTS" = some (.int 3 t)
  WAYS : mg nWays = some (.ref (He.ga K nWays))
  ways : ∀ H : Hp, SqT K H (He.ga K nWays) (ways.map fun w => V.str (sx w))
  MOVES : mg "MOVES" = some (.ref (He.ga K "MOVES"))
  moves : ∀ H : Hp, SqT K H (He.ga K "MOVES") (moves.map fun w => V.str (sx w))
/-- a token of the list -/
def TI (tas : List Addr) (T : List Tk) (a : Addr) (t : Tk) : Prop := ∃ i : Nat, tas[i]? = some a ∧ T[i]? = some t
theorem Paired_get {α β : Type} {F : α → β → Prop} : ∀ {l : List α} {m : List β} {i : Nat} {a : α} {b : β}, Paired F l m → l[i]? = some a → m[i]? = some b → F a b
  | _, _, i, _, _, .nil, h, _ => by simp at h
  | _, _, 0, _, _, .cons x r, h, h2 => by simp at h h2; subst h; subst h2; exact x
  | _, _, i + 1, _, _, .cons x r, h, h2 => Paired_get r (by simpa using h) (by simpa using h2)
section
variable {K : PySem.W.Frag} {H0 H H' : Hp} {p : Addr} {L : PLoc} {tas : List Addr} {T : List Tk} {st : PSt}
theorem PA.get (h : PA K H0 H p L tas T st) {a : Addr} {t : Tk} (q : TI tas T a t) : TokAt K H a t := let ⟨_, e1, e2⟩ := q; Paired_get h.tks e1 e2
theorem PA.here (h : PA K H0 H p L tas T st) (hi : st.at_ < T.length) : ∃ a, tas[st.at_]? = some a ∧ TI tas T a (peek T st) := by
  have hl := h.tks.length
  have h2 : st.at_ < tas.length := by omega
  refine ⟨tas[st.at_], List.getElem?_eq_getElem h2, st.at_, List.getElem?_eq_getElem h2, ?_⟩
  unfold peek
  rw [List.getD_eq_getElem?_getD, List.getElem?_eq_getElem hi]
  rfl
end
theorem lp_tokens {L : PLoc} {n : Nat} : (parF L n).lookup ("tokens" : Str) = some (V.ref L.tl) := by kernel_rfl
theorem lp_at {L : PLoc} {n : Nat} : (parF L n).lookup ("at" : Str) = some (V.int n) := by kernel_rfl
theorem lp_faults {L : PLoc} {n : Nat} : (parF L n).lookup ("faults" : Str) = some (V.ref L.fl) := by kernel_rfl
theorem lp_signs {L : PLoc} {n : Nat} : (parF L n).lookup ("signs" : Str) = some (V.ref L.sl) := by kernel_rfl
theorem lp_moods {L : PLoc} {n : Nat} : (parF L n).lookup ("moods" : Str) = some (V.ref L.ml) := by kernel_rfl
theorem lp_robots {L : PLoc} {n : Nat} : (parF L n).lookup ("robots" : Str) = some (V.ref L.rl) := by kernel_rfl
theorem lp_rules {L : PLoc} {n : Nat} : (parF L n).lookup ("rules" : Str) = some (V.ref L.rd) := by kernel_rfl
theorem lp_pairs {L : PLoc} {n : Nat} : (parF L n).lookup ("pairs" : Str) = some (V.ref L.pd) := by kernel_rfl
theorem lp_spots {L : PLoc} {n : Nat} : (parF L n).lookup ("spots" : Str) = some (V.ref L.sd) := by kernel_rfl
theorem lp_no_peek {L : PLoc} {n : Nat} : (parF L n).lookup ("peek" : Str) = none := by kernel_rfl
theorem lp_no_fail {L : PLoc} {n : Nat} : (parF L n).lookup ("fail" : Str) = none := by kernel_rfl
theorem lp_no_found {L : PLoc} {n : Nat} : (parF L n).lookup ("found" : Str) = none := by kernel_rfl
theorem lp_no_take {L : PLoc} {n : Nat} : (parF L n).lookup ("take" : Str) = none := by kernel_rfl
theorem lp_no_take_word {L : PLoc} {n : Nat} : (parF L n).lookup ("take_word" : Str) = none := by kernel_rfl
theorem lp_no_take_keyword {L : PLoc} {n : Nat} : (parF L n).lookup ("take_keyword" : Str) = none := by kernel_rfl
theorem put_at {L : PLoc} {n : Nat} {v : Int} (m : Nat) (e : v = m) : putF "at" (.int v) (parF L n) = parF L m := by subst e; kernel_rfl
section
variable {P : Program} {w : World} {K : PySem.W.Frag} {mg : Str → Option Value} {base : Heap}
/-! ### peek, fail -/
def spPeek (K : PySem.W.Frag) : Sp := fun vs H Q _ => ∃ (H0 : Hp) (p : Addr) (L : PLoc) (tas : List Addr) (T : List Tk) (st : PSt), vs = [.ref p] ∧ PA K H0 H p L tas T st ∧ st.at_ < T.length ∧
  ∀ a, TI tas T a (peek T st) → Q (.ref a) H
theorem sc_peek : FnScope ["self"] ["self"] (defScope s_Parser_peek) := ⟨rfl, rfl, rfl, by decide +kernel, rfl, by decide +kernel, by decide +kernel⟩
theorem ok_peek (T : ParT K mg) : FnE P w K mg base CX0 1 ("Parser", some "peek") ["self"] (spPeek K) := by
  obtain ⟨fd, F⟩ := T.peek.d
  refine ⟨fd, F.ok sc_peek (fun vs H Q E h => ?_) (fun cdv A outer s H vs Q E hr h => ?_), F.bindsN fun _ _ _ _ _ _ us hl => match us, hl with | [_], _ => rfl, F.kp⟩
  · obtain ⟨H0, p, L, tas, Ts, st, rfl, _⟩ := h
    rfl
  · obtain ⟨H0, p, L, tas, Ts, st, rfl, hP, hi, k⟩ := h
    refine ⟨_, PSs.nox (pss_one (ps_ret (pe_ix ix_list (pe_fld (pv 0) rfl) (pe_fld (pv 0) rfl) (fun _ _ => rfl)))), ?_⟩
    obtain ⟨dx, ob⟩ := hP.ob
    obtain ⟨a, ha, hta⟩ := hP.here hi
    exact ⟨_, rfl, p, _, dx, _, _, rfl, ob, T.par.c, T.par.n _ (by simp), lp_tokens, _, rfl, p, _, dx, _, _, rfl, ob, T.par.c, T.par.n _ (by simp), lp_at, L.tl, _, _, _, rfl, rfl, SqL.of hP.tk, atI_nat (by rw [List.getElem?_map, ha]; rfl), k a hta⟩
def spFail (K : PySem.W.Frag) : Sp := fun vs H _ E => ∃ (H0 : Hp) (p : Addr) (L : PLoc) (tas : List Addr) (T : List Tk) (st : PSt), vs = [.ref p] ∧ PA K H0 H p L tas T st ∧ st.at_ < T.length ∧
  Syn K H0 E (failAt T st).1 (failAt T st).2
theorem sc_fail : FnScope ["self", "token"] ["self"] (defScope s_Parser_fail) := ⟨rfl, rfl, rfl, by decide +kernel, rfl, by decide +kernel, by decide +kernel⟩
theorem ok_fail (T : ParT K mg) : FnE P w K mg base (L2.CX P w) 3 ("Parser", some "fail") ["self"] (spFail K) := by
  obtain ⟨fd, F⟩ := T.fail.d
  obtain ⟨fdP, GP, bP, kP⟩ := ok_peek (P := P) (w := w) (base := base) T
  obtain ⟨fdS, GS, bS, kS⟩ := ok_syn (P := P) (w := w) (base := base) T.l.e
  refine ⟨fd, F.ok sc_fail (fun vs H Q E h => ?_) (fun cdv A outer s H vs Q E hr h => ?_), F.bindsN fun _ _ _ _ _ _ us hl => match us, hl with | [_], _ => rfl, F.kp⟩
  · obtain ⟨H0, p, L, tas, Ts, st, rfl, _⟩ := h
    rfl
  · obtain ⟨H0, p, L, tas, Ts, st, rfl, hP, hi, k⟩ := h
    have hr1 : Room 1 _ := hr.mono (by decide)
    refine ⟨_, (pss_cons (ps_set (i := 1) sc_fail.nd rfl (.inl rfl) (pe_meth0 (pv 0) T.par.c T.peek.m GP hr1 bP .nil pass0))
      (pss_one (ps_raise rfl (takes_of rfl rfl rfl rfl) (pmk_oex T.l.e.syn.o T.l.e.syn.i T.l.e.syn.t GS hr bS .nil pass0 rfl T.l.e.syn.g (pa_cons (pe_fld (pv 1) rfl) (pa_cons (pe_fld (pv 1) rfl) pa_nil)))))), ?_⟩
    obtain ⟨dx, ob⟩ := hP.ob
    refine ⟨_, rfl, p, dx, _, rfl, ob, lp_no_peek, H0, p, L, tas, Ts, st, rfl, hP, hi, fun a hta => ?_⟩
    obtain ⟨dt, ht⟩ := hP.get hta
    refine ⟨_, rfl, a, _, dt, _, _, rfl, ht, T.l.tok.c, T.l.tok.n _ (by simp), lk_line, _, rfl, a, _, dt, _, _, rfl, ht, T.l.tok.c, T.l.tok.n _ (by simp), lk_col, fault_at rfl (by simp) fun d H2 _ sm hx => ?_⟩
    exact k d H2 (hP.same.trans sm) hx
end
end Sw

end

section
set_option maxRecDepth 100000
set_option maxHeartbeats 4000000
/-! the parser's small methods, further -/
namespace Sw
open PySem PySem.Spec PyProof.Rows L2 SwA
/-- what a method's end asks: a value and the parser's next state, or a SyntaxFault -/
structure Res {α : Type} (K : PySem.W.Frag) (H0 : Hp) (p : Addr) (L : PLoc) (tas : List Addr) (T : List Tk) (r : PR α) (Q : VK) (E : XK) (ret : α → V → Prop) : Prop where
  ok : ∀ x s1, r = .ok (x, s1) → ∀ (v : V) (H' : Hp), ret x v → PA K H0 H' p L tas T s1 → Q v H'
  er : ∀ l c, r = .error (l, c) → Syn K H0 E l c
def retT (tas : List Addr) (T : List Tk) (t : Tk) (v : V) : Prop := ∃ a, v = .ref a ∧ TI tas T a t
def retU (_ : Unit) (v : V) : Prop := v = .non
def retN (n : Nat) (v : V) : Prop := v = .int n
theorem kd_inj : ∀ {a b : Kd}, a.str = b.str → a = b := by
  intro a b
  cases a <;> cases b <;> first | exact fun _ => rfl | exact fun h => absurd h (by decide +kernel)
section
variable {P : Program} {w : World} {K : PySem.W.Frag} {mg : Str → Option Value} {base : Heap}
/-! ### found -/
def spFound (K : PySem.W.Frag) : Sp := fun vs H Q _ => ∃ (H0 : Hp) (p : Addr) (L : PLoc) (tas : List Addr) (T : List Tk) (st : PSt) (reason : Cs) (a : Addr) (t : Tk), vs = [.ref p, sV reason, .ref a] ∧ PA K H0 H p L tas T st ∧
  TI tas T a t ∧ st.faults.length ≤ 1000000 ∧ ∀ H', PA K H0 H' p L tas T (st.found reason t) → Q .non H'
theorem sc_found : FnScope ["self", "reason", "token"] ["self", "reason", "token"] (defScope s_Parser_found) := ⟨rfl, rfl, rfl, by decide +kernel, rfl, by decide +kernel, by decide +kernel⟩
theorem ok_found (T : ParT K mg) : FnE P w K mg base CX0 1 ("Parser", some "found") ["self", "reason", "token"] (spFound K) := by
  obtain ⟨fd, F⟩ := T.found.d
  refine ⟨fd, F.ok sc_found (fun vs H Q E h => ?_) (fun cdv A outer s H vs Q E hr h => ?_), F.bindsN fun _ _ _ _ _ _ us hl => match us, hl with | [_, _, _], _ => rfl, F.kp⟩
  · obtain ⟨H0, p, L, tas, Ts, st, reason, a, t, rfl, _⟩ := h
    rfl
  · obtain ⟨H0, p, L, tas, Ts, st, reason, a, t, rfl, hP, hta, hz, k⟩ := h
    refine ⟨_, PSs.nox (pss_one (ps_expr (pe_bm PySem.F.plainAttrs_list PySem.F.slot_list_append PySem.F.type_list_append mt_append (pe_fld (pv 0) rfl)
      (pa_cons (pe_tup (pa_cons (pe_fld (pv 2) rfl) (pa_cons (pe_fld (pv 2) rfl) (pa_cons (pe_callB call_len_seq (by rfl) T.l.len boot_len (pa_cons (pe_fld (pv 0) rfl) pa_nil)) (pa_cons (pv 1) pa_nil))))) pa_nil)))), ?_⟩
    obtain ⟨dx, ob⟩ := hP.ob
    obtain ⟨dt, ht⟩ := hP.get hta
    obtain ⟨fas, hf, hfs⟩ := hP.fa
    refine ⟨_, rfl, p, _, dx, _, _, rfl, ob, T.par.c, T.par.n _ (by simp), lp_faults, .inl ⟨rfl, _, SqL.of hf⟩, ?_⟩
    refine ⟨_, rfl, a, _, dt, _, _, rfl, ht, T.l.tok.c, T.l.tok.n _ (by simp), lk_line, _, rfl, a, _, dt, _, _, rfl, ht, T.l.tok.c, T.l.tok.n _ (by simp), lk_col, _, rfl, p, _, dx, _, _, rfl, ob, T.par.c, T.par.n _ (by simp), lp_faults, L.fl, _, rfl, .inl (SqL.of hf), _, rfl,
      (by show 4 ≤ sizeLine; decide), fun tu ntu => ?_⟩
    have nf : L.fl ≠ tu := ne_of_none hf ntu
    have hlen : (fas.map V.ref).length < sizeLine := by
      rw [List.length_map, hfs.len, sizeLine_eq]
      omega
    refine ⟨L.fl, fas.map V.ref, .ref tu, rfl, rfl, by rw [upd_ne nf]; exact hf, hlen, ?_⟩
    have s1 : Same H (upd H tu (.tup [.int t.line, .int t.col, .int ((fas.map V.ref).length : Nat), sV reason])) := sameUpd (Same.refl H) ntu
    have hP1 := hP.mono s1
    obtain ⟨fas1, hf1, hfs1⟩ := hP1.fa
    have e1 : (fas.map V.ref ++ [V.ref tu]) = (fas ++ [tu]).map V.ref := by rw [List.map_append]; rfl
    rw [e1]
    refine k _ (hP1.set_fl (s1 _ _ hf) ?_)
    have z : fas.length = st.faults.length := hfs.len
    refine FaultsAt.snoc (hfs.mono fun b xs q => ?_) ?_
    · have q1 := s1 _ _ q
      rw [upd_ne (ne_of q1 (s1 _ _ hf) (by intro z; cases z))]
      exact q1
    · rw [upd_ne (Ne.symm nf), upd_same, List.length_map, z, Nat.zero_add]
/-! ### take, take_word, take_keyword -/
def spTake (K : PySem.W.Frag) : Sp := fun vs H Q E => ∃ (H0 : Hp) (p : Addr) (L : PLoc) (tas : List Addr) (T : List Tk) (st : PSt) (kd : Kd), vs = [.ref p, .str kd.str] ∧ PA K H0 H p L tas T st ∧ st.at_ < T.length ∧
  Res K H0 p L tas T (take T kd st) Q E (retT tas T)
def spTakeWord (K : PySem.W.Frag) : Sp := fun vs H Q E => ∃ (H0 : Hp) (p : Addr) (L : PLoc) (tas : List Addr) (T : List Tk) (st : PSt) (wd : Cs), vs = [.ref p, sV wd] ∧ PA K H0 H p L tas T st ∧ st.at_ < T.length ∧
  Res K H0 p L tas T (takeWord T wd st) Q E (retT tas T)
def spTakeKw (K : PySem.W.Frag) : Sp := fun vs H Q E => ∃ (H0 : Hp) (p : Addr) (L : PLoc) (tas : List Addr) (T : List Tk) (st : PSt) (b : Addr) (ws : List Cs), vs = [.ref p, .ref b] ∧ PA K H0 H p L tas T st ∧ st.at_ < T.length ∧
  SqT K H b (ws.map fun w => V.str (sx w)) ∧ Res K H0 p L tas T (takeKw T ws st) Q E (retT tas T)
theorem sc_take : FnScope ["self", "kind", "token"] ["self", "kind"] (defScope s_Parser_take) := ⟨rfl, rfl, rfl, by decide +kernel, rfl, by decide +kernel, by decide +kernel⟩
theorem sc_take_word : FnScope ["self", "word", "token"] ["self", "word"] (defScope s_Parser_take_word) := ⟨rfl, rfl, rfl, by decide +kernel, rfl, by decide +kernel, by decide +kernel⟩
theorem sc_take_keyword : FnScope ["self", "words", "token"] ["self", "words"] (defScope s_Parser_take_keyword) := ⟨rfl, rfl, rfl, by decide +kernel, rfl, by decide +kernel, by decide +kernel⟩
theorem ok_take (T : ParT K mg) : FnE P w K mg base (L2.CX P w) 4 ("Parser", some "take") ["self", "kind"] (spTake K) := by
  obtain ⟨fd, F⟩ := T.take.d
  obtain ⟨fdP, GP, bP, kP⟩ := ok_peek (P := P) (w := w) (base := base) T
  obtain ⟨fdS, GS, bS, kS⟩ := ok_fail (P := P) (w := w) (base := base) T
  refine ⟨fd, F.ok sc_take (fun vs H Q E h => ?_) (fun cdv A outer s H vs Q E hr h => ?_), F.bindsN fun _ _ _ _ _ _ us hl => match us, hl with | [_, _], _ => rfl, F.kp⟩
  · obtain ⟨H0, p, L, tas, Ts, st, kd, rfl, _⟩ := h
    rfl
  · obtain ⟨H0, p, L, tas, Ts, st, kd, rfl, hP, hi, R⟩ := h
    have hr1 : Room 1 _ := hr.mono (by decide)
    refine ⟨_, (pss_cons (ps_set (i := 2) sc_take.nd rfl (.inl rfl) (pe_meth0 (pv 0) T.par.c T.peek.m GP hr1 bP .nil pass0))
      (pss_cons (ps_if (pt_cmpR op_ne (pe_fld (pv 2) rfl) (pv 1) (nomark _)) (pss_one (ps_expr (pe_meth0 (pv 0) T.par.c T.fail.m GS hr bS .nil (passes_call (takes_of rfl rfl rfl rfl) (fun _ _ _ _ h => h))))) pss_nil)
      (pss_cons (ps_fldaug (pv 0) pe_int in_add) (pss_one (ps_ret (pv 2)))))), ?_⟩
    obtain ⟨dx, ob⟩ := hP.ob
    refine ⟨_, rfl, p, dx, _, rfl, ob, lp_no_peek, H0, p, L, tas, Ts, st, rfl, hP, hi, fun a hta => ?_⟩
    obtain ⟨dt, ht⟩ := hP.get hta
    refine ⟨_, rfl, a, _, dt, _, _, rfl, ht, T.l.tok.c, T.l.tok.n _ (by simp), lk_kind, _, rfl, rfl, _, rfl, ?_⟩
    refine ite2 (fun h => ?_) (fun h => ?_)
    · have h : (peek Ts st).kind ≠ kd := fun q => by
        rw [decide_eq_true (by rw [q])] at h
        exact absurd h (by decide)
      refine ⟨_, rfl, p, dx, _, rfl, ob, lp_no_fail, H0, p, L, tas, Ts, st, rfl, hP, hi, R.er _ _ ?_⟩
      unfold take
      rw [if_neg h]
    · have h : (peek Ts st).kind = kd := Decidable.byContradiction fun q => h (by
        rw [decide_eq_false fun z => q (kd_inj (V.str.inj z))]
        rfl)
      refine ⟨_, rfl, p, _, dx, _, _, rfl, ob, T.par.c, T.par.n _ (by simp), lp_at, _, _, rfl, rfl, dx, _, ob, (by show 9 < 1000; decide), ?_⟩
      rw [put_at (st.at_ + 1) (by simp)]
      refine ⟨_, rfl, R.ok _ _ (by unfold take; rw [if_pos h]; rfl) _ _ ⟨a, rfl, hta⟩ (hP.setAt T.ne ob)⟩
theorem ok_take_word (T : ParT K mg) : FnE P w K mg base (L2.CX P w) 4 ("Parser", some "take_word") ["self", "word"] (spTakeWord K) := by
  obtain ⟨fd, F⟩ := T.take_word.d
  obtain ⟨fdP, GP, bP, kP⟩ := ok_peek (P := P) (w := w) (base := base) T
  obtain ⟨fdS, GS, bS, kS⟩ := ok_fail (P := P) (w := w) (base := base) T
  refine ⟨fd, F.ok sc_take_word (fun vs H Q E h => ?_) (fun cdv A outer s H vs Q E hr h => ?_), F.bindsN fun _ _ _ _ _ _ us hl => match us, hl with | [_, _], _ => rfl, F.kp⟩
  · obtain ⟨H0, p, L, tas, Ts, st, kd, rfl, _⟩ := h
    rfl
  · obtain ⟨H0, p, L, tas, Ts, st, wd, rfl, hP, hi, R⟩ := h
    have hr1 : Room 1 _ := hr.mono (by decide)
    refine ⟨_, (pss_cons (ps_set (i := 2) sc_take_word.nd rfl (.inl rfl) (pe_meth0 (pv 0) T.par.c T.peek.m GP hr1 bP .nil pass0))
      (pss_cons (ps_if (pt_cmpR op_ne (pe_fld (pv 2) rfl) (pv 1) (nomark _)) (pss_one (ps_expr (pe_meth0 (pv 0) T.par.c T.fail.m GS hr bS .nil (passes_call (takes_of rfl rfl rfl rfl) (fun _ _ _ _ h => h))))) pss_nil)
      (pss_cons (ps_fldaug (pv 0) pe_int in_add) (pss_one (ps_ret (pv 2)))))), ?_⟩
    obtain ⟨dx, ob⟩ := hP.ob
    refine ⟨_, rfl, p, dx, _, rfl, ob, lp_no_peek, H0, p, L, tas, Ts, st, rfl, hP, hi, fun a hta => ?_⟩
    obtain ⟨dt, ht⟩ := hP.get hta
    refine ⟨_, rfl, a, _, dt, _, _, rfl, ht, T.l.tok.c, T.l.tok.n _ (by simp), lk_text, _, rfl, rfl, _, rfl, ?_⟩
    refine ite2 (fun h => ?_) (fun h => ?_)
    · have h : (peek Ts st).text ≠ wd := fun q => by
        rw [decide_eq_true (by rw [q])] at h
        exact absurd h (by decide)
      refine ⟨_, rfl, p, dx, _, rfl, ob, lp_no_fail, H0, p, L, tas, Ts, st, rfl, hP, hi, R.er _ _ ?_⟩
      unfold takeWord
      rw [if_neg h]
    · have h : (peek Ts st).text = wd := Decidable.byContradiction fun q => h (by
        rw [decide_eq_false fun z => q (sx_inj (V.str.inj z))]
        rfl)
      refine ⟨_, rfl, p, _, dx, _, _, rfl, ob, T.par.c, T.par.n _ (by simp), lp_at, _, _, rfl, rfl, dx, _, ob, (by show 9 < 1000; decide), ?_⟩
      rw [put_at (st.at_ + 1) (by simp)]
      refine ⟨_, rfl, R.ok _ _ (by unfold takeWord; rw [if_pos h]; rfl) _ _ ⟨a, rfl, hta⟩ (hP.setAt T.ne ob)⟩
theorem ok_take_keyword (T : ParT K mg) : FnE P w K mg base (L2.CX P w) 4 ("Parser", some "take_keyword") ["self", "words"] (spTakeKw K) := by
  obtain ⟨fd, F⟩ := T.take_keyword.d
  obtain ⟨fdP, GP, bP, kP⟩ := ok_peek (P := P) (w := w) (base := base) T
  obtain ⟨fdS, GS, bS, kS⟩ := ok_fail (P := P) (w := w) (base := base) T
  obtain ⟨t1, mKW⟩ := T.l.KEYWORD
  refine ⟨fd, F.ok sc_take_keyword (fun vs H Q E h => ?_) (fun cdv A outer s H vs Q E hr h => ?_), F.bindsN fun _ _ _ _ _ _ us hl => match us, hl with | [_, _], _ => rfl, F.kp⟩
  · obtain ⟨H0, p, L, tas, Ts, st, b, ws, rfl, _⟩ := h
    rfl
  · obtain ⟨H0, p, L, tas, Ts, st, b, ws, rfl, hP, hi, hb, R⟩ := h
    have hr1 : Room 1 _ := hr.mono (by decide)
    refine ⟨_, (pss_cons (ps_set (i := 2) sc_take_keyword.nd rfl (.inl rfl) (pe_meth0 (pv 0) T.par.c T.peek.m GP hr1 bP .nil pass0))
      (pss_cons (ps_if (PW.pt (pw_or (pt_cmpR op_ne (pe_fld (pv 2) rfl) (pe_glob (v := .str "keyword") rfl mKW ⟨_, rfl⟩) (nomark _)) (pw_or1 (pt_cmpR op_notIn_seq (pe_fld (pv 2) rfl) (pv 1) rfl))))
        (pss_one (ps_expr (pe_meth0 (pv 0) T.par.c T.fail.m GS hr bS .nil (passes_call (takes_of rfl rfl rfl rfl) (fun _ _ _ _ h => h))))) pss_nil)
      (pss_cons (ps_fldaug (pv 0) pe_int in_add) (pss_one (ps_ret (pv 2)))))), ?_⟩
    obtain ⟨dx, ob⟩ := hP.ob
    refine ⟨_, rfl, p, dx, _, rfl, ob, lp_no_peek, H0, p, L, tas, Ts, st, rfl, hP, hi, fun a hta => ?_⟩
    obtain ⟨dt, ht⟩ := hP.get hta
    have bad : ¬ ((peek Ts st).kind = .keyword ∧ (peek Ts st).text ∈ ws) → Syn K H0 E (failAt Ts st).1 (failAt Ts st).2 := fun q => R.er _ _ (by
      unfold takeKw
      rw [if_neg q])
    refine ⟨_, rfl, a, _, dt, _, _, rfl, ht, T.l.tok.c, T.l.tok.n _ (by simp), lk_kind, rfl, _, rfl, ?_⟩
    refine ite2 (fun h => ?_) (fun h => ?_)
    · have h : (peek Ts st).kind ≠ .keyword := fun q => by
        rw [decide_eq_true (by rw [q]; rfl)] at h
        exact absurd h (by decide)
      exact iteT ⟨_, rfl, p, dx, _, rfl, ob, lp_no_fail, H0, p, L, tas, Ts, st, rfl, hP, hi, bad fun q => h q.1⟩
    · have h : (peek Ts st).kind = .keyword := Decidable.byContradiction fun q => h (by
        show (!decide (V.str (peek Ts st).kind.str = V.str Kd.keyword.str)) = true
        rw [decide_eq_false fun z => q (kd_inj (b := .keyword) (V.str.inj z))]
        rfl)
      refine ⟨_, rfl, a, _, dt, _, _, rfl, ht, T.l.tok.c, T.l.tok.n _ (by simp), lk_text, _, rfl, b, _, rfl, .inr hb, rfl, flat_sx ws, _, rfl, ?_⟩
      rw [inV_sx]
      refine ite2 (fun h2 => ?_) (fun h2 => ?_)
      · have h2 : (peek Ts st).text ∉ ws := fun q => by
          rw [decide_eq_true q] at h2
          exact absurd h2 (by decide)
        exact ⟨_, rfl, p, dx, _, rfl, ob, lp_no_fail, H0, p, L, tas, Ts, st, rfl, hP, hi, bad fun q => h2 q.2⟩
      · have h2 : (peek Ts st).text ∈ ws := Decidable.byContradiction fun q => h2 (by
          rw [decide_eq_false q]
          rfl)
        refine ⟨_, rfl, p, _, dx, _, _, rfl, ob, T.par.c, T.par.n _ (by simp), lp_at, _, _, rfl, rfl, dx, _, ob, (by show 9 < 1000; decide), ?_⟩
        rw [put_at (st.at_ + 1) (by simp)]
        refine ⟨_, rfl, R.ok _ _ (by unfold takeKw; rw [if_pos ⟨h, h2⟩]; rfl) _ _ ⟨a, rfl, hta⟩ (hP.setAt T.ne ob)⟩
end
end Sw

end

section
set_option maxRecDepth 100000
set_option maxHeartbeats 4000000
/-! bounds along the mirror of the parser -/
namespace Sw
open PySem
structure GoodT (T : List Tk) : Prop where
  last : ∀ (i : Nat) t, T[i]? = some t → i + 1 = T.length → t.kind = .fin ∧ t.text = []
  ne : T ≠ []
  fin : ∀ (i : Nat) t, T[i]? = some t → t.kind = .fin → i + 1 = T.length
  num : ∀ t ∈ T, t.kind = .number → (1 ≤ t.text.length ∧ t.text.length ≤ 2) ∧ t.text.all isD = true
  len : T.length ≤ 100000
structure Bd (T : List Tk) (st : PSt) : Prop where
  at_ : st.at_ < T.length
  fa : st.faults.length ≤ 2 * st.at_
  si : st.signs.length ≤ 4
  mo : st.moods.length ≤ 6
  ro : st.robots.length ≤ st.at_
  ru : st.rules.length ≤ st.at_
  pr : st.pairs.length ≤ st.at_
  sp : st.spots.length ≤ st.at_
section
variable {T : List Tk} {st s1 : PSt}
theorem peek_get (h : st.at_ < T.length) : T[st.at_]? = some (peek T st) := by
  unfold peek
  rw [List.getD_eq_getElem?_getD, List.getElem?_eq_getElem h]
  rfl
theorem GoodT.more (G : GoodT T) (h : st.at_ < T.length) (hk : (peek T st).kind ≠ .fin) : st.at_ + 1 < T.length := by
  refine Nat.lt_of_le_of_ne h fun e => hk ?_
  exact (G.last _ _ (peek_get h) e).1
theorem take_ok {k : Kd} {t : Tk} (h : take T k st = .ok (t, s1)) : s1 = st.next ∧ t = peek T st ∧ t.kind = k := by
  unfold take at h
  split at h
  · rename_i q
    cases h
    exact ⟨rfl, rfl, q⟩
  · cases h
theorem takeWord_ok {wd : Cs} {t : Tk} (h : takeWord T wd st = .ok (t, s1)) : s1 = st.next ∧ t = peek T st ∧ t.text = wd := by
  unfold takeWord at h
  split at h
  · rename_i q
    cases h
    exact ⟨rfl, rfl, q⟩
  · cases h
theorem takeKw_ok {ws : List Cs} {t : Tk} (h : takeKw T ws st = .ok (t, s1)) : s1 = st.next ∧ t = peek T st ∧ t.kind = .keyword ∧ t.text ∈ ws := by
  unfold takeKw at h
  split at h
  · rename_i q
    cases h
    exact ⟨rfl, rfl, q.1, q.2⟩
  · cases h
theorem Bd.next (B : Bd T st) (h : st.at_ + 1 < T.length) : Bd T st.next := ⟨h, by have := B.fa; show st.faults.length ≤ 2 * (st.at_ + 1); omega, B.si, B.mo, by have := B.ro; show st.robots.length ≤ st.at_ + 1; omega, by have := B.ru; show st.rules.length ≤ st.at_ + 1; omega,
  by have := B.pr; show st.pairs.length ≤ st.at_ + 1; omega, by have := B.sp; show st.spots.length ≤ st.at_ + 1; omega⟩
/-- with room for one more fault -/
theorem Bd.next1 (B : Bd T st) (h : st.at_ + 1 < T.length) : Bd T st.next ∧ st.next.faults.length + 2 ≤ 2 * st.next.at_ := ⟨B.next h, by have := B.fa; show st.faults.length + 2 ≤ 2 * (st.at_ + 1); omega⟩
theorem Bd.found (B : Bd T st) {r : Cs} {t : Tk} (h : st.faults.length + 1 ≤ 2 * st.at_) : Bd T (st.found r t) := ⟨B.at_, by show (st.faults ++ [_]).length ≤ 2 * st.at_; simp; omega, B.si, B.mo, B.ro, B.ru, B.pr, B.sp⟩
theorem bd_take (G : GoodT T) (B : Bd T st) {k : Kd} {t : Tk} (h : take T k st = .ok (t, s1)) (hk : k ≠ .fin) : Bd T s1 ∧ s1.faults.length + 2 ≤ 2 * s1.at_ ∧ s1 = st.next ∧ t ∈ T := by
  obtain ⟨rfl, rfl, e⟩ := take_ok h
  have z := B.next1 (G.more B.at_ (by rw [e]; exact hk))
  exact ⟨z.1, z.2, rfl, List.mem_of_getElem? (peek_get B.at_)⟩
theorem bd_word (G : GoodT T) (B : Bd T st) {wd : Cs} {t : Tk} (h : takeWord T wd st = .ok (t, s1)) (hk : wd ≠ []) : Bd T s1 ∧ s1.faults.length + 2 ≤ 2 * s1.at_ ∧ s1 = st.next := by
  obtain ⟨rfl, rfl, e⟩ := takeWord_ok h
  have z := B.next1 (G.more B.at_ fun q => hk (by
    rw [← e]
    exact (G.last _ _ (peek_get B.at_) (G.fin _ _ (peek_get B.at_) q)).2))
  exact ⟨z.1, z.2, rfl⟩
theorem bd_kw (G : GoodT T) (B : Bd T st) {ws : List Cs} {t : Tk} (h : takeKw T ws st = .ok (t, s1)) : Bd T s1 ∧ s1.faults.length + 2 ≤ 2 * s1.at_ ∧ s1 = st.next := by
  obtain ⟨rfl, rfl, e, _⟩ := takeKw_ok h
  have z := B.next1 (G.more B.at_ (by rw [e]; decide))
  exact ⟨z.1, z.2, rfl⟩
theorem bd_number (B : Bd T st) {names : List Cs} {t : Tk} (h : st.faults.length + 1 ≤ 2 * st.at_) : Bd T (numberOf names t st).2 ∧ (numberOf names t st).2.at_ = st.at_ ∧ (numberOf names t st).2.faults.length ≤ st.faults.length + 1 := by
  unfold numberOf
  split
  · exact ⟨B, rfl, Nat.le_succ _⟩
  · exact ⟨B.found h, rfl, by show (st.faults ++ [_]).length ≤ _; simp⟩
theorem bd_tile (G : GoodT T) (B : Bd T st) {tiles n : Nat} (h : tileOf T tiles st = .ok (n, s1)) : Bd T s1 ∧ s1.faults.length + 1 ≤ 2 * s1.at_ ∧ s1.at_ = st.at_ + 1 ∧ s1.robots = st.robots ∧ s1.spots = st.spots := by
  unfold tileOf at h
  split at h
  · cases h
  · rename_i t s2 ht
    obtain ⟨B2, f2, rfl, hm⟩ := bd_take G B ht (by decide)
    cases h
    split
    · exact ⟨B2.found (by omega), by show (st.next.faults ++ [_]).length + 1 ≤ 2 * st.next.at_; simp; omega, rfl, rfl, rfl⟩
    · exact ⟨B2, by omega, rfl, rfl, rfl⟩
theorem more_spec (G : GoodT T) : ∀ (f : Nat) (st : PSt) (acc : List Tk), Bd T st → (∀ t ∈ acc, t.kind = .name) → acc.length + 1 ≤ st.at_ →
    Bd T (moreNames T f st acc).2 ∧ (∀ t ∈ (moreNames T f st acc).1, t.kind = .name) ∧ (moreNames T f st acc).1.length + 1 ≤ (moreNames T f st acc).2.at_ ∧ st.at_ ≤ (moreNames T f st acc).2.at_ ∧
    (moreNames T f st acc).2 = { st with at_ := (moreNames T f st acc).2.at_ } ∧ (moreNames T f st acc).1.length + st.at_ = acc.length + (moreNames T f st acc).2.at_
  | 0, st, acc, B, ha, hl => ⟨B, ha, hl, Nat.le_refl _, rfl, rfl⟩
  | f + 1, st, acc, B, ha, hl => by
    unfold moreNames
    split
    · rename_i hk
      have z := more_spec G f st.next (acc ++ [peek T st]) (B.next (G.more B.at_ (by rw [hk]; decide))) (by
        intro t ht
        rcases List.mem_append.mp ht with q | q
        · exact ha t q
        · have e : t = peek T st := by simpa using q
          rw [e]; exact hk) (by show (acc ++ [_]).length + 1 ≤ st.at_ + 1; simp; omega)
      obtain ⟨z1, z2, z3, z4, z5, z6⟩ := z
      refine ⟨z1, z2, z3, Nat.le_trans (Nat.le_succ _) z4, z5, ?_⟩
      have e : (acc ++ [peek T st]).length = acc.length + 1 := by simp
      have e2 : st.next.at_ = st.at_ + 1 := rfl
      rw [e, e2] at z6
      omega
    · exact ⟨B, ha, hl, Nat.le_refl _, rfl, rfl⟩
theorem add_spec (b : Bool) (st : PSt) (t : Tk) (hn : (st.names b).length ≤ mostOf b) : (addName b st t).at_ = st.at_ ∧ (addName b st t).faults.length ≤ st.faults.length + 1 ∧ ((addName b st t).names b).length ≤ mostOf b ∧
    (addName b st t).robots = st.robots ∧ (addName b st t).rules = st.rules ∧ (addName b st t).pairs = st.pairs ∧ (addName b st t).spots = st.spots ∧ (addName b st t).names (!b) = st.names (!b) := by
  unfold addName
  split
  · refine ⟨rfl, by simp [PSt.found], ?_, rfl, rfl, rfl, rfl, rfl⟩
    exact hn
  · split
    · refine ⟨rfl, by simp [PSt.found], ?_, rfl, rfl, rfl, rfl, rfl⟩
      exact hn
    · rename_i h
      cases b
      · refine ⟨rfl, Nat.le_succ _, ?_, rfl, rfl, rfl, rfl, rfl⟩
        have h2 : st.signs.length ≠ 4 := h
        have h3 : st.signs.length ≤ 4 := hn
        show (st.signs ++ [t.text]).length ≤ 4
        simp
        omega
      · refine ⟨rfl, Nat.le_succ _, ?_, rfl, rfl, rfl, rfl, rfl⟩
        have h2 : st.moods.length ≠ 6 := h
        have h3 : st.moods.length ≤ 6 := hn
        show (st.moods ++ [t.text]).length ≤ 6
        simp
        omega
theorem adds_spec (b : Bool) : ∀ (ts : List Tk) (st : PSt), (st.names b).length ≤ mostOf b → (ts.foldl (addName b) st).at_ = st.at_ ∧ (ts.foldl (addName b) st).faults.length ≤ st.faults.length + ts.length ∧
    ((ts.foldl (addName b) st).names b).length ≤ mostOf b ∧ (ts.foldl (addName b) st).robots = st.robots ∧ (ts.foldl (addName b) st).rules = st.rules ∧ (ts.foldl (addName b) st).pairs = st.pairs ∧
    (ts.foldl (addName b) st).spots = st.spots ∧ (ts.foldl (addName b) st).names (!b) = st.names (!b)
  | [], st, h => ⟨rfl, by simp, h, rfl, rfl, rfl, rfl, rfl⟩
  | t :: ts, st, h => by
    obtain ⟨a1, a2, a3, a4, a5, a6, a7, a8⟩ := add_spec b st t h
    obtain ⟨b1, b2, b3, b4, b5, b6, b7, b8⟩ := adds_spec b ts (addName b st t) a3
    rw [List.foldl_cons]
    refine ⟨b1.trans a1, ?_, b3, b4.trans a4, b5.trans a5, b6.trans a6, b7.trans a7, b8.trans a8⟩
    simp only [List.length_cons]
    omega
theorem wordOf_ne (b : Bool) : wordOf b ≠ [] := by cases b <;> decide
theorem Bd.names (B : Bd T st) (b : Bool) : (st.names b).length ≤ mostOf b := by
  cases b
  · exact B.si
  · exact B.mo
theorem bd_names (G : GoodT T) (B : Bd T st) {b : Bool} (h : parseNames T b st = .ok ((), s1)) : Bd T s1 := by
  unfold parseNames at h
  split at h
  · cases h
  · rename_i t0 s2 h2
    obtain ⟨B2, f2, rfl⟩ := bd_word G B h2 (wordOf_ne b)
    split at h
    · cases h
    · rename_i t s3 h3
      obtain ⟨B3, f3, rfl, _⟩ := bd_take G B2 h3 (by decide)
      have hk : t.kind = .name := (take_ok h3).2.2
      obtain ⟨z1, z2, z3, z4, z5, z6⟩ := more_spec G T.length st.next.next [t] B3 (by simp [hk]) (by show 1 + 1 ≤ st.at_ + 1 + 1; omega)
      split at h
      · cases h
      · rename_i t4 s4 h4
        cases h
        obtain ⟨B4, f4, rfl⟩ := bd_word G z1 h4 (by decide)
        obtain ⟨b1, b2, b3, b4, b5, b6, b7, b8⟩ := adds_spec b (moreNames T T.length st.next.next [t]).1 (moreNames T T.length st.next.next [t]).2.next (B4.names b)
        have e : (moreNames T T.length st.next.next [t]).2.next.at_ = (moreNames T T.length st.next.next [t]).2.at_ + 1 := rfl
        have e5 : (moreNames T T.length st.next.next [t]).2.next.faults = st.faults := by
          show (moreNames T T.length st.next.next [t]).2.faults = st.faults
          rw [z5]
          rfl
        have hf := B.fa
        have e6 : st.next.next.at_ = st.at_ + 2 := rfl
        refine ⟨by rw [b1]; exact B4.at_, ?_, ?_, ?_, by rw [b4, b1]; exact B4.ro, by rw [b5, b1]; exact B4.ru, by rw [b6, b1]; exact B4.pr, by rw [b7, b1]; exact B4.sp⟩
        · rw [b1, e]
          rw [e5] at b2
          rw [e6] at z6
          simp only [List.length_cons, List.length_nil] at z6
          omega
        · cases b
          · exact b3
          · rw [show (List.foldl (addName true) (moreNames T T.length st.next.next [t]).2.next (moreNames T T.length st.next.next [t]).1).signs = _ from b8]
            exact B4.si
        · cases b
          · rw [show (List.foldl (addName false) (moreNames T T.length st.next.next [t]).2.next (moreNames T T.length st.next.next [t]).1).moods = _ from b8]
            exact B4.mo
          · exact b3
theorem putA_len {κ α : Type} [DecidableEq κ] (l : List (κ × α)) (k : κ) (v : α) : (putA l k v).length ≤ l.length + 1 := by
  unfold putA
  split <;> simp
theorem bd_robot (G : GoodT T) (B : Bd T st) {tiles : Nat} (h : parseRobot T tiles st = .ok ((), s1)) : Bd T s1 ∧ st.at_ < s1.at_ := by
  unfold parseRobot at h
  split at h
  · cases h
  · rename_i kw s2 h2
    obtain ⟨B2, f2, rfl⟩ := bd_word G B h2 (by decide)
    have B3 : Bd T (if st.next.robots.length = 3 then st.next.found rRobots kw else st.next) := by
      split
      · exact B2.found (by omega)
      · exact B2
    have a3 : (if st.next.robots.length = 3 then st.next.found rRobots kw else st.next).at_ = st.at_ + 1 := by split <;> rfl
    have r3 : (if st.next.robots.length = 3 then st.next.found rRobots kw else st.next).robots = st.robots := by split <;> rfl
    split at h
    · cases h
    · rename_i n s4 h4
      obtain ⟨B4, f4, a4, r4, _⟩ := bd_tile G B3 h4
      split at h
      · cases h
      · rename_i wy s5 h5
        obtain ⟨B5, f5, rfl⟩ := bd_kw G B4 h5
        split at h
        · cases h
        · rename_i t6 s6 h6
          obtain ⟨B6, f6, rfl⟩ := bd_word G B5 h6 (by decide)
          cases h
          have e : s4.next.next.at_ = s4.at_ + 2 := rfl
          have hr : s4.next.next.robots = st.robots := r4.trans r3
          have hB := B.ro
          refine ⟨⟨B6.at_, B6.fa, B6.si, B6.mo, ?_, B6.ru, B6.pr, B6.sp⟩, ?_⟩
          · show (s4.next.next.robots ++ [_]).length ≤ s4.next.next.at_
            rw [hr, e]
            simp
            omega
          · show st.at_ < s4.next.next.at_
            omega
theorem bd_put (G : GoodT T) (B : Bd T st) {tiles : Nat} (h : parsePut T tiles st = .ok ((), s1)) : Bd T s1 ∧ st.at_ < s1.at_ := by
  unfold parsePut at h
  split at h
  · cases h
  · rename_i kw s2 h2
    obtain ⟨B2, f2, rfl⟩ := bd_word G B h2 (by decide)
    split at h
    · cases h
    · rename_i nm s3 h3
      obtain ⟨B3, f3, rfl, _⟩ := bd_take G B2 h3 (by decide)
      obtain ⟨B4, a4, f4⟩ := bd_number B3 (names := st.next.next.signs) (t := nm) (by omega)
      have sp4 : (numberOf st.next.next.signs nm st.next.next).2.spots = st.spots := by unfold numberOf; split <;> rfl
      split at h
      · cases h
      · rename_i n s5 h5
        obtain ⟨B5, f5, a5, r5, sp5⟩ := bd_tile G B4 h5
        split at h
        · cases h
        · rename_i t6 s6 h6
          obtain ⟨B6, f6, rfl⟩ := bd_word G B5 h6 (by decide)
          cases h
          have e : s5.next.at_ = s5.at_ + 1 := rfl
          have e2 : st.next.next.at_ = st.at_ + 2 := rfl
          have hs : s5.next.spots = st.spots := sp5.trans sp4
          have hB := B.sp
          have B7 : Bd T (if (s5.next.spots.any fun kv => decide (kv.1 = n)) = true then s5.next.found rAgain (peek T (numberOf st.next.next.signs nm st.next.next).2) else s5.next) := by
            split
            · exact B6.found (by omega)
            · exact B6
          have a7 : (if (s5.next.spots.any fun kv => decide (kv.1 = n)) = true then s5.next.found rAgain (peek T (numberOf st.next.next.signs nm st.next.next).2) else s5.next).at_ = s5.at_ + 1 := by split <;> rfl
          have s7 : (if (s5.next.spots.any fun kv => decide (kv.1 = n)) = true then s5.next.found rAgain (peek T (numberOf st.next.next.signs nm st.next.next).2) else s5.next).spots = st.spots := by split <;> exact hs
          refine ⟨⟨B7.at_, B7.fa, B7.si, B7.mo, B7.ro, B7.ru, B7.pr, ?_⟩, ?_⟩
          · refine Nat.le_trans (putA_len _ _ _) ?_
            rw [s7]
            show st.spots.length + 1 ≤ _
            rw [a7]
            omega
          · show st.at_ < _
            rw [a7]
            omega
theorem bd_rule (G : GoodT T) (B : Bd T st) (h : parseRule T st = .ok ((), s1)) : Bd T s1 ∧ st.at_ < s1.at_ := by
  unfold parseRule at h
  split at h
  · cases h
  rename_i kw s2 h2
  obtain ⟨B2, f2, rfl⟩ := bd_word G B h2 (by decide)
  split at h
  · cases h
  rename_i first s3 h3
  obtain ⟨B3, f3, rfl, _⟩ := bd_take G B2 h3 (by decide)
  obtain ⟨B3', a3', f3'⟩ := bd_number B3 (names := st.next.next.moods) (t := first) (by omega)
  have r3 : (numberOf st.next.next.moods first st.next.next).2.rules = st.rules ∧ (numberOf st.next.next.moods first st.next.next).2.pairs = st.pairs := by unfold numberOf; split <;> exact ⟨rfl, rfl⟩
  split at h
  · cases h
  rename_i second s4 h4
  obtain ⟨B4, f4, rfl, _⟩ := bd_take G B3' h4 (by decide)
  generalize hq4 : (numberOf st.next.next.moods first st.next.next).2.next = q4 at *
  have e4 : q4.at_ = st.at_ + 3 := by rw [← hq4]; show (numberOf st.next.next.moods first st.next.next).2.at_ + 1 = _; rw [a3']; rfl
  have r4 : q4.rules = st.rules ∧ q4.pairs = st.pairs := by rw [← hq4]; exact r3
  obtain ⟨B4', a4', f4'⟩ := bd_number B4 (names := q4.signs) (t := second) (by omega)
  have r4' : (numberOf q4.signs second q4).2.rules = st.rules ∧ (numberOf q4.signs second q4).2.pairs = st.pairs := by unfold numberOf; split <;> exact r4
  split at h
  · cases h
  rename_i t5 s5 h5
  obtain ⟨B5, f5, rfl⟩ := bd_word G B4' h5 (by decide)
  generalize hq5 : (numberOf q4.signs second q4).2.next = q5 at *
  have e5 : q5.at_ = st.at_ + 4 := by rw [← hq5]; show (numberOf q4.signs second q4).2.at_ + 1 = _; rw [a4', e4]
  have r5 : q5.rules = st.rules ∧ q5.pairs = st.pairs := by rw [← hq5]; exact r4'
  split at h
  · cases h
  rename_i lf s6 h6
  obtain ⟨B6, f6, rfl, _⟩ := bd_take G B5 h6 (by decide)
  obtain ⟨B6', a6', f6'⟩ := bd_number B6 (names := q5.next.signs) (t := lf) (by omega)
  have r6' : (numberOf q5.next.signs lf q5.next).2.rules = st.rules ∧ (numberOf q5.next.signs lf q5.next).2.pairs = st.pairs := by unfold numberOf; split <;> exact r5
  split at h
  · cases h
  rename_i mv s7 h7
  obtain ⟨B7, f7, rfl⟩ := bd_kw G B6' h7
  generalize hq7 : (numberOf q5.next.signs lf q5.next).2.next = q7 at *
  have e7 : q7.at_ = st.at_ + 6 := by rw [← hq7]; show (numberOf q5.next.signs lf q5.next).2.at_ + 1 = _; rw [a6']; show q5.at_ + 1 + 1 = _; rw [e5]
  have r7 : q7.rules = st.rules ∧ q7.pairs = st.pairs := by rw [← hq7]; exact r6'
  split at h
  · cases h
  rename_i la s8 h8
  obtain ⟨B8, f8, rfl, _⟩ := bd_take G B7 h8 (by decide)
  obtain ⟨B8', a8', f8'⟩ := bd_number B8 (names := q7.next.moods) (t := la) (by omega)
  have r8' : (numberOf q7.next.moods la q7.next).2.rules = st.rules ∧ (numberOf q7.next.moods la q7.next).2.pairs = st.pairs := by unfold numberOf; split <;> exact r7
  split at h
  · cases h
  rename_i t9 s9 h9
  obtain ⟨B9, f9, rfl⟩ := bd_word G B8' h9 (by decide)
  generalize hq9 : (numberOf q7.next.moods la q7.next).2.next = q9 at *
  have e9 : q9.at_ = st.at_ + 8 := by rw [← hq9]; show (numberOf q7.next.moods la q7.next).2.at_ + 1 = _; rw [a8']; show q7.at_ + 1 + 1 = _; rw [e7]
  have r9 : q9.rules = st.rules ∧ q9.pairs = st.pairs := by rw [← hq9]; exact r8'
  cases h
  have hB := B.ru
  have hB2 := B.pr
  generalize hz : (if (first.text, second.text) ∈ q9.pairs then q9.found rTwice kw else q9) = z
  have Bz : Bd T z := by
    rw [← hz]
    split
    · exact B9.found (by omega)
    · exact B9
  have az : z.at_ = st.at_ + 8 := by rw [← hz]; split <;> exact e9
  have rz : z.rules = st.rules ∧ z.pairs = st.pairs := by rw [← hz]; split <;> exact r9
  refine ⟨⟨Bz.at_, Bz.fa, Bz.si, Bz.mo, Bz.ro, ?_, ?_, Bz.sp⟩, by show st.at_ < z.at_; omega⟩
  · refine Nat.le_trans (putA_len _ _ _) ?_
    show z.rules.length + 1 ≤ z.at_
    rw [rz.1, az]
    omega
  · show (if (first.text, second.text) ∈ z.pairs then z.pairs else z.pairs ++ [(first.text, second.text)]).length ≤ z.at_
    rw [az]
    split
    · rw [rz.2]; omega
    · rw [rz.2]; simp; omega
theorem bd_stmt (G : GoodT T) (B : Bd T st) {tiles : Nat} (h : parseStmt T tiles st = .ok ((), s1)) : Bd T s1 ∧ st.at_ < s1.at_ := by
  unfold parseStmt at h
  split at h
  · exact bd_robot G B h
  split at h
  · exact bd_put G B h
  split at h
  · exact bd_rule G B h
  · cases h
end
end Sw

end

section
set_option maxRecDepth 100000
set_option maxHeartbeats 4000000
/-! number_of, tile_of, the names -/
namespace Sw
open PySem PySem.Spec PyProof.Rows L2 SwA
def PLoc.nm (L : PLoc) (b : Bool) : Addr := if b then L.ml else L.sl
theorem idx_spec : ∀ {l : List Cs} {w : Cs}, w ∈ l → l[l.idxOf w]? = some w ∧ ∀ (m : Nat) z, m < l.idxOf w → l[m]? = some z → z ≠ w
  | [], w, h => by cases h
  | a :: r, w, h => by
    by_cases e : a = w
    · subst e
      have z : (a :: r).idxOf a = 0 := by simp [List.idxOf_cons]
      rw [z]
      exact ⟨rfl, fun m z hm => absurd hm (Nat.not_lt_zero m)⟩
    · have z : (a :: r).idxOf w = r.idxOf w + 1 := by
        rw [List.idxOf_cons]
        have : (a == w) = false := by simpa using e
        rw [this]
        rfl
      have hr : w ∈ r := by
        rcases List.mem_cons.mp h with q | q
        · exact absurd q.symm e
        · exact q
      obtain ⟨h1, h2⟩ := idx_spec hr
      rw [z]
      refine ⟨by simpa using h1, fun m y hm hy => ?_⟩
      cases m with
      | zero =>
        have : a = y := by simpa using hy
        rw [← this]
        exact e
      | succ m => exact h2 m y (by omega) (by simpa using hy)
section
variable {K : PySem.W.Frag} {H0 H H' : Hp} {p : Addr} {L : PLoc} {tas : List Addr} {T : List Tk} {st : PSt}
theorem PA.nmH (h : PA K H0 H p L tas T st) (b : Bool) : H (L.nm b) = some (.lst ((st.names b).map sV)) := by
  cases b
  · exact h.si
  · exact h.mo
/-- an object beside the parser is kept in mind -/
theorem PA.frame (h : PA K H0 H p L tas T st) {q : Addr} {o : HO} (hq : H q = some o) (hne : q ∉ [p, L.tl, L.fl, L.sl, L.ml, L.rl, L.rd, L.pd, L.sd]) : PA K (upd H0 q o) H p L tas T st :=
  ⟨fun b u e => by
    by_cases hb : b = q
    · rw [hb, upd_same] at e
      cases e
      rw [hb]
      exact hq
    · rw [upd_ne hb] at e
      exact h.same _ _ e, h.ob, h.tk, h.tks, h.fa, h.si, h.mo, h.ro, h.ru, h.pr, h.sp, h.nd, fun a ha => by
    rw [upd_ne fun z => hne (by rw [← z]; exact ha)]
    exact h.new a ha⟩
theorem PA.unframe {q : Addr} {o : HO} (h : PA K (upd H0 q o) H p L tas T st) (nq : H0 q = none) : PA K H0 H p L tas T st ∧ H q = some o :=
  ⟨⟨(sameUpd (Same.refl H0) nq).trans h.same, h.ob, h.tk, h.tks, h.fa, h.si, h.mo, h.ro, h.ru, h.pr, h.sp, h.nd, fun a ha => (sameUpd (o := o) (Same.refl H0) nq).free (h.new a ha)⟩, h.same _ _ upd_same⟩
theorem PA.notin (h : PA K H0 H p L tas T st) {q : Addr} (hq : H q = none) : q ∉ [p, L.tl, L.fl, L.sl, L.ml, L.rl, L.rd, L.pd, L.sd] := by
  intro z
  simp only [List.mem_cons, List.not_mem_nil, or_false] at z
  obtain ⟨dx, ob⟩ := h.ob
  obtain ⟨fas, hf, _⟩ := h.fa
  obtain ⟨ras, hr, _⟩ := h.ro
  obtain ⟨kvs, hk, _⟩ := h.ru
  rcases z with z | z | z | z | z | z | z | z | z
  · rw [z, ob] at hq; cases hq
  · rw [z, h.tk] at hq; cases hq
  · rw [z, hf] at hq; cases hq
  · rw [z, h.si] at hq; cases hq
  · rw [z, h.mo] at hq; cases hq
  · rw [z, hr] at hq; cases hq
  · rw [z, hk] at hq; cases hq
  · rw [z, h.pr] at hq; cases hq
  · rw [z, h.sp] at hq; cases hq
/-- a list beside the parser is changed -/
theorem PA.updList (h : PA K H0 H p L tas T st) {q : Addr} {xs ys : List V} (hq : H q = some (.lst xs)) (nq : H0 q = none) (hne : q ∉ [p, L.tl, L.fl, L.sl, L.ml, L.rl, L.rd, L.pd, L.sd]) : PA K H0 (upd H q (.lst ys)) p L tas T st := by
  have ne : ∀ a ∈ [p, L.tl, L.fl, L.sl, L.ml, L.rl, L.rd, L.pd, L.sd], a ≠ q := fun a ha z => hne (by rw [← z]; exact ha)
  have kt := keepT (o' := .lst ys) hq (fun xs q => by cases q)
  have kk := keepK (K := K) (o' := .lst ys) hq (fun C d fs q => by cases q)
  exact ⟨sameUpd h.same nq, (let ⟨dx, e⟩ := h.ob; ⟨dx, (upd_ne (ne _ (by simp))).trans e⟩), (upd_ne (ne _ (by simp))).trans h.tk, Paired.mapP h.tks fun a t q => kk a t q,
    (let ⟨fas, e1, e2⟩ := h.fa; ⟨fas, (upd_ne (ne _ (by simp))).trans e1, e2.mono kt⟩), (upd_ne (ne _ (by simp))).trans h.si, (upd_ne (ne _ (by simp))).trans h.mo,
    (let ⟨ras, e1, e2⟩ := h.ro; ⟨ras, (upd_ne (ne _ (by simp))).trans e1, Paired.mapP e2 fun _ _ q => kt _ _ q⟩),
    (let ⟨kvs, e1, e2⟩ := h.ru; ⟨kvs, (upd_ne (ne _ (by simp))).trans e1, Paired.mapP e2 fun _ _ q => q.mono kt⟩), (upd_ne (ne _ (by simp))).trans h.pr, (upd_ne (ne _ (by simp))).trans h.sp, h.nd, h.new⟩
end
theorem lp_no_number_of {L : PLoc} {n : Nat} : (parF L n).lookup ("number_of" : Str) = none := by kernel_rfl
theorem lp_no_tile_of {L : PLoc} {n : Nat} : (parF L n).lookup ("tile_of" : Str) = none := by kernel_rfl
theorem e_unknown : ("unknown" : Str) = sx rUnknown := by decide +kernel
theorem e_tile : ("tile" : Str) = sx rTile := by decide +kernel
theorem e_duplicate : ("duplicate" : Str) = sx rDuplicate := by decide +kernel
theorem e_semi : (";" : Str) = sx wSemi := by decide +kernel
theorem e_robot : ("robot" : Str) = sx wRobot := by decide +kernel
theorem e_robots : ("robots" : Str) = sx rRobots := by decide +kernel
theorem e_right : ("right" : Str) = sx wRight := by decide +kernel
theorem e_put : ("put" : Str) = sx wPut := by decide +kernel
theorem e_again : ("again" : Str) = sx rAgain := by decide +kernel
theorem e_when : ("when" : Str) = sx wWhen := by decide +kernel
theorem e_leave : ("leave" : Str) = sx wLeave := by decide +kernel
theorem e_twice : ("twice" : Str) = sx rTwice := by decide +kernel
theorem e_corridor : ("corridor" : Str) = sx wCorridor := by decide +kernel
theorem e_signs : ("signs" : Str) = sx wSigns := by decide +kernel
theorem e_moods : ("moods" : Str) = sx wMoods := by decide +kernel
section
variable {P : Program} {w : World} {K : PySem.W.Frag} {mg : Str → Option Value} {base : Heap}
def spNumberOf (K : PySem.W.Frag) : Sp := fun vs H Q _ => ∃ (H0 : Hp) (p : Addr) (L : PLoc) (tas : List Addr) (T : List Tk) (st : PSt) (b : Bool) (a : Addr) (t : Tk), vs = [.ref p, .ref (L.nm b), .ref a] ∧ PA K H0 H p L tas T st ∧
  TI tas T a t ∧ st.faults.length ≤ 1000000 ∧ ∀ H', PA K H0 H' p L tas T (numberOf (st.names b) t st).2 → Q (.int (numberOf (st.names b) t st).1) H'
theorem sc_number_of : FnScope ["self", "names", "token"] ["self", "names", "token"] (defScope s_Parser_number_of) := ⟨rfl, rfl, rfl, by decide +kernel, rfl, by decide +kernel, by decide +kernel⟩
theorem ok_number_of (T : ParT K mg) : FnE P w K mg base CX0 2 ("Parser", some "number_of") ["self", "names", "token"] (spNumberOf K) := by
  obtain ⟨fd, F⟩ := T.number_of.d
  obtain ⟨fdF, GF, bF, kF⟩ := ok_found (P := P) (w := w) (base := base) T
  refine ⟨fd, F.ok sc_number_of (fun vs H Q E h => ?_) (fun cdv A outer s H vs Q E hr h => ?_), F.bindsN fun _ _ _ _ _ _ us hl => match us, hl with | [_, _, _], _ => rfl, F.kp⟩
  · obtain ⟨H0, p, L, tas, Ts, st, b, a, t, rfl, _⟩ := h
    rfl
  · obtain ⟨H0, p, L, tas, Ts, st, b, a, t, rfl, hP, hta, hz, k⟩ := h
    refine ⟨_, PSs.nox (pss_cons (ps_if (pt_cmpR op_in_seq (pe_fld (pv 2) rfl) (pv 1) rfl)
        (pss_one (ps_ret (pe_bm PySem.F.plainAttrs_list PySem.F.slot_list_index PySem.F.type_list_index mt_index (pv 1) (pa_cons (pe_fld (pv 2) rfl) pa_nil)))) pss_nil)
      (pss_cons (ps_expr (pe_meth (pv 0) T.par.c T.found.m GF hr bF .nil pass0 (pa_cons pe_str (pa_cons (pv 2) pa_nil)))) (pss_one (ps_ret pe_int)))), ?_⟩
    obtain ⟨dx, ob⟩ := hP.ob
    obtain ⟨dt, ht⟩ := hP.get hta
    have hn := hP.nmH b
    refine ⟨_, rfl, a, _, dt, _, _, rfl, ht, T.l.tok.c, T.l.tok.n _ (by simp), lk_text, _, rfl, L.nm b, _, rfl, .inl (SqL.of hn), rfl, flat_sx _, _, rfl, ?_⟩
    rw [inV_sx]
    refine ite2 (fun h => ?_) (fun h => ?_)
    · have h : t.text ∈ st.names b := of_decide_eq_true h
      obtain ⟨i1, i2⟩ := idx_spec h
      have k1 := k H (by unfold numberOf; rw [if_pos h]; exact hP)
      have e : (numberOf (st.names b) t st).1 = (st.names b).idxOf t.text := by unfold numberOf; rw [if_pos h]
      rw [e] at k1
      refine ⟨_, rfl, .inl ⟨rfl, _, SqL.of hn⟩, _, rfl, a, _, dt, _, _, rfl, ht, T.l.tok.c, T.l.tok.n _ (by simp), lk_text, L.nm b, _, _, (st.names b).idxOf t.text, sV t.text, rfl, rfl, SqL.of hn, rfl, flat_sx _, by rw [List.getElem?_map, i1]; rfl, by rw [eq_str_sx]; exact decide_eq_true rfl, fun m z' hm hz' => ?_, k1⟩
      rw [List.getElem?_map] at hz'
      cases q : (st.names b)[m]? with
      | none => rw [q] at hz'; cases hz'
      | some y =>
        rw [q] at hz'
        cases hz'
        rw [eq_str_sx]
        exact decide_eq_false (i2 m y hm q)
    · have h : t.text ∉ st.names b := fun q => h (decide_eq_true q)
      refine ⟨_, rfl, p, dx, _, rfl, ob, lp_no_found, _, rfl, H0, p, L, tas, Ts, st, rUnknown, a, t, by rw [e_unknown]; rfl, hP, hta, hz, fun H' hP' => ?_⟩
      have k1 := k H' (by unfold numberOf; rw [if_neg h]; exact hP')
      have e : (numberOf (st.names b) t st).1 = 0 := by unfold numberOf; rw [if_neg h]
      rw [e] at k1
      exact k1
def spTileOf (K : PySem.W.Frag) : Sp := fun vs H Q E => ∃ (H0 : Hp) (p : Addr) (L : PLoc) (tas : List Addr) (T : List Tk) (st : PSt) (tiles : Nat), vs = [.ref p, .int tiles] ∧ PA K H0 H p L tas T st ∧ GoodT T ∧ st.at_ < T.length ∧ st.faults.length ≤ 1000000 ∧
  Res K H0 p L tas T (tileOf T tiles st) Q E retN
theorem sc_tile_of : FnScope ["self", "tiles", "token"] ["self", "tiles"] (defScope s_Parser_tile_of) := ⟨rfl, rfl, rfl, by decide +kernel, rfl, by decide +kernel, by decide +kernel⟩
theorem TI.mem {tas : List Addr} {T : List Tk} {a : Addr} {t : Tk} (h : TI tas T a t) : t ∈ T := let ⟨_, _, e⟩ := h; List.mem_of_getElem? e
theorem int_sx {w : Cs} (h : w.all isD = true) (h1 : 1 ≤ w.length) (h2 : w.length ≤ 2) : intText? (sx w) = some (numVal w : Int) := by
  have e : (sx w).cps.toList = w := rfl
  have z := PySem.intText_digits (x := sx w) (by
    rw [e]
    intro c hc
    have q := List.all_eq_true.mp h c hc
    unfold isD at q
    rw [Bool.and_eq_true] at q
    exact ⟨Nat.le_of_ble_eq_true q.1, Nat.le_of_ble_eq_true q.2⟩) (by rw [e]; intro q; rw [q] at h1; simp at h1) (by rw [len_sx]; omega)
  rw [e] at z
  exact z
theorem ok_tile_of (T : ParT K mg) : FnE P w K mg base (L2.CX P w) 5 ("Parser", some "tile_of") ["self", "tiles"] (spTileOf K) := by
  obtain ⟨fd, F⟩ := T.tile_of.d
  obtain ⟨fdF, GF, bF, kF⟩ := ok_found (P := P) (w := w) (base := base) T
  obtain ⟨fdT, GT, bT, kT⟩ := ok_take (P := P) (w := w) (base := base) T
  obtain ⟨t1, mNUM⟩ := T.l.NUMBER
  refine ⟨fd, F.ok sc_tile_of (fun vs H Q E h => ?_) (fun cdv A outer s H vs Q E hr h => ?_), F.bindsN fun _ _ _ _ _ _ us hl => match us, hl with | [_, _], _ => rfl, F.kp⟩
  · obtain ⟨H0, p, L, tas, Ts, st, tiles, rfl, _⟩ := h
    rfl
  · obtain ⟨H0, p, L, tas, Ts, st, tiles, rfl, hP, hG, hi, hz, R⟩ := h
    have hr1 : Room 1 _ := hr.mono (by decide)
    refine ⟨_, (pss_cons (ps_set (i := 2) sc_tile_of.nd rfl (.inl rfl) (pe_meth (pv 0) T.par.c T.take.m GT hr bT .nil (passes_call (takes_of rfl rfl rfl rfl) (fun _ _ _ _ h => h)) (pa_cons (pe_glob (v := .str "number") rfl mNUM ⟨_, rfl⟩) pa_nil)))
      (pss_cons (ps_if (pt_cmpR op_ge (pe_callTy call_int_str (by rfl) T.int (by decide +kernel) (pa_cons (pe_fld (pv 2) rfl) pa_nil)) (pv 1) (nomark _))
        (pss_one (ps_expr (pe_meth (pv 0) T.par.c T.found.m GF hr1 bF .nil pass0 (pa_cons pe_str (pa_cons (pv 2) pa_nil))))) pss_nil)
      (pss_one (ps_ret (pe_callTy call_int_str (by rfl) T.int (by decide +kernel) (pa_cons (pe_fld (pv 2) rfl) pa_nil)))))), ?_⟩
    obtain ⟨dx, ob⟩ := hP.ob
    refine ⟨_, rfl, p, dx, _, rfl, ob, lp_no_take, H0, p, L, tas, Ts, st, .number, rfl, hP, hi, ⟨fun t s1 ht v H1 hv hP1 => ?_, fun l c he => R.er l c (by simp only [tileOf, he])⟩⟩
    obtain ⟨a, rfl, hta⟩ := hv
    have hk := (take_ok ht).2.2
    have hs1 := (take_ok ht).1
    obtain ⟨⟨n1, n2⟩, n3⟩ := hG.num t hta.mem hk
    have hint := int_sx n3 n1 n2
    obtain ⟨dt, htk⟩ := hP1.get hta
    obtain ⟨dx1, ob1⟩ := hP1.ob
    refine ⟨_, rfl, a, _, dt, _, _, rfl, htk, T.l.tok.c, T.l.tok.n _ (by simp), lk_text, _, _, rfl, hint, by rw [len_sx]; omega, _, rfl, _, _, rfl, rfl, _, rfl, ?_⟩
    refine ite2 (fun h => ?_) (fun h => ?_)
    · have h := of_decide_eq_true h
      refine ⟨_, rfl, p, dx1, _, rfl, ob1, lp_no_found, _, rfl, H0, p, L, tas, Ts, s1, rTile, a, t, by rw [e_tile]; rfl, hP1, hta, by rw [hs1]; exact hz, fun H2 hP2 => ?_⟩
      obtain ⟨dt2, htk2⟩ := hP2.get hta
      refine ⟨_, rfl, a, _, dt2, _, _, rfl, htk2, T.l.tok.c, T.l.tok.n _ (by simp), lk_text, _, _, rfl, hint, by rw [len_sx]; omega, ?_⟩
      exact R.ok (numVal t.text) _ (by simp only [tileOf, ht, if_pos (show tiles ≤ numVal t.text by omega)]) _ _ rfl hP2
    · have h : ¬ (tiles : Int) ≤ (numVal t.text : Nat) := fun q => h (decide_eq_true q)
      refine ⟨_, rfl, a, _, dt, _, _, rfl, htk, T.l.tok.c, T.l.tok.n _ (by simp), lk_text, _, _, rfl, hint, by rw [len_sx]; omega, ?_⟩
      exact R.ok (numVal t.text) _ (by simp only [tileOf, ht, if_neg (show ¬ tiles ≤ numVal t.text by omega)]) _ _ rfl hP1
end
end Sw

end

section
set_option maxRecDepth 100000
set_option maxHeartbeats 4000000
/-! parse_names -/
namespace Sw
open PySem PySem.Spec PyProof.Rows L2 SwA
theorem Paired_idx {α β : Type} {F : α → β → Prop} : ∀ {l : List α} {m : List β} {i : Nat} {a : α}, Paired F l m → l[i]? = some a → ∃ b, m[i]? = some b ∧ F a b
  | _, _, i, _, .nil, h => by simp at h
  | _, _, 0, _, .cons x r, h => by simp at h; subst h; exact ⟨_, rfl, x⟩
  | _, _, i + 1, _, .cons x r, h => by
    obtain ⟨b, e, f⟩ := Paired_idx r (i := i) (by simpa using h)
    exact ⟨b, by simpa using e, f⟩
section
variable {P : Program} {w : World} {K : PySem.W.Frag} {mg : Str → Option Value} {base : Heap}
def spParseNames (K : PySem.W.Frag) : Sp := fun vs H Q E => ∃ (H0 : Hp) (p : Addr) (L : PLoc) (tas : List Addr) (T : List Tk) (st : PSt) (b : Bool), vs = [.ref p, sV (wordOf b), .ref (L.nm b), .int (mostOf b)] ∧ PA K H0 H p L tas T st ∧ GoodT T ∧ Bd T st ∧
  Res K H0 p L tas T (parseNames T b st) Q E retU
theorem sc_parse_names : FnScope ["self", "word", "names", "most", "tokens", "token"] ["self", "word", "names", "most"] (defScope s_Parser_parse_names) := ⟨rfl, rfl, rfl, by decide +kernel, rfl, by decide +kernel, by decide +kernel⟩
theorem ok_parse_names (T : ParT K mg) : FnE P w K mg base (L2.CX P w) 5 ("Parser", some "parse_names") ["self", "word", "names", "most"] (spParseNames K) := by
  obtain ⟨fd, F⟩ := T.parse_names.d
  obtain ⟨fdP, GP, bP, kP⟩ := ok_peek (P := P) (w := w) (base := base) T
  obtain ⟨fdF, GF, bF, kF⟩ := ok_found (P := P) (w := w) (base := base) T
  obtain ⟨fdT, GT, bT, kT⟩ := ok_take (P := P) (w := w) (base := base) T
  obtain ⟨fdW, GW, bW, kW⟩ := ok_take_word (P := P) (w := w) (base := base) T
  obtain ⟨t1, mNAME⟩ := T.l.NAME
  refine ⟨fd, F.ok sc_parse_names (fun vs H Q E h => ?_) (fun cdv A outer s H vs Q E hr h => ?_), F.bindsN fun _ _ _ _ _ _ us hl => match us, hl with | [_, _, _, _], _ => rfl, F.kp⟩
  · obtain ⟨H0, p, L, tas, Ts, st, b, rfl, _⟩ := h
    rfl
  · obtain ⟨H0, p, L, tas, Ts, st, b, rfl, hP, hG, hB, R⟩ := h
    have hr1 : Room 1 _ := hr.mono (by decide)
    refine ⟨_, (pss_cons (ps_expr (pe_meth (pv 0) T.par.c T.take_word.m GW hr bW .nil (passes_call (takes_of rfl rfl rfl rfl) (fun _ _ _ _ h => h)) (pa_cons (pv 1) pa_nil)))
      (pss_cons (ps_set (i := 4) sc_parse_names.nd rfl (.inl rfl) (pe_lst (pa_cons (pe_meth (pv 0) T.par.c T.take.m GT hr bT .nil (passes_call (takes_of rfl rfl rfl rfl) (fun _ _ _ _ h => h)) (pa_cons (pe_glob (v := .str "name") rfl mNAME ⟨_, rfl⟩) pa_nil)) pa_nil)))
      (pss_cons (ps_while (passes_of rfl) (pt_cmpR op_eq (pe_fld (pe_meth0 (pv 0) T.par.c T.peek.m GP hr1 bP .nil pass0) rfl) (pe_glob (v := .str "name") rfl mNAME ⟨_, rfl⟩) (nomark _))
        (pss_one (ps_expr (pe_bm PySem.F.plainAttrs_list PySem.F.slot_list_append PySem.F.type_list_append mt_append (pv 4) (pa_cons (pe_meth (pv 0) T.par.c T.take.m GT hr bT .nil (passes_call (takes_of rfl rfl rfl rfl) (fun _ _ _ _ h => h)) (pa_cons (pe_glob (v := .str "name") rfl mNAME ⟨_, rfl⟩) pa_nil)) pa_nil)))))
      (pss_cons (ps_expr (pe_meth (pv 0) T.par.c T.take_word.m GW hr bW .nil (passes_call (takes_of rfl rfl rfl rfl) (fun _ _ _ _ h => h)) (pa_cons pe_str pa_nil)))
      (pss_one (ps_for (passes_of rfl) rfl (pi_list (pv 4)) (pg_name (i := 5) sc_parse_names.nd rfl (.inl rfl))
        (pss_one (ps_if (pt_cmpR op_in_seq (pe_fld (pv 5) rfl) (pv 2) rfl)
          (pss_one (ps_expr (pe_meth (pv 0) T.par.c T.found.m GF hr1 bF .nil pass0 (pa_cons pe_str (pa_cons (pv 5) pa_nil)))))
          (pss_one (ps_if (pt_cmpR op_eq (pe_callB call_len_seq (by rfl) T.l.len boot_len (pa_cons (pv 2) pa_nil)) (pv 3) (nomark _))
            (pss_one (ps_expr (pe_meth (pv 0) T.par.c T.found.m GF hr1 bF .nil pass0 (pa_cons (pv 1) (pa_cons (pv 5) pa_nil)))))
            (pss_one (ps_expr (pe_bm PySem.F.plainAttrs_list PySem.F.slot_list_append PySem.F.type_list_append mt_append (pv 2) (pa_cons (pe_fld (pv 5) rfl) pa_nil)))))))))))))), ?_⟩
    obtain ⟨dx, ob⟩ := hP.ob
    refine ⟨_, rfl, p, dx, _, rfl, ob, lp_no_take_word, _, rfl, H0, p, L, tas, Ts, st, wordOf b, rfl, hP, hB.at_, ⟨fun t0 s1 h1 v H1 hv hP1 => ?_, fun l c he => R.er l c (by simp only [parseNames, he])⟩⟩
    clear hv
    obtain ⟨B1, f1, e1⟩ := bd_word hG hB h1 (wordOf_ne b)
    obtain ⟨dx1, ob1⟩ := hP1.ob
    refine ⟨_, rfl, p, dx1, _, rfl, ob1, lp_no_take, H0, p, L, tas, Ts, s1, .name, rfl, hP1, B1.at_, ⟨fun t s2 h2 v H2 hv hP2 => ?_, fun l c he => R.er l c (by simp only [parseNames, h1, he])⟩⟩
    obtain ⟨a, rfl, hta⟩ := hv
    obtain ⟨B2, f2, e2, _⟩ := bd_take hG B1 h2 (by decide)
    have hk2 := (take_ok h2).2.2
    refine ⟨(by show 1 ≤ sizeLine; decide), fun q nq => ?_⟩
    have hne := hP2.notin nq
    have nq0 : H0 q = none := hP2.same.free nq
    have hP2' := hP2.mono (sameUpd (o := .lst [.ref a]) (Same.refl H2) nq)
    have as2 : 2 ≤ s2.at_ := by
      rw [e2, e1]
      show 2 ≤ st.at_ + 1 + 1
      omega
    refine ⟨fun m σ H => ∃ (f : Nat) (acc : List Tk) (aas : List Addr) (s : PSt), m + s.at_ = Ts.length ∧ σ = [some (.ref p), some (sV (wordOf b)), some (.ref (L.nm b)), some (.int (mostOf b)), some (.ref q), none] ∧
      H q = some (.lst (aas.map V.ref)) ∧ Paired (TI tas Ts) aas acc ∧ PA K H0 H p L tas Ts s ∧ Bd Ts s ∧ Ts.length ≤ f + s.at_ ∧ moreNames Ts Ts.length s2 [t] = moreNames Ts f s acc ∧ acc.length + 1 ≤ s.at_,
      ⟨Ts.length - s2.at_, Ts.length, [t], [a], s2, Nat.sub_add_cancel (Nat.le_of_lt B2.at_), rfl, upd_same, .cons hta .nil, hP2', B2, Nat.le_add_right _ _, rfl, as2⟩, ?_⟩
    rintro m σ H3 ⟨f, acc, aas, s, hm, rfl, hq, hpa, hP3, B3, hf, hmn, hac⟩
    obtain ⟨dx3, ob3⟩ := hP3.ob
    have hlen := hG.len
    have B3at := B3.at_
    refine ⟨_, rfl, p, dx3, _, rfl, ob3, lp_no_peek, H0, p, L, tas, Ts, s, rfl, hP3, B3.at_, fun a3 hta3 => ?_⟩
    obtain ⟨dt3, ht3⟩ := hP3.get hta3
    refine ⟨a3, _, dt3, _, _, rfl, ht3, T.l.tok.c, T.l.tok.n _ (by simp), lk_kind, rfl, _, rfl, ?_⟩
    obtain ⟨f', rfl⟩ : ∃ f', f = f' + 1 := ⟨f - 1, by omega⟩
    refine ite2 (fun h => ?_) (fun h => ?_)
    · have h : (peek Ts s).kind = .name := kd_inj (b := .name) (V.str.inj (of_decide_eq_true h))
      refine ⟨_, fun _ _ n => n, ?_⟩
      refine ⟨_, rfl, .inl ⟨rfl, _, SqL.of hq⟩, _, rfl, p, dx3, _, rfl, ob3, lp_no_take, upd H0 q (.lst (aas.map V.ref)), p, L, tas, Ts, s, .name, rfl, hP3.frame hq hne, B3.at_, ⟨fun t' s' h' v H' hv hP' => ?_, fun l c he => ?_⟩⟩
      · obtain ⟨a', rfl, hta'⟩ := hv
        obtain ⟨hP'', hq'⟩ := hP'.unframe nq0
        obtain ⟨B', f'', e', _⟩ := bd_take hG B3 h' (by decide)
        have ht' := (take_ok h').2.1
        have hlt : (aas.map V.ref).length < sizeLine := by
          rw [List.length_map, hpa.length, sizeLine_eq]
          omega
        have ea : s'.at_ = s.at_ + 1 := by rw [e']; rfl
        refine ⟨q, _, _, rfl, rfl, hq', hlt, m - 1, by omega, f', acc ++ [t'], aas ++ [a'], s', by omega, rfl, by rw [upd_same, List.map_append]; rfl, Paired_snoc hpa hta', hP''.updList hq' nq0 hne, B', by omega, ?_, by simp; omega⟩
        rw [hmn]
        conv => lhs; unfold moreNames
        rw [if_pos h, e', ht']
      · exfalso
        unfold take at he
        rw [if_pos h] at he
        cases he
    · have h : ¬ (peek Ts s).kind = .name := fun q => h (decide_eq_true (by rw [q]; rfl))
      have hmn2 : moreNames Ts Ts.length s2 [t] = (acc, s) := by
        rw [hmn]
        unfold moreNames
        rw [if_neg h]
      have em1 : (moreNames Ts Ts.length s2 [t]).1 = acc := by rw [hmn2]
      have em2 : (moreNames Ts Ts.length s2 [t]).2 = s := by rw [hmn2]
      refine ⟨_, rfl, p, dx3, _, rfl, ob3, lp_no_take_word, upd H0 q (.lst (aas.map V.ref)), p, L, tas, Ts, s, wSemi, by rw [e_semi]; rfl, hP3.frame hq hne, B3.at_, ⟨fun t4 s4 h4 v H4 hv hP4 => ?_, fun l c he => ?_⟩⟩
      · clear hv
        obtain ⟨hP4', hq4⟩ := hP4.unframe nq0
        obtain ⟨B4, f4, e4⟩ := bd_word hG B3 h4 (by decide)
        have hfin : parseNames Ts b st = .ok ((), acc.foldl (addName b) s4) := by
          simp only [parseNames, h1, h2, em1, em2, h4]
        refine ⟨_, rfl, q, rfl, ⟨_, SqL.of hq4⟩, for_list (K := K) (a := q) (xs := aas.map V.ref) (fun i σ H => ∃ o5 : Option V, σ = [some (.ref p), some (sV (wordOf b)), some (.ref (L.nm b)), some (.int (mostOf b)), some (.ref q), o5] ∧
          H q = some (.lst (aas.map V.ref)) ∧ PA K H0 H p L tas Ts ((acc.take i).foldl (addName b) s4)) ⟨none, rfl, hq4, hP4'⟩ (fun i σ H _ hh => ?_) ?_ ?_⟩
        · obtain ⟨o5, rfl, hq5, _⟩ := hh
          exact SqL.of hq5
        · rintro i x σ H5 hx ⟨o5, rfl, hq5, hP5⟩
          rw [List.getElem?_map] at hx
          cases hai : aas[i]? with
          | none => rw [hai] at hx; cases hx
          | some ai =>
            rw [hai] at hx
            cases hx
            obtain ⟨ti, hti, hTI⟩ := Paired_idx hpa hai
            have hstep : (acc.take (i + 1)).foldl (addName b) s4 = addName b ((acc.take i).foldl (addName b) s4) ti := by
              rw [List.take_succ, hti, List.foldl_append]
              rfl
            rw [hstep]
            obtain ⟨c1, c2, c3, _⟩ := adds_spec b (acc.take i) s4 (B4.names b)
            generalize hs5 : (acc.take i).foldl (addName b) s4 = s5 at *
            have hfl : s5.faults.length ≤ 1000000 := by
              have z1 := B4.fa
              have z2 := B4.at_
              have z3 : (acc.take i).length ≤ acc.length := by rw [List.length_take]; omega
              omega
            obtain ⟨dx5, ob5⟩ := hP5.ob
            obtain ⟨dt5, ht5⟩ := hP5.get hTI
            have hn5 := hP5.nmH b
            refine ⟨_, rfl, ai, _, dt5, _, _, rfl, ht5, T.l.tok.c, T.l.tok.n _ (by simp), lk_text, _, rfl, L.nm b, _, rfl, .inl (SqL.of hn5), rfl, flat_sx _, _, rfl, ?_⟩
            rw [inV_sx]
            refine ite2 (fun h => ?_) (fun h => ?_)
            · have h : ti.text ∈ s5.names b := of_decide_eq_true h
              refine ⟨_, rfl, p, dx5, _, rfl, ob5, lp_no_found, _, rfl, upd H0 q (.lst (aas.map V.ref)), p, L, tas, Ts, s5, rDuplicate, ai, ti, by rw [e_duplicate]; rfl, hP5.frame hq5 hne, hTI, hfl, fun H6 hP6 => ?_⟩
              obtain ⟨hP6', hq6⟩ := hP6.unframe nq0
              refine ⟨_, rfl, hq6, ?_⟩
              unfold addName
              rw [if_pos h]
              exact hP6'
            · have h : ti.text ∉ s5.names b := fun q => h (decide_eq_true q)
              refine ⟨_, rfl, L.nm b, _, rfl, .inl (SqL.of hn5), _, rfl, rfl, _, rfl, ?_⟩
              rw [List.length_map]
              refine ite2 (fun h2 => ?_) (fun h2 => ?_)
              · have h2 : (s5.names b).length = mostOf b := by
                  have z := V.int.inj (of_decide_eq_true h2)
                  exact Int.ofNat_inj.mp z
                refine ⟨_, rfl, p, dx5, _, rfl, ob5, lp_no_found, _, rfl, _, rfl, upd H0 q (.lst (aas.map V.ref)), p, L, tas, Ts, s5, wordOf b, ai, ti, rfl, hP5.frame hq5 hne, hTI, hfl, fun H6 hP6 => ?_⟩
                obtain ⟨hP6', hq6⟩ := hP6.unframe nq0
                refine ⟨_, rfl, hq6, ?_⟩
                unfold addName
                rw [if_neg h, if_pos h2]
                exact hP6'
              · have h2 : ¬ (s5.names b).length = mostOf b := fun q => h2 (decide_eq_true (by rw [q]))
                have hlt : ((s5.names b).map sV).length < sizeLine := by
                  rw [List.length_map, sizeLine_eq]
                  have : mostOf b ≤ 6 := by cases b <;> decide
                  omega
                have hqn : q ≠ L.nm b := fun z => hne (by
                  rw [z]
                  cases b
                  · simp [PLoc.nm]
                  · simp [PLoc.nm])
                refine ⟨_, rfl, .inl ⟨rfl, _, SqL.of hn5⟩, _, rfl, ai, _, dt5, _, _, rfl, ht5, T.l.tok.c, T.l.tok.n _ (by simp), lk_text, L.nm b, _, _, rfl, rfl, hn5, hlt, ?_⟩
                have em : ((s5.names b).map sV ++ [sV ti.text]) = (s5.names b ++ [ti.text]).map sV := by rw [List.map_append]; rfl
                refine ⟨_, rfl, by rw [upd_ne hqn]; exact hq5, ?_⟩
                rw [em]
                unfold addName
                rw [if_neg h, if_neg h2]
                cases b
                · exact hP5.set_sl hn5 trivial
                · exact hP5.set_ml hn5 trivial
        · rintro σ H6 ⟨o5, rfl, hq6, hP6⟩
          rw [List.length_map] at hP6
          have ea : aas.length = acc.length := hpa.length
          rw [ea, List.take_length] at hP6
          exact R.ok () _ hfin _ _ rfl hP6
      · refine (R.er l c ?_).mono (sameUpd (Same.refl H0) nq0)
        simp only [parseNames, h1, h2, em2, he]
end
end Sw

end

section
set_option maxRecDepth 100000
set_option maxHeartbeats 4000000
/-! parse_robot, parse_put, parse_rule -/
namespace Sw
open PySem PySem.Spec PyProof.Rows L2 SwA
/-! ### the dicts -/
theorem key_inl {a b : Nat} : ((.inl (a : Int) : Key) = .inl (b : Int)) ↔ a = b := ⟨fun h => by injection h with h; omega, fun h => by rw [h]⟩
theorem keyT_inj {a b : Nat × Nat} : keyT a = keyT b ↔ a = b := by
  constructor
  · intro h
    unfold keyT at h
    injection h with h1 h2
    injection h2 with h2 _
    have e1 := key_inl.mp h1
    have e2 := key_inl.mp h2
    exact Prod.ext e1 e2
  · intro h; rw [h]
theorem pairK_inj {a b : Cs × Cs} : (pairK a).1 = (pairK b).1 ↔ a = b := by
  constructor
  · intro h
    unfold pairK at h
    injection h with h1 h2
    injection h2 with h2 _
    injection h1 with h1
    injection h2 with h2
    exact Prod.ext (sx_inj h1) (sx_inj h2)
  · intro h; rw [h]
theorem spots_any (l : List (Nat × Nat)) (n : Nat) : (valV (l.map spotK) (.inl (n : Int) : Key)).isSome = l.any fun kv => decide (kv.1 = n) := by
  rw [← valV_any]
  rw [List.any_map]
  congr 1
  funext kv
  show decide ((.inl (kv.1 : Int) : Key) = .inl (n : Int)) = decide (kv.1 = n)
  rw [Bool.eq_iff_iff, decide_eq_true_iff, decide_eq_true_iff, key_inl]
theorem spots_put (l : List (Nat × Nat)) (n v : Nat) : putK (l.map spotK) (.inl (n : Int) : Key) (.int v) = (putA l n v).map spotK := by
  unfold putK putA
  rw [valV_any, spots_any]
  split
  · rw [List.map_map, List.map_map]
    refine List.map_congr_left fun kv _ => ?_
    show (if (spotK kv).1 = .inl (n : Int) then ((spotK kv).1, V.int v) else spotK kv) = spotK (if kv.1 = n then (kv.1, v) else kv)
    by_cases e : kv.1 = n
    · rw [if_pos e, if_pos (by show (.inl (kv.1 : Int) : Key) = _; rw [e])]
      rfl
    · rw [if_neg e, if_neg (show ¬ (spotK kv).1 = .inl (n : Int) from fun q => e (key_inl.mp q))]
  · rw [List.map_append]
    rfl
theorem pairs_some (l : List (Cs × Cs)) (q : Cs × Cs) : (valV (l.map pairK) (pairK q).1).isSome = decide (q ∈ l) := by
  rw [← valV_any, List.any_map]
  rw [Bool.eq_iff_iff, List.any_eq_true, decide_eq_true_iff]
  constructor
  · rintro ⟨x, hx, e⟩
    have e := of_decide_eq_true e
    have e2 : (pairK x).1 = (pairK q).1 := e
    rw [pairK_inj] at e2
    rw [← e2]
    exact hx
  · intro h
    exact ⟨q, h, decide_eq_true rfl⟩
theorem pairs_put (l : List (Cs × Cs)) (q : Cs × Cs) : putK (l.map pairK) (pairK q).1 (.bl true) = (if q ∈ l then l else l ++ [q]).map pairK := by
  unfold putK
  rw [valV_any, pairs_some]
  by_cases h : q ∈ l
  · rw [if_pos (decide_eq_true h), if_pos h, List.map_map]
    refine List.map_congr_left fun x _ => ?_
    show (if (pairK x).1 = (pairK q).1 then ((pairK x).1, V.bl true) else pairK x) = pairK x
    split <;> rfl
  · rw [if_neg (fun z => h (of_decide_eq_true z)), if_neg h, List.map_append]
    rfl
theorem rules_any {H : Hp} {k : Nat × Nat} : ∀ {rs : List ((Nat × Nat) × Rule)} {kvs : List (List Key × V)}, Paired (RuleAt H) rs kvs → (kvs.any fun kv => decide (kv.1 = keyT k)) = rs.any fun kv => decide (kv.1 = k)
  | _, _, .nil => rfl
  | _, _, .cons (a := r) (b := kv) h t => by
    rw [List.any_cons, List.any_cons, rules_any t]
    congr 1
    rw [h.1, Bool.eq_iff_iff, decide_eq_true_iff, decide_eq_true_iff, keyT_inj]
theorem rules_put {H : Hp} {k : Nat × Nat} {r : Rule} {t : Addr} (ht : H t = some (.tup [.int r.left, sV r.move, .int r.later])) {rs : List ((Nat × Nat) × Rule)} {kvs : List (List Key × V)} (h : Paired (RuleAt H) rs kvs) :
    Paired (RuleAt H) (putA rs k r) (putK kvs (keyT k) (.ref t)) := by
  unfold putA putK
  rw [rules_any h]
  split
  · rename_i hany
    clear hany
    induction h with
    | nil => exact .nil
    | @cons r0 kv l m h t ih =>
      refine .cons ?_ ih
      dsimp only
      by_cases e : r0.1 = k
      · rw [if_pos e, if_pos (by rw [h.1, e])]
        exact ⟨h.1, _, rfl, ht⟩
      · rw [if_neg e, if_neg (by rw [h.1]; exact fun q => e (keyT_inj.mp q))]
        exact h
  · exact Paired_snoc h ⟨rfl, t, rfl, ht⟩
theorem Paired_len {α β : Type} {F : α → β → Prop} {l : List α} {m : List β} (h : Paired F l m) : l.length = m.length := h.length
theorem lp_no_parse_names {L : PLoc} {n : Nat} : (parF L n).lookup ("parse_names" : Str) = none := by kernel_rfl
theorem lp_no_parse_robot {L : PLoc} {n : Nat} : (parF L n).lookup ("parse_robot" : Str) = none := by kernel_rfl
theorem lp_no_parse_put {L : PLoc} {n : Nat} : (parF L n).lookup ("parse_put" : Str) = none := by kernel_rfl
theorem lp_no_parse_rule {L : PLoc} {n : Nat} : (parF L n).lookup ("parse_rule" : Str) = none := by kernel_rfl
theorem lp_no_parse_plan {L : PLoc} {n : Nat} : (parF L n).lookup ("parse_plan" : Str) = none := by kernel_rfl
section
variable {P : Program} {w : World} {K : PySem.W.Frag} {mg : Str → Option Value} {base : Heap}
def spParseRobot (K : PySem.W.Frag) : Sp := fun vs H Q E => ∃ (H0 : Hp) (p : Addr) (L : PLoc) (tas : List Addr) (T : List Tk) (st : PSt) (tiles : Nat), vs = [.ref p, .int tiles] ∧ PA K H0 H p L tas T st ∧ GoodT T ∧ Bd T st ∧
  Res K H0 p L tas T (parseRobot T tiles st) Q E retU
theorem sc_parse_robot : FnScope ["self", "tiles", "keyword", "tile", "way"] ["self", "tiles"] (defScope s_Parser_parse_robot) := ⟨rfl, rfl, rfl, by decide +kernel, rfl, by decide +kernel, by decide +kernel⟩
theorem ok_parse_robot (T : ParT K mg) : FnE P w K mg base (L2.CX P w) 6 ("Parser", some "parse_robot") ["self", "tiles"] (spParseRobot K) := by
  obtain ⟨fd, F⟩ := T.parse_robot.d
  obtain ⟨fdF, GF, bF, kF⟩ := ok_found (P := P) (w := w) (base := base) T
  obtain ⟨fdT, GT, bT, kT⟩ := ok_tile_of (P := P) (w := w) (base := base) T
  obtain ⟨fdW, GW, bW, kW⟩ := ok_take_word (P := P) (w := w) (base := base) T
  obtain ⟨fdK, GK, bK, kK⟩ := ok_take_keyword (P := P) (w := w) (base := base) T
  obtain ⟨t1, mMAX⟩ := T.MAX_ROBOTS
  refine ⟨fd, F.ok sc_parse_robot (fun vs H Q E h => ?_) (fun cdv A outer s H vs Q E hr h => ?_), F.bindsN fun _ _ _ _ _ _ us hl => match us, hl with | [_, _], _ => rfl, F.kp⟩
  · obtain ⟨H0, p, L, tas, Ts, st, tiles, rfl, _⟩ := h
    rfl
  · obtain ⟨H0, p, L, tas, Ts, st, tiles, rfl, hP, hG, hB, R⟩ := h
    have hr1 : Room 1 _ := hr.mono (by decide)
    have hr4 : Room 4 _ := hr.mono (by decide)
    refine ⟨_, (pss_cons (ps_set (i := 2) sc_parse_robot.nd rfl (.inl rfl) (pe_meth (pv 0) T.par.c T.take_word.m GW hr4 bW .nil (passes_call (takes_of rfl rfl rfl rfl) (fun _ _ _ _ h => h)) (pa_cons pe_str pa_nil)))
      (C8.pss_cut (ps_if (pt_cmpR op_eq (pe_callB call_len_seq (by rfl) T.l.len boot_len (pa_cons (pe_fld (pv 0) rfl) pa_nil)) (pe_glob (v := .int 3) rfl mMAX ⟨_, rfl⟩) (nomark _))
        (pss_one (ps_expr (pe_meth (pv 0) T.par.c T.found.m GF hr1 bF .nil pass0 (pa_cons pe_str (pa_cons (pv 2) pa_nil))))) pss_nil)
      (pss_cons (ps_set (i := 3) sc_parse_robot.nd rfl (.inl rfl) (pe_meth (pv 0) T.par.c T.tile_of.m GT hr bT .nil (passes_call (takes_of rfl rfl rfl rfl) (fun _ _ _ _ h => h)) (pa_cons (pv 1) pa_nil)))
      (pss_cons (ps_set (i := 4) sc_parse_robot.nd rfl (.inl rfl) (pe_meth (pv 0) T.par.c T.take_keyword.m GK hr4 bK .nil (passes_call (takes_of rfl rfl rfl rfl) (fun _ _ _ _ h => h)) (pa_cons (pe_glob (v := .ref (He.ga K nWays)) rfl T.WAYS rfl) pa_nil)))
      (pss_cons (ps_expr (pe_meth (pv 0) T.par.c T.take_word.m GW hr4 bW .nil (passes_call (takes_of rfl rfl rfl rfl) (fun _ _ _ _ h => h)) (pa_cons pe_str pa_nil)))
      (pss_one (ps_expr (pe_bm PySem.F.plainAttrs_list PySem.F.slot_list_append PySem.F.type_list_append mt_append (pe_fld (pv 0) rfl)
        (pa_cons (pe_tup (pa_cons (pv 3) (pa_cons (pe_cmpR op_eq (pe_fld (pv 4) rfl) pe_str (nomark _)) pa_nil))) pa_nil))))))))), ?_⟩
    obtain ⟨dx, ob⟩ := hP.ob
    refine ⟨_, rfl, p, dx, _, rfl, ob, lp_no_take_word, H0, p, L, tas, Ts, st, wRobot, by rw [e_robot]; rfl, hP, hB.at_, ⟨fun kw s1 h1 v H1 hv hP1 => ?_, fun l c he => R.er l c (by simp only [parseRobot, he])⟩⟩
    obtain ⟨a1, rfl, hta1⟩ := hv
    obtain ⟨B1, f1, e1⟩ := bd_word hG hB h1 (by decide)
    have hlen := hG.len
    have hat := B1.at_
    have hB1f := B1.fa
    obtain ⟨ras, hra, hras⟩ := hP1.ro
    obtain ⟨dx1, ob1⟩ := hP1.ob
    have B2 : Bd Ts (if s1.robots.length = 3 then s1.found rRobots kw else s1) := by
      split
      · exact B1.found (by omega)
      · exact B1
    refine ⟨fun σ' H' => σ' = [some (.ref p), some (.int tiles), some (.ref a1), none, none] ∧ PA K H0 H' p L tas Ts (if s1.robots.length = 3 then s1.found rRobots kw else s1), ?_, ?_⟩
    · refine ⟨_, rfl, p, _, dx1, _, _, rfl, ob1, T.par.c, T.par.n _ (by simp), lp_robots, L.rl, _, rfl, .inl (SqL.of hra), rfl, _, rfl, ?_⟩
      rw [List.length_map, hras.length]
      refine ite2 (fun h => ?_) (fun h => ?_)
      · have h : s1.robots.length = 3 := Int.ofNat_inj.mp (V.int.inj (of_decide_eq_true h))
        refine ⟨_, rfl, p, dx1, _, rfl, ob1, lp_no_found, _, rfl, H0, p, L, tas, Ts, s1, rRobots, a1, kw, by rw [e_robots]; rfl, hP1, hta1, by omega, fun H2 hP2 => ⟨rfl, ?_⟩⟩
        rw [if_pos h]
        exact hP2
      · have h : ¬ s1.robots.length = 3 := fun q => h (decide_eq_true (by rw [q]; rfl))
        refine ⟨rfl, ?_⟩
        rw [if_neg h]
        exact hP1
    · rintro σ' H2 ⟨rfl, hP2⟩
      generalize hs2 : (if s1.robots.length = 3 then s1.found rRobots kw else s1) = s2 at *
      obtain ⟨dx2, ob2⟩ := hP2.ob
      have B2f := B2.fa
      have B2a := B2.at_
      refine ⟨_, rfl, p, dx2, _, rfl, ob2, lp_no_tile_of, _, rfl, H0, p, L, tas, Ts, s2, tiles, rfl, hP2, hG, B2.at_, by omega, ⟨fun n s3 h3 v H3 hv hP3 => ?_, fun l c he => R.er l c (by simp only [parseRobot, h1, hs2, he])⟩⟩
      obtain rfl : v = .int n := hv
      obtain ⟨B3, f3, a3, r3, _⟩ := bd_tile hG B2 h3
      obtain ⟨dx3, ob3⟩ := hP3.ob
      refine ⟨_, rfl, p, dx3, _, rfl, ob3, lp_no_take_keyword, H0, p, L, tas, Ts, s3, He.ga K nWays, ways, rfl, hP3, B3.at_, T.ways H3, ⟨fun wy s4 h4 v H4 hv hP4 => ?_, fun l c he => R.er l c (by simp only [parseRobot, h1, hs2, h3, he])⟩⟩
      obtain ⟨a4, rfl, hta4⟩ := hv
      obtain ⟨B4, f4, e4⟩ := bd_kw hG B3 h4
      obtain ⟨dx4, ob4⟩ := hP4.ob
      refine ⟨_, rfl, p, dx4, _, rfl, ob4, lp_no_take_word, H0, p, L, tas, Ts, s4, wSemi, by rw [e_semi]; rfl, hP4, B4.at_, ⟨fun t5 s5 h5 v H5 hv hP5 => ?_, fun l c he => R.er l c (by simp only [parseRobot, h1, hs2, h3, h4, he])⟩⟩
      clear hv
      obtain ⟨B5, f5, e5⟩ := bd_word hG B4 h5 (by decide)
      obtain ⟨dx5, ob5⟩ := hP5.ob
      obtain ⟨dt, ht⟩ := hP5.get hta4
      obtain ⟨ras5, hra5, hras5⟩ := hP5.ro
      have B5r := B5.ro
      have B5a := B5.at_
      refine ⟨_, rfl, p, _, dx5, _, _, rfl, ob5, T.par.c, T.par.n _ (by simp), lp_robots, .inl ⟨rfl, _, SqL.of hra5⟩, _, rfl, _, rfl, a4, _, dt, _, _, rfl, ht, T.l.tok.c, T.l.tok.n _ (by simp), lk_text, rfl, (by show 2 ≤ sizeLine; decide), fun tu ntu => ?_⟩
      have nrl : L.rl ≠ tu := ne_of_none hra5 ntu
      have ed : decide (V.str (sx wy.text) = V.str "right") = decide (wy.text = wRight) := by
        rw [e_right, Bool.eq_iff_iff, decide_eq_true_iff, decide_eq_true_iff]
        exact ⟨fun q => sx_inj (V.str.inj q), fun q => by rw [q]⟩
      rw [ed]
      refine ⟨L.rl, _, _, rfl, rfl, by rw [upd_ne nrl]; exact hra5, by rw [List.length_map, hras5.length, sizeLine_eq]; omega, ?_⟩
      have sm := sameUpd (o := .tup [.int n, .bl (decide (wy.text = wRight))]) (Same.refl H5) ntu
      have hP6 := hP5.mono sm
      have em : (ras5.map V.ref ++ [V.ref tu]) = (ras5 ++ [tu]).map V.ref := by rw [List.map_append]; rfl
      rw [em]
      have hP7 := hP6.set_rl (ras := ras5 ++ [tu]) (rs := s5.robots ++ [(n, decide (wy.text = wRight))]) (sm _ _ hra5) (Paired_snoc (Paired.mapP hras5 fun a r q => keepT (sm _ _ hra5) (fun xs q => by cases q) _ _ (sm _ _ q)) (by
        show (upd _ L.rl _) tu = _
        rw [upd_ne (Ne.symm nrl), upd_same]))
      exact R.ok () _ (by simp only [parseRobot, h1, hs2, h3, h4, h5]) _ _ rfl hP7
end
end Sw

end

section
set_option maxRecDepth 100000
set_option maxHeartbeats 4000000
/-! parse_put, parse_rule -/
namespace Sw
open PySem PySem.Spec PyProof.Rows L2 SwA
section
variable {P : Program} {w : World} {K : PySem.W.Frag} {mg : Str → Option Value} {base : Heap}
def spParsePut (K : PySem.W.Frag) : Sp := fun vs H Q E => ∃ (H0 : Hp) (p : Addr) (L : PLoc) (tas : List Addr) (T : List Tk) (st : PSt) (tiles : Nat), vs = [.ref p, .int tiles] ∧ PA K H0 H p L tas T st ∧ GoodT T ∧ Bd T st ∧
  Res K H0 p L tas T (parsePut T tiles st) Q E retU
theorem sc_parse_put : FnScope ["self", "tiles", "sign", "token", "tile"] ["self", "tiles"] (defScope s_Parser_parse_put) := ⟨rfl, rfl, rfl, by decide +kernel, rfl, by decide +kernel, by decide +kernel⟩
theorem ok_parse_put (T : ParT K mg) : FnE P w K mg base (L2.CX P w) 6 ("Parser", some "parse_put") ["self", "tiles"] (spParsePut K) := by
  obtain ⟨fd, F⟩ := T.parse_put.d
  obtain ⟨fdP, GP, bP, kP⟩ := ok_peek (P := P) (w := w) (base := base) T
  obtain ⟨fdF, GF, bF, kF⟩ := ok_found (P := P) (w := w) (base := base) T
  obtain ⟨fdN, GN, bN, kN⟩ := ok_number_of (P := P) (w := w) (base := base) T
  obtain ⟨fdA, GA, bA, kA⟩ := ok_take (P := P) (w := w) (base := base) T
  obtain ⟨fdT, GT, bT, kT⟩ := ok_tile_of (P := P) (w := w) (base := base) T
  obtain ⟨fdW, GW, bW, kW⟩ := ok_take_word (P := P) (w := w) (base := base) T
  obtain ⟨t1, mNAME⟩ := T.l.NAME
  refine ⟨fd, F.ok sc_parse_put (fun vs H Q E h => ?_) (fun cdv A outer s H vs Q E hr h => ?_), F.bindsN fun _ _ _ _ _ _ us hl => match us, hl with | [_, _], _ => rfl, F.kp⟩
  · obtain ⟨H0, p, L, tas, Ts, st, tiles, rfl, _⟩ := h
    rfl
  · obtain ⟨H0, p, L, tas, Ts, st, tiles, rfl, hP, hG, hB, R⟩ := h
    have hr1 : Room 1 _ := hr.mono (by decide)
    have hr2 : Room 2 _ := hr.mono (by decide)
    have hr4 : Room 4 _ := hr.mono (by decide)
    have hu := hu_of hr
    refine ⟨_, (pss_cons (ps_expr (pe_meth (pv 0) T.par.c T.take_word.m GW hr4 bW .nil (passes_call (takes_of rfl rfl rfl rfl) (fun _ _ _ _ h => h)) (pa_cons pe_str pa_nil)))
      (pss_cons (ps_set (i := 2) sc_parse_put.nd rfl (.inl rfl) (pe_meth (pv 0) T.par.c T.number_of.m GN hr2 bN .nil pass0 (pa_cons (pe_fld (pv 0) rfl)
        (pa_cons (pe_meth (pv 0) T.par.c T.take.m GA hr4 bA .nil (passes_call (takes_of rfl rfl rfl rfl) (fun _ _ _ _ h => h)) (pa_cons (pe_glob (v := .str "name") rfl mNAME ⟨_, rfl⟩) pa_nil)) pa_nil))))
      (pss_cons (ps_set (i := 3) sc_parse_put.nd rfl (.inl rfl) (pe_meth0 (pv 0) T.par.c T.peek.m GP hr1 bP .nil pass0))
      (pss_cons (ps_set (i := 4) sc_parse_put.nd rfl (.inl rfl) (pe_meth (pv 0) T.par.c T.tile_of.m GT hr bT .nil (passes_call (takes_of rfl rfl rfl rfl) (fun _ _ _ _ h => h)) (pa_cons (pv 1) pa_nil)))
      (pss_cons (ps_expr (pe_meth (pv 0) T.par.c T.take_word.m GW hr4 bW .nil (passes_call (takes_of rfl rfl rfl rfl) (fun _ _ _ _ h => h)) (pa_cons pe_str pa_nil)))
      (C8.pss_cut (ps_if (pt_cmp (pc_din hu (pv 4) (pe_fld (pv 0) rfl)))
        (pss_one (ps_expr (pe_meth (pv 0) T.par.c T.found.m GF hr1 bF .nil pass0 (pa_cons pe_str (pa_cons (pv 3) pa_nil))))) pss_nil)
      (pss_one (ps_dput hu (pe_fld (pv 0) rfl) (pv 4) (pv 2) rfl)))))))), ?_⟩
    obtain ⟨dx, ob⟩ := hP.ob
    have hlen := hG.len
    refine ⟨_, rfl, p, dx, _, rfl, ob, lp_no_take_word, H0, p, L, tas, Ts, st, wPut, by rw [e_put]; rfl, hP, hB.at_, ⟨fun kw s1 h1 v H1 hv hP1 => ?_, fun l c he => R.er l c (by simp only [parsePut, he])⟩⟩
    clear hv
    obtain ⟨B1, f1, e1⟩ := bd_word hG hB h1 (by decide)
    obtain ⟨dx1, ob1⟩ := hP1.ob
    have B1a := B1.at_
    refine ⟨_, rfl, p, dx1, _, rfl, ob1, lp_no_number_of, _, rfl, p, _, dx1, _, _, rfl, ob1, T.par.c, T.par.n _ (by simp), lp_signs, _, rfl, p, dx1, _, rfl, ob1, lp_no_take, H0, p, L, tas, Ts, s1, .name, rfl, hP1, B1.at_,
      ⟨fun nm s2 h2 v H2 hv hP2 => ?_, fun l c he => R.er l c (by simp only [parsePut, h1, he])⟩⟩
    obtain ⟨a2, rfl, hta2⟩ := hv
    obtain ⟨B2, f2, e2, _⟩ := bd_take hG B1 h2 (by decide)
    have B2f := B2.fa
    have B2a := B2.at_
    refine ⟨H0, p, L, tas, Ts, s2, false, a2, nm, rfl, hP2, hta2, by omega, fun H3 hP3 => ?_⟩
    have en : (s2.names false) = s2.signs := rfl
    rw [en] at hP3
    rw [en]
    obtain ⟨B3, a3, f3⟩ := bd_number B2 (names := s2.signs) (t := nm) (by omega)
    generalize hs3 : (numberOf s2.signs nm s2).2 = s3 at *
    generalize hn3 : (numberOf s2.signs nm s2).1 = n3 at *
    obtain ⟨dx3, ob3⟩ := hP3.ob
    refine ⟨_, rfl, p, dx3, _, rfl, ob3, lp_no_peek, H0, p, L, tas, Ts, s3, rfl, hP3, B3.at_, fun a4 hta4 => ?_⟩
    have B3f := B3.fa
    have B3a := B3.at_
    refine ⟨_, rfl, p, dx3, _, rfl, ob3, lp_no_tile_of, _, rfl, H0, p, L, tas, Ts, s3, tiles, rfl, hP3, hG, B3.at_, by omega, ⟨fun n s5 h5 v H5 hv hP5 => ?_, fun l c he => R.er l c (by simp only [parsePut, h1, h2, hs3, he])⟩⟩
    obtain rfl : v = .int n := hv
    obtain ⟨B5, f5, a5, r5, sp5⟩ := bd_tile hG B3 h5
    obtain ⟨dx5, ob5⟩ := hP5.ob
    refine ⟨_, rfl, p, dx5, _, rfl, ob5, lp_no_take_word, H0, p, L, tas, Ts, s5, wSemi, by rw [e_semi]; rfl, hP5, B5.at_, ⟨fun t6 s6 h6 v H6 hv hP6 => ?_, fun l c he => R.er l c (by simp only [parsePut, h1, h2, hs3, h5, he])⟩⟩
    clear hv
    obtain ⟨B6, f6, e6⟩ := bd_word hG B5 h6 (by decide)
    obtain ⟨dx6, ob6⟩ := hP6.ob
    have B6f := B6.fa
    have B6a := B6.at_
    have hfin : parsePut Ts tiles st = .ok ((), { (if (s6.spots.any fun kv => decide (kv.1 = n)) = true then s6.found rAgain (peek Ts s3) else s6) with
        spots := putA (if (s6.spots.any fun kv => decide (kv.1 = n)) = true then s6.found rAgain (peek Ts s3) else s6).spots n n3 }) := by
      simp only [parsePut, h1, h2, hs3, h5, h6, hn3]
    refine ⟨fun σ' H' => σ' = [some (.ref p), some (.int tiles), some (.int n3), some (.ref a4), some (.int n)] ∧ PA K H0 H' p L tas Ts (if (s6.spots.any fun kv => decide (kv.1 = n)) = true then s6.found rAgain (peek Ts s3) else s6), ?_, ?_⟩
    · refine ⟨_, rfl, _, rfl, p, _, dx6, _, _, rfl, ob6, T.par.c, T.par.n _ (by simp), lp_spots, L.sd, _, rfl, DGet.k (k := Sum.inl (n : Int)) hP6.sp, _, rfl, ?_⟩
      rw [spots_any]
      refine ite2 (fun h => ?_) (fun h => ?_)
      · refine ⟨_, rfl, p, dx6, _, rfl, ob6, lp_no_found, _, rfl, H0, p, L, tas, Ts, s6, rAgain, a4, _, by rw [e_again]; rfl, hP6, hta4, by omega, fun H7 hP7 => ⟨rfl, ?_⟩⟩
        rw [if_pos h]
        exact hP7
      · refine ⟨rfl, ?_⟩
        rw [if_neg h]
        exact hP6
    · rintro σ' H7 ⟨rfl, hP7⟩
      have hsp : (if (s6.spots.any fun kv => decide (kv.1 = n)) = true then s6.found rAgain (peek Ts s3) else s6).spots = s6.spots := by split <;> rfl
      generalize hs7 : (if (s6.spots.any fun kv => decide (kv.1 = n)) = true then s6.found rAgain (peek Ts s3) else s6) = s7 at *
      obtain ⟨dx7, ob7⟩ := hP7.ob
      have B6s := B6.sp
      refine ⟨_, rfl, _, rfl, p, _, dx7, _, _, rfl, ob7, T.par.c, T.par.n _ (by simp), lp_spots, _, rfl, L.sd, _, rfl, DPut.k (k := Sum.inl (n : Int)) hP7.sp (by rw [List.length_map, hsp, sizeLine_eq]; omega), ?_⟩
      rw [spots_put]
      exact R.ok () _ hfin _ _ rfl (hP7.set_sd hP7.sp trivial)
def spParseRule (K : PySem.W.Frag) : Sp := fun vs H Q E => ∃ (H0 : Hp) (p : Addr) (L : PLoc) (tas : List Addr) (T : List Tk) (st : PSt), vs = [.ref p] ∧ PA K H0 H p L tas T st ∧ GoodT T ∧ Bd T st ∧
  Res K H0 p L tas T (parseRule T st) Q E retU
theorem sc_parse_rule : FnScope ["self", "keyword", "first", "mood", "second", "sign", "left", "move", "later"] ["self"] (defScope s_Parser_parse_rule) := ⟨rfl, rfl, rfl, by decide +kernel, rfl, by decide +kernel, by decide +kernel⟩
theorem ok_parse_rule (T : ParT K mg) : FnE P w K mg base (L2.CX P w) 6 ("Parser", some "parse_rule") ["self"] (spParseRule K) := by
  obtain ⟨fd, F⟩ := T.parse_rule.d
  obtain ⟨fdF, GF, bF, kF⟩ := ok_found (P := P) (w := w) (base := base) T
  obtain ⟨fdN, GN, bN, kN⟩ := ok_number_of (P := P) (w := w) (base := base) T
  obtain ⟨fdA, GA, bA, kA⟩ := ok_take (P := P) (w := w) (base := base) T
  obtain ⟨fdW, GW, bW, kW⟩ := ok_take_word (P := P) (w := w) (base := base) T
  obtain ⟨fdK, GK, bK, kK⟩ := ok_take_keyword (P := P) (w := w) (base := base) T
  obtain ⟨t1, mNAME⟩ := T.l.NAME
  refine ⟨fd, F.ok sc_parse_rule (fun vs H Q E h => ?_) (fun cdv A outer s H vs Q E hr h => ?_), F.bindsN fun _ _ _ _ _ _ us hl => match us, hl with | [_], _ => rfl, F.kp⟩
  · obtain ⟨H0, p, L, tas, Ts, st, rfl, _⟩ := h
    rfl
  · obtain ⟨H0, p, L, tas, Ts, st, rfl, hP, hG, hB, R⟩ := h
    have hr1 : Room 1 _ := hr.mono (by decide)
    have hr2 : Room 2 _ := hr.mono (by decide)
    have hr4 : Room 4 _ := hr.mono (by decide)
    have hu := hu_of hr
    refine ⟨_, (pss_cons (ps_set (i := 1) sc_parse_rule.nd rfl (.inl rfl) (pe_meth (pv 0) T.par.c T.take_word.m GW hr4 bW .nil (passes_call (takes_of rfl rfl rfl rfl) (fun _ _ _ _ h => h)) (pa_cons pe_str pa_nil)))
      (pss_cons (ps_set (i := 2) sc_parse_rule.nd rfl (.inl rfl) (pe_meth (pv 0) T.par.c T.take.m GA hr4 bA .nil (passes_call (takes_of rfl rfl rfl rfl) (fun _ _ _ _ h => h)) (pa_cons (pe_glob (v := .str "name") rfl mNAME ⟨_, rfl⟩) pa_nil)))
      (pss_cons (ps_set (i := 3) sc_parse_rule.nd rfl (.inl rfl) (pe_meth (pv 0) T.par.c T.number_of.m GN hr2 bN .nil pass0 (pa_cons (pe_fld (pv 0) rfl) (pa_cons (pv 2) pa_nil))))
      (pss_cons (ps_set (i := 4) sc_parse_rule.nd rfl (.inl rfl) (pe_meth (pv 0) T.par.c T.take.m GA hr4 bA .nil (passes_call (takes_of rfl rfl rfl rfl) (fun _ _ _ _ h => h)) (pa_cons (pe_glob (v := .str "name") rfl mNAME ⟨_, rfl⟩) pa_nil)))
      (pss_cons (ps_set (i := 5) sc_parse_rule.nd rfl (.inl rfl) (pe_meth (pv 0) T.par.c T.number_of.m GN hr2 bN .nil pass0 (pa_cons (pe_fld (pv 0) rfl) (pa_cons (pv 4) pa_nil))))
      (pss_cons (ps_expr (pe_meth (pv 0) T.par.c T.take_word.m GW hr4 bW .nil (passes_call (takes_of rfl rfl rfl rfl) (fun _ _ _ _ h => h)) (pa_cons pe_str pa_nil)))
      (pss_cons (ps_set (i := 6) sc_parse_rule.nd rfl (.inl rfl) (pe_meth (pv 0) T.par.c T.number_of.m GN hr2 bN .nil pass0 (pa_cons (pe_fld (pv 0) rfl)
        (pa_cons (pe_meth (pv 0) T.par.c T.take.m GA hr4 bA .nil (passes_call (takes_of rfl rfl rfl rfl) (fun _ _ _ _ h => h)) (pa_cons (pe_glob (v := .str "name") rfl mNAME ⟨_, rfl⟩) pa_nil)) pa_nil))))
      (pss_cons (ps_set (i := 7) sc_parse_rule.nd rfl (.inl rfl) (pe_meth (pv 0) T.par.c T.take_keyword.m GK hr4 bK .nil (passes_call (takes_of rfl rfl rfl rfl) (fun _ _ _ _ h => h)) (pa_cons (pe_glob (v := .ref (He.ga K "MOVES")) rfl T.MOVES rfl) pa_nil)))
      (pss_cons (ps_set (i := 8) sc_parse_rule.nd rfl (.inl rfl) (pe_meth (pv 0) T.par.c T.number_of.m GN hr2 bN .nil pass0 (pa_cons (pe_fld (pv 0) rfl)
        (pa_cons (pe_meth (pv 0) T.par.c T.take.m GA hr4 bA .nil (passes_call (takes_of rfl rfl rfl rfl) (fun _ _ _ _ h => h)) (pa_cons (pe_glob (v := .str "name") rfl mNAME ⟨_, rfl⟩) pa_nil)) pa_nil))))
      (pss_cons (ps_expr (pe_meth (pv 0) T.par.c T.take_word.m GW hr4 bW .nil (passes_call (takes_of rfl rfl rfl rfl) (fun _ _ _ _ h => h)) (pa_cons pe_str pa_nil)))
      (C8.pss_cut (ps_if (pt_cmp (pc_din hu (pe_tup (pa_cons (pe_fld (pv 2) rfl) (pa_cons (pe_fld (pv 4) rfl) pa_nil))) (pe_fld (pv 0) rfl)))
        (pss_one (ps_expr (pe_meth (pv 0) T.par.c T.found.m GF hr1 bF .nil pass0 (pa_cons pe_str (pa_cons (pv 1) pa_nil))))) pss_nil)
      (pss_cons (ps_dput hu (pe_fld (pv 0) rfl) (pe_tup (pa_cons (pe_fld (pv 2) rfl) (pa_cons (pe_fld (pv 4) rfl) pa_nil))) pe_bl rfl)
      (pss_one (ps_dput hu (pe_fld (pv 0) rfl) (pe_tup (pa_cons (pv 3) (pa_cons (pv 5) pa_nil))) (pe_tup (pa_cons (pv 6) (pa_cons (pe_fld (pv 7) rfl) (pa_cons (pv 8) pa_nil)))) rfl)))))))))))))), ?_⟩
    obtain ⟨dx, ob⟩ := hP.ob
    have hlen := hG.len
    refine ⟨_, rfl, p, dx, _, rfl, ob, lp_no_take_word, H0, p, L, tas, Ts, st, wWhen, by rw [e_when]; rfl, hP, hB.at_, ⟨fun kw s1 h1 v H1 hv hP1 => ?_, fun l c he => R.er l c (by simp only [parseRule, he])⟩⟩
    obtain ⟨akw, rfl, htakw⟩ := hv
    obtain ⟨B1, f1, e1⟩ := bd_word hG hB h1 (by decide)
    obtain ⟨dx1, ob1⟩ := hP1.ob
    refine ⟨_, rfl, p, dx1, _, rfl, ob1, lp_no_take, H0, p, L, tas, Ts, s1, .name, rfl, hP1, B1.at_, ⟨fun first s2 h2 v H2 hv hP2 => ?_, fun l c he => R.er l c (by simp only [parseRule, h1, he])⟩⟩
    obtain ⟨af, rfl, htaf⟩ := hv
    obtain ⟨B2, f2, e2, _⟩ := bd_take hG B1 h2 (by decide)
    obtain ⟨dx2, ob2⟩ := hP2.ob
    have B2f := B2.fa
    have B2a := B2.at_
    refine ⟨_, rfl, p, dx2, _, rfl, ob2, lp_no_number_of, _, rfl, p, _, dx2, _, _, rfl, ob2, T.par.c, T.par.n _ (by simp), lp_moods, _, rfl, H0, p, L, tas, Ts, s2, true, af, first, rfl, hP2, htaf, by omega, fun H3 hP3 => ?_⟩
    have en2 : (s2.names true) = s2.moods := rfl
    rw [en2] at hP3
    rw [en2]
    obtain ⟨B3, a3, f3⟩ := bd_number B2 (names := s2.moods) (t := first) (by omega)
    generalize hs3 : (numberOf s2.moods first s2).2 = s3 at *
    generalize hmood : (numberOf s2.moods first s2).1 = mood at *
    obtain ⟨dx3, ob3⟩ := hP3.ob
    refine ⟨_, rfl, p, dx3, _, rfl, ob3, lp_no_take, H0, p, L, tas, Ts, s3, .name, rfl, hP3, B3.at_, ⟨fun second s4 h4 v H4 hv hP4 => ?_, fun l c he => R.er l c (by simp only [parseRule, h1, h2, hs3, he])⟩⟩
    obtain ⟨as, rfl, htas⟩ := hv
    obtain ⟨B4, f4, e4, _⟩ := bd_take hG B3 h4 (by decide)
    obtain ⟨dx4, ob4⟩ := hP4.ob
    have B4f := B4.fa
    have B4a := B4.at_
    refine ⟨_, rfl, p, dx4, _, rfl, ob4, lp_no_number_of, _, rfl, p, _, dx4, _, _, rfl, ob4, T.par.c, T.par.n _ (by simp), lp_signs, _, rfl, H0, p, L, tas, Ts, s4, false, as, second, rfl, hP4, htas, by omega, fun H5 hP5 => ?_⟩
    have en4 : (s4.names false) = s4.signs := rfl
    rw [en4] at hP5
    rw [en4]
    obtain ⟨B5, a5, f5⟩ := bd_number B4 (names := s4.signs) (t := second) (by omega)
    generalize hs5 : (numberOf s4.signs second s4).2 = s5 at *
    generalize hsign : (numberOf s4.signs second s4).1 = sign at *
    obtain ⟨dx5, ob5⟩ := hP5.ob
    refine ⟨_, rfl, p, dx5, _, rfl, ob5, lp_no_take_word, H0, p, L, tas, Ts, s5, wLeave, by rw [e_leave]; rfl, hP5, B5.at_, ⟨fun t6 s6 h6 v H6 hv hP6 => ?_, fun l c he => R.er l c (by simp only [parseRule, h1, h2, hs3, h4, hs5, he])⟩⟩
    clear hv
    obtain ⟨B6, f6, e6⟩ := bd_word hG B5 h6 (by decide)
    obtain ⟨dx6, ob6⟩ := hP6.ob
    refine ⟨_, rfl, p, dx6, _, rfl, ob6, lp_no_number_of, _, rfl, p, _, dx6, _, _, rfl, ob6, T.par.c, T.par.n _ (by simp), lp_signs, _, rfl, p, dx6, _, rfl, ob6, lp_no_take, H0, p, L, tas, Ts, s6, .name, rfl, hP6, B6.at_,
      ⟨fun lf s7 h7 v H7 hv hP7 => ?_, fun l c he => R.er l c (by simp only [parseRule, h1, h2, hs3, h4, hs5, h6, he])⟩⟩
    obtain ⟨alf, rfl, htalf⟩ := hv
    obtain ⟨B7, f7, e7, _⟩ := bd_take hG B6 h7 (by decide)
    have B7f := B7.fa
    have B7a := B7.at_
    refine ⟨H0, p, L, tas, Ts, s7, false, alf, lf, rfl, hP7, htalf, by omega, fun H8 hP8 => ?_⟩
    have en7 : (s7.names false) = s7.signs := rfl
    rw [en7] at hP8
    rw [en7]
    obtain ⟨B8, a8, f8⟩ := bd_number B7 (names := s7.signs) (t := lf) (by omega)
    generalize hs8 : (numberOf s7.signs lf s7).2 = s8 at *
    generalize hleft : (numberOf s7.signs lf s7).1 = left at *
    obtain ⟨dx8, ob8⟩ := hP8.ob
    refine ⟨_, rfl, p, dx8, _, rfl, ob8, lp_no_take_keyword, H0, p, L, tas, Ts, s8, He.ga K "MOVES", moves, rfl, hP8, B8.at_, T.moves H8, ⟨fun mv s9 h9 v H9 hv hP9 => ?_, fun l c he => R.er l c (by simp only [parseRule, h1, h2, hs3, h4, hs5, h6, h7, hs8, he])⟩⟩
    obtain ⟨amv, rfl, htamv⟩ := hv
    obtain ⟨B9, f9, e9⟩ := bd_kw hG B8 h9
    obtain ⟨dx9, ob9⟩ := hP9.ob
    refine ⟨_, rfl, p, dx9, _, rfl, ob9, lp_no_number_of, _, rfl, p, _, dx9, _, _, rfl, ob9, T.par.c, T.par.n _ (by simp), lp_moods, _, rfl, p, dx9, _, rfl, ob9, lp_no_take, H0, p, L, tas, Ts, s9, .name, rfl, hP9, B9.at_,
      ⟨fun la s10 h10 v H10 hv hP10 => ?_, fun l c he => R.er l c (by simp only [parseRule, h1, h2, hs3, h4, hs5, h6, h7, hs8, h9, he])⟩⟩
    obtain ⟨ala, rfl, htala⟩ := hv
    obtain ⟨B10, f10, e10, _⟩ := bd_take hG B9 h10 (by decide)
    have B10f := B10.fa
    have B10a := B10.at_
    refine ⟨H0, p, L, tas, Ts, s10, true, ala, la, rfl, hP10, htala, by omega, fun H11 hP11 => ?_⟩
    have en10 : (s10.names true) = s10.moods := rfl
    rw [en10] at hP11
    rw [en10]
    obtain ⟨B11, a11, f11⟩ := bd_number B10 (names := s10.moods) (t := la) (by omega)
    generalize hs11 : (numberOf s10.moods la s10).2 = s11 at *
    generalize hlater : (numberOf s10.moods la s10).1 = later at *
    obtain ⟨dx11, ob11⟩ := hP11.ob
    refine ⟨_, rfl, p, dx11, _, rfl, ob11, lp_no_take_word, H0, p, L, tas, Ts, s11, wSemi, by rw [e_semi]; rfl, hP11, B11.at_, ⟨fun t12 s12 h12 v H12 hv hP12 => ?_, fun l c he => R.er l c (by simp only [parseRule, h1, h2, hs3, h4, hs5, h6, h7, hs8, h9, h10, hs11, he])⟩⟩
    clear hv
    obtain ⟨B12, f12, e12⟩ := bd_word hG B11 h12 (by decide)
    have B12f := B12.fa
    have B12a := B12.at_
    have B12p := B12.pr
    have B12r := B12.ru
    have hfin := fun (r : PR Unit) (e : parseRule Ts st = r) => e
    obtain ⟨dx12, ob12⟩ := hP12.ob
    obtain ⟨dtf, htf⟩ := hP12.get htaf
    obtain ⟨dts, hts⟩ := hP12.get htas
    generalize hz : (if (first.text, second.text) ∈ s12.pairs then s12.found rTwice kw else s12) = z
    have hfin : parseRule Ts st = .ok ((), { ({ z with pairs := if (first.text, second.text) ∈ z.pairs then z.pairs else z.pairs ++ [(first.text, second.text)] } : PSt) with
        rules := putA z.rules (mood, sign) ⟨left, mv.text, later⟩ }) := by
      simp only [parseRule, h1, h2, hs3, h4, hs5, h6, h7, hs8, h9, h10, hs11, h12, hmood, hsign, hleft, hlater, hz]
    have zp : z.pairs = s12.pairs ∧ z.rules = s12.rules := by rw [← hz]; split <;> exact ⟨rfl, rfl⟩
    refine ⟨fun σ' H' => σ' = [some (.ref p), some (.ref akw), some (.ref af), some (.int mood), some (.ref as), some (.int sign), some (.int left), some (.ref amv), some (.int later)] ∧ PA K H0 H' p L tas Ts z, ?_, ?_⟩
    · refine ⟨_, rfl, af, _, dtf, _, _, rfl, htf, T.l.tok.c, T.l.tok.n _ (by simp), lk_text, _, rfl, as, _, dts, _, _, rfl, hts, T.l.tok.c, T.l.tok.n _ (by simp), lk_text, (by show 2 ≤ sizeLine; decide), fun tu ntu => ?_⟩
      have sm := sameUpd (o := .tup [sV first.text, sV second.text]) (Same.refl H12) ntu
      have hP13 := hP12.mono sm
      refine ⟨_, rfl, p, _, dx12, _, _, rfl, sm _ _ ob12, T.par.c, T.par.n _ (by simp), lp_pairs, L.pd, _, rfl, DGet.t (k := (pairK (first.text, second.text)).1) hP13.pr upd_same, _, rfl, ?_⟩
      rw [pairs_some]
      refine ite2 (fun h => ?_) (fun h => ?_)
      · have h := of_decide_eq_true h
        refine ⟨_, rfl, p, dx12, _, rfl, sm _ _ ob12, lp_no_found, _, rfl, H0, p, L, tas, Ts, s12, rTwice, akw, kw, by rw [e_twice]; rfl, hP13, htakw, by omega, fun H14 hP14 => ⟨rfl, ?_⟩⟩
        rw [← hz, if_pos h]
        exact hP14
      · have h : ¬ (first.text, second.text) ∈ s12.pairs := fun q => h (decide_eq_true q)
        refine ⟨rfl, ?_⟩
        rw [← hz, if_neg h]
        exact hP13
    · rintro σ' H13 ⟨rfl, hP13⟩
      obtain ⟨dx13, ob13⟩ := hP13.ob
      obtain ⟨dtf, htf⟩ := hP13.get htaf
      obtain ⟨dts, hts⟩ := hP13.get htas
      refine ⟨_, rfl, p, _, dx13, _, _, rfl, ob13, T.par.c, T.par.n _ (by simp), lp_pairs, _, rfl, af, _, dtf, _, _, rfl, htf, T.l.tok.c, T.l.tok.n _ (by simp), lk_text, _, rfl, as, _, dts, _, _, rfl, hts, T.l.tok.c, T.l.tok.n _ (by simp), lk_text, (by show 2 ≤ sizeLine; decide), fun tu ntu => ?_⟩
      have sm := sameUpd (o := .tup [sV first.text, sV second.text]) (Same.refl H13) ntu
      have hP14 := hP13.mono sm
      refine ⟨L.pd, _, rfl, DPut.t (k := (pairK (first.text, second.text)).1) hP14.pr upd_same (by rw [List.length_map, zp.1, sizeLine_eq]; omega), ?_⟩
      rw [pairs_put]
      have hP15 := hP14.set_pd (ps := if (first.text, second.text) ∈ z.pairs then z.pairs else z.pairs ++ [(first.text, second.text)]) hP14.pr trivial
      generalize hH15 : upd (upd H13 tu (.tup [sV first.text, sV second.text])) L.pd (.dT ((if (first.text, second.text) ∈ z.pairs then z.pairs else z.pairs ++ [(first.text, second.text)]).map pairK)) = H15 at *
      obtain ⟨dx15, ob15⟩ := hP15.ob
      obtain ⟨dtm, htm⟩ := hP15.get htamv
      refine ⟨_, rfl, _, rfl, amv, _, dtm, _, _, rfl, htm, T.l.tok.c, T.l.tok.n _ (by simp), lk_text, _, rfl, (by show 3 ≤ sizeLine; decide), fun tv ntv => ?_⟩
      have sm2 := sameUpd (o := .tup [.int left, sV mv.text, .int later]) (Same.refl H15) ntv
      refine ⟨_, rfl, p, _, dx15, _, _, rfl, sm2 _ _ ob15, T.par.c, T.par.n _ (by simp), lp_rules, _, rfl, _, rfl, (by show 2 ≤ sizeLine; decide), fun tk ntk => ?_⟩
      have sm3 := sm2.trans (sameUpd (o := .tup [.int mood, .int sign]) (Same.refl _) ntk)
      have hP16 := hP15.mono sm3
      obtain ⟨kvs, hkv, hkvs⟩ := hP16.ru
      have htv : (upd (upd H15 tv (.tup [.int left, sV mv.text, .int later])) tk (.tup [.int mood, .int sign])) tv = some (.tup [.int left, sV mv.text, .int later]) := by
        rw [upd_ne (ne_of_none upd_same ntk), upd_same]
      have hkl : z.rules.length = kvs.length := hkvs.length
      refine ⟨L.rd, _, rfl, DPut.t (k := keyT (mood, sign)) hkv upd_same (by rw [← hkl, zp.2, sizeLine_eq]; omega), ?_⟩
      refine R.ok () _ hfin _ _ rfl (hP16.set_rd hkv ?_)
      have z1 := rules_put (k := (mood, sign)) (r := ⟨left, mv.text, later⟩) htv hkvs
      exact Paired.mapP z1 fun r kv q => q.mono (keepT hkv fun xs q => by cases q)
end
end Sw

end

section
set_option maxRecDepth 100000
set_option maxHeartbeats 4000000
/-! Parser.__init__ -/
namespace Sw
open PySem PySem.Spec PyProof.Rows L2 SwA
theorem put_par (L : PLoc) : putF "spots" (.ref L.sd) (putF "pairs" (.ref L.pd) (putF "rules" (.ref L.rd) (putF "robots" (.ref L.rl) (putF "moods" (.ref L.ml) (putF "signs" (.ref L.sl) (putF "faults" (.ref L.fl) (putF "at" (.int 0) (putF "tokens" (.ref L.tl) [])))))))) = parF L 0 := by kernel_rfl
section
variable {P : Program} {w : World} {K : PySem.W.Frag} {mg : Str → Option Value} {base : Heap}
def spParInit (K : PySem.W.Frag) : Sp := fun vs H Q _ => ∃ (H0 : Hp) (p dx tl : Addr) (tas : List Addr) (T : List Tk), vs = [.ref p, .ref tl] ∧ H p = some (.ins (He.ga K "Parser") dx []) ∧ H tl = some (.lst (tas.map V.ref)) ∧ TksAt K H tas T ∧
  Same H0 H ∧ H0 p = none ∧ H0 tl = none ∧ ∀ (L : PLoc) (H' : Hp), PA K H0 H' p L tas T st0 → Q .non H'
theorem sc_par_init : FnScope ["self", "tokens"] ["self", "tokens"] (defScope s_Parser_init) := ⟨rfl, rfl, rfl, by decide +kernel, rfl, by decide +kernel, by decide +kernel⟩
theorem ok_par_init (T : ParT K mg) : FnE P w K mg base CX0 1 ("Parser", some "__init__") ["self", "tokens"] (spParInit K) := by
  obtain ⟨fd, F⟩ := T.init
  refine ⟨fd, F.ok sc_par_init (fun vs H Q E h => ?_) (fun cdv A outer s H vs Q E hr h => ?_), F.bindsN fun _ _ _ _ _ _ us hl => match us, hl with | [_, _], _ => rfl, F.kp⟩
  · obtain ⟨H0, p, dx, tl, tas, Ts, rfl, _⟩ := h
    rfl
  · obtain ⟨H0, p, dx, tl, tas, Ts, rfl, hp, htl, htk, sm, n0p, n0t, k⟩ := h
    refine ⟨_, PSs.nox (pss_cons (ps_fld (pv 0) (pv 1) rfl) (pss_cons (ps_fld (pv 0) pe_int rfl) (pss_cons (ps_fld (pv 0) (pe_lst pa_nil) rfl) (pss_cons (ps_fld (pv 0) (pe_lst pa_nil) rfl) (pss_cons (ps_fld (pv 0) (pe_lst pa_nil) rfl)
      (pss_cons (ps_fld (pv 0) (pe_lst pa_nil) rfl) (pss_cons (ps_fld (pv 0) pe_dnewT rfl) (pss_cons (ps_fld (pv 0) pe_dnewT rfl) (pss_one (ps_fld (pv 0) pe_dnewK rfl)))))))))), ?_⟩
    have kk0 : ∀ (Hc : Hp) (fs fs' : List (Str × V)), Hc p = some (.ins (He.ga K "Parser") dx fs) → TksAt K Hc tas Ts → TksAt K (upd Hc p (.ins (He.ga K "Parser") dx fs')) tas Ts := fun Hc fs fs' e h => Paired.mapP h fun a t q => keepK (K := K) e (fun C d gs z => by cases z; exact T.ne) a t q
    have ptl : tl ≠ p := ne_of htl hp (by intro z; cases z)
    refine ⟨_, rfl, _, rfl, p, _, dx, _, rfl, hp, T.par.c, T.par.n _ (by simp), lnZ ln0, ?_⟩
    refine ⟨_, rfl, p, _, dx, _, rfl, upd_same, T.par.c, T.par.n _ (by simp), lnZ (lnS ln0), ?_⟩
    rw [upd_upd]
    have at_p := @upd_same H p (.ins (He.ga K "Parser") dx (putF "at" (.int 0) (putF "tokens" (.ref tl) [])))
    have at_tl : (upd H p (.ins (He.ga K "Parser") dx (putF "at" (.int 0) (putF "tokens" (.ref tl) [])))) tl = some (.lst (tas.map V.ref)) := by rw [upd_ne ptl]; exact htl
    have tks := kk0 H _ (putF "at" (.int 0) (putF "tokens" (.ref tl) [])) hp htk
    have sm1 : Same H0 (upd H p (.ins (He.ga K "Parser") dx (putF "at" (.int 0) (putF "tokens" (.ref tl) [])))) := sameUpd sm n0p
    generalize upd H p (.ins (He.ga K "Parser") dx (putF "at" (.int 0) (putF "tokens" (.ref tl) []))) = H2 at *
    refine ⟨(by show 0 ≤ sizeLine; decide), fun fl n_fl => ?_⟩
    have n0_fl : H0 fl = none := sm1.free n_fl
    have p_fl : p ≠ fl := ne_of_none at_p n_fl
    have tl_fl : tl ≠ fl := ne_of_none at_tl n_fl
    refine ⟨_, rfl, p, _, dx, _, rfl, (upd_ne p_fl).trans at_p, T.par.c, T.par.n _ (by simp), lnZ (lnS (lnS ln0)), ?_⟩
    replace tks := kk0 _ _ (putF "faults" (.ref fl) (putF "at" (.int 0) (putF "tokens" (.ref tl) []))) ((upd_ne (o := .lst []) p_fl).trans at_p) (tks.same (sameUpd (o := .lst []) (Same.refl _) n_fl))
    replace at_p := @upd_same (upd H2 fl (.lst [])) p (.ins (He.ga K "Parser") dx (putF "faults" (.ref fl) (putF "at" (.int 0) (putF "tokens" (.ref tl) []))))
    replace at_tl := ((upd_ne (H := upd H2 fl (.lst [])) (o := .ins (He.ga K "Parser") dx (putF "faults" (.ref fl) (putF "at" (.int 0) (putF "tokens" (.ref tl) [])))) ptl).trans (upd_ne (o := .lst []) tl_fl)).trans at_tl
    have at_fl : (upd (upd H2 fl (.lst [])) p (.ins (He.ga K "Parser") dx (putF "faults" (.ref fl) (putF "at" (.int 0) (putF "tokens" (.ref tl) []))))) fl = some (.lst []) := (upd_ne (Ne.symm p_fl)).trans upd_same
    replace sm1 : Same H0 (upd (upd H2 fl (.lst [])) p (.ins (He.ga K "Parser") dx (putF "faults" (.ref fl) (putF "at" (.int 0) (putF "tokens" (.ref tl) []))))) := sameUpd (sameUpd sm1 n0_fl) n0p
    generalize upd (upd H2 fl (.lst [])) p (.ins (He.ga K "Parser") dx (putF "faults" (.ref fl) (putF "at" (.int 0) (putF "tokens" (.ref tl) [])))) = H3 at *
    refine ⟨(by show 0 ≤ sizeLine; decide), fun sl n_sl => ?_⟩
    have n0_sl : H0 sl = none := sm1.free n_sl
    have p_sl : p ≠ sl := ne_of_none at_p n_sl
    have tl_sl : tl ≠ sl := ne_of_none at_tl n_sl
    have fl_sl : fl ≠ sl := ne_of_none at_fl n_sl
    refine ⟨_, rfl, p, _, dx, _, rfl, (upd_ne p_sl).trans at_p, T.par.c, T.par.n _ (by simp), lnZ (lnS (lnS (lnS ln0))), ?_⟩
    replace tks := kk0 _ _ (putF "signs" (.ref sl) (putF "faults" (.ref fl) (putF "at" (.int 0) (putF "tokens" (.ref tl) [])))) ((upd_ne (o := .lst []) p_sl).trans at_p) (tks.same (sameUpd (o := .lst []) (Same.refl _) n_sl))
    replace at_p := @upd_same (upd H3 sl (.lst [])) p (.ins (He.ga K "Parser") dx (putF "signs" (.ref sl) (putF "faults" (.ref fl) (putF "at" (.int 0) (putF "tokens" (.ref tl) [])))))
    replace at_tl := ((upd_ne (H := upd H3 sl (.lst [])) (o := .ins (He.ga K "Parser") dx (putF "signs" (.ref sl) (putF "faults" (.ref fl) (putF "at" (.int 0) (putF "tokens" (.ref tl) []))))) ptl).trans (upd_ne (o := .lst []) tl_sl)).trans at_tl
    replace at_fl := ((upd_ne (H := upd H3 sl (.lst [])) (o := .ins (He.ga K "Parser") dx (putF "signs" (.ref sl) (putF "faults" (.ref fl) (putF "at" (.int 0) (putF "tokens" (.ref tl) []))))) (Ne.symm p_fl)).trans (upd_ne (o := .lst []) fl_sl)).trans at_fl
    have at_sl : (upd (upd H3 sl (.lst [])) p (.ins (He.ga K "Parser") dx (putF "signs" (.ref sl) (putF "faults" (.ref fl) (putF "at" (.int 0) (putF "tokens" (.ref tl) [])))))) sl = some (.lst []) := (upd_ne (Ne.symm p_sl)).trans upd_same
    replace sm1 : Same H0 (upd (upd H3 sl (.lst [])) p (.ins (He.ga K "Parser") dx (putF "signs" (.ref sl) (putF "faults" (.ref fl) (putF "at" (.int 0) (putF "tokens" (.ref tl) [])))))) := sameUpd (sameUpd sm1 n0_sl) n0p
    generalize upd (upd H3 sl (.lst [])) p (.ins (He.ga K "Parser") dx (putF "signs" (.ref sl) (putF "faults" (.ref fl) (putF "at" (.int 0) (putF "tokens" (.ref tl) []))))) = H4 at *
    refine ⟨(by show 0 ≤ sizeLine; decide), fun ml n_ml => ?_⟩
    have n0_ml : H0 ml = none := sm1.free n_ml
    have p_ml : p ≠ ml := ne_of_none at_p n_ml
    have tl_ml : tl ≠ ml := ne_of_none at_tl n_ml
    have fl_ml : fl ≠ ml := ne_of_none at_fl n_ml
    have sl_ml : sl ≠ ml := ne_of_none at_sl n_ml
    refine ⟨_, rfl, p, _, dx, _, rfl, (upd_ne p_ml).trans at_p, T.par.c, T.par.n _ (by simp), lnZ (lnS (lnS (lnS (lnS ln0)))), ?_⟩
    replace tks := kk0 _ _ (putF "moods" (.ref ml) (putF "signs" (.ref sl) (putF "faults" (.ref fl) (putF "at" (.int 0) (putF "tokens" (.ref tl) []))))) ((upd_ne (o := .lst []) p_ml).trans at_p) (tks.same (sameUpd (o := .lst []) (Same.refl _) n_ml))
    replace at_p := @upd_same (upd H4 ml (.lst [])) p (.ins (He.ga K "Parser") dx (putF "moods" (.ref ml) (putF "signs" (.ref sl) (putF "faults" (.ref fl) (putF "at" (.int 0) (putF "tokens" (.ref tl) []))))))
    replace at_tl := ((upd_ne (H := upd H4 ml (.lst [])) (o := .ins (He.ga K "Parser") dx (putF "moods" (.ref ml) (putF "signs" (.ref sl) (putF "faults" (.ref fl) (putF "at" (.int 0) (putF "tokens" (.ref tl) [])))))) ptl).trans (upd_ne (o := .lst []) tl_ml)).trans at_tl
    replace at_fl := ((upd_ne (H := upd H4 ml (.lst [])) (o := .ins (He.ga K "Parser") dx (putF "moods" (.ref ml) (putF "signs" (.ref sl) (putF "faults" (.ref fl) (putF "at" (.int 0) (putF "tokens" (.ref tl) [])))))) (Ne.symm p_fl)).trans (upd_ne (o := .lst []) fl_ml)).trans at_fl
    replace at_sl := ((upd_ne (H := upd H4 ml (.lst [])) (o := .ins (He.ga K "Parser") dx (putF "moods" (.ref ml) (putF "signs" (.ref sl) (putF "faults" (.ref fl) (putF "at" (.int 0) (putF "tokens" (.ref tl) [])))))) (Ne.symm p_sl)).trans (upd_ne (o := .lst []) sl_ml)).trans at_sl
    have at_ml : (upd (upd H4 ml (.lst [])) p (.ins (He.ga K "Parser") dx (putF "moods" (.ref ml) (putF "signs" (.ref sl) (putF "faults" (.ref fl) (putF "at" (.int 0) (putF "tokens" (.ref tl) []))))))) ml = some (.lst []) := (upd_ne (Ne.symm p_ml)).trans upd_same
    replace sm1 : Same H0 (upd (upd H4 ml (.lst [])) p (.ins (He.ga K "Parser") dx (putF "moods" (.ref ml) (putF "signs" (.ref sl) (putF "faults" (.ref fl) (putF "at" (.int 0) (putF "tokens" (.ref tl) []))))))) := sameUpd (sameUpd sm1 n0_ml) n0p
    generalize upd (upd H4 ml (.lst [])) p (.ins (He.ga K "Parser") dx (putF "moods" (.ref ml) (putF "signs" (.ref sl) (putF "faults" (.ref fl) (putF "at" (.int 0) (putF "tokens" (.ref tl) [])))))) = H5 at *
    refine ⟨(by show 0 ≤ sizeLine; decide), fun rl n_rl => ?_⟩
    have n0_rl : H0 rl = none := sm1.free n_rl
    have p_rl : p ≠ rl := ne_of_none at_p n_rl
    have tl_rl : tl ≠ rl := ne_of_none at_tl n_rl
    have fl_rl : fl ≠ rl := ne_of_none at_fl n_rl
    have sl_rl : sl ≠ rl := ne_of_none at_sl n_rl
    have ml_rl : ml ≠ rl := ne_of_none at_ml n_rl
    refine ⟨_, rfl, p, _, dx, _, rfl, (upd_ne p_rl).trans at_p, T.par.c, T.par.n _ (by simp), lnZ (lnS (lnS (lnS (lnS (lnS ln0))))), ?_⟩
    replace tks := kk0 _ _ (putF "robots" (.ref rl) (putF "moods" (.ref ml) (putF "signs" (.ref sl) (putF "faults" (.ref fl) (putF "at" (.int 0) (putF "tokens" (.ref tl) [])))))) ((upd_ne (o := .lst []) p_rl).trans at_p) (tks.same (sameUpd (o := .lst []) (Same.refl _) n_rl))
    replace at_p := @upd_same (upd H5 rl (.lst [])) p (.ins (He.ga K "Parser") dx (putF "robots" (.ref rl) (putF "moods" (.ref ml) (putF "signs" (.ref sl) (putF "faults" (.ref fl) (putF "at" (.int 0) (putF "tokens" (.ref tl) [])))))))
    replace at_tl := ((upd_ne (H := upd H5 rl (.lst [])) (o := .ins (He.ga K "Parser") dx (putF "robots" (.ref rl) (putF "moods" (.ref ml) (putF "signs" (.ref sl) (putF "faults" (.ref fl) (putF "at" (.int 0) (putF "tokens" (.ref tl) []))))))) ptl).trans (upd_ne (o := .lst []) tl_rl)).trans at_tl
    replace at_fl := ((upd_ne (H := upd H5 rl (.lst [])) (o := .ins (He.ga K "Parser") dx (putF "robots" (.ref rl) (putF "moods" (.ref ml) (putF "signs" (.ref sl) (putF "faults" (.ref fl) (putF "at" (.int 0) (putF "tokens" (.ref tl) []))))))) (Ne.symm p_fl)).trans (upd_ne (o := .lst []) fl_rl)).trans at_fl
    replace at_sl := ((upd_ne (H := upd H5 rl (.lst [])) (o := .ins (He.ga K "Parser") dx (putF "robots" (.ref rl) (putF "moods" (.ref ml) (putF "signs" (.ref sl) (putF "faults" (.ref fl) (putF "at" (.int 0) (putF "tokens" (.ref tl) []))))))) (Ne.symm p_sl)).trans (upd_ne (o := .lst []) sl_rl)).trans at_sl
    replace at_ml := ((upd_ne (H := upd H5 rl (.lst [])) (o := .ins (He.ga K "Parser") dx (putF "robots" (.ref rl) (putF "moods" (.ref ml) (putF "signs" (.ref sl) (putF "faults" (.ref fl) (putF "at" (.int 0) (putF "tokens" (.ref tl) []))))))) (Ne.symm p_ml)).trans (upd_ne (o := .lst []) ml_rl)).trans at_ml
    have at_rl : (upd (upd H5 rl (.lst [])) p (.ins (He.ga K "Parser") dx (putF "robots" (.ref rl) (putF "moods" (.ref ml) (putF "signs" (.ref sl) (putF "faults" (.ref fl) (putF "at" (.int 0) (putF "tokens" (.ref tl) [])))))))) rl = some (.lst []) := (upd_ne (Ne.symm p_rl)).trans upd_same
    replace sm1 : Same H0 (upd (upd H5 rl (.lst [])) p (.ins (He.ga K "Parser") dx (putF "robots" (.ref rl) (putF "moods" (.ref ml) (putF "signs" (.ref sl) (putF "faults" (.ref fl) (putF "at" (.int 0) (putF "tokens" (.ref tl) [])))))))) := sameUpd (sameUpd sm1 n0_rl) n0p
    generalize upd (upd H5 rl (.lst [])) p (.ins (He.ga K "Parser") dx (putF "robots" (.ref rl) (putF "moods" (.ref ml) (putF "signs" (.ref sl) (putF "faults" (.ref fl) (putF "at" (.int 0) (putF "tokens" (.ref tl) []))))))) = H6 at *
    intro rd n_rd
    have n0_rd : H0 rd = none := sm1.free n_rd
    have p_rd : p ≠ rd := ne_of_none at_p n_rd
    have tl_rd : tl ≠ rd := ne_of_none at_tl n_rd
    have fl_rd : fl ≠ rd := ne_of_none at_fl n_rd
    have sl_rd : sl ≠ rd := ne_of_none at_sl n_rd
    have ml_rd : ml ≠ rd := ne_of_none at_ml n_rd
    have rl_rd : rl ≠ rd := ne_of_none at_rl n_rd
    refine ⟨_, rfl, p, _, dx, _, rfl, (upd_ne p_rd).trans at_p, T.par.c, T.par.n _ (by simp), lnZ (lnS (lnS (lnS (lnS (lnS (lnS ln0)))))), ?_⟩
    replace tks := kk0 _ _ (putF "rules" (.ref rd) (putF "robots" (.ref rl) (putF "moods" (.ref ml) (putF "signs" (.ref sl) (putF "faults" (.ref fl) (putF "at" (.int 0) (putF "tokens" (.ref tl) []))))))) ((upd_ne (o := .dT []) p_rd).trans at_p) (tks.same (sameUpd (o := .dT []) (Same.refl _) n_rd))
    replace at_p := @upd_same (upd H6 rd (.dT [])) p (.ins (He.ga K "Parser") dx (putF "rules" (.ref rd) (putF "robots" (.ref rl) (putF "moods" (.ref ml) (putF "signs" (.ref sl) (putF "faults" (.ref fl) (putF "at" (.int 0) (putF "tokens" (.ref tl) []))))))))
    replace at_tl := ((upd_ne (H := upd H6 rd (.dT [])) (o := .ins (He.ga K "Parser") dx (putF "rules" (.ref rd) (putF "robots" (.ref rl) (putF "moods" (.ref ml) (putF "signs" (.ref sl) (putF "faults" (.ref fl) (putF "at" (.int 0) (putF "tokens" (.ref tl) [])))))))) ptl).trans (upd_ne (o := .dT []) tl_rd)).trans at_tl
    replace at_fl := ((upd_ne (H := upd H6 rd (.dT [])) (o := .ins (He.ga K "Parser") dx (putF "rules" (.ref rd) (putF "robots" (.ref rl) (putF "moods" (.ref ml) (putF "signs" (.ref sl) (putF "faults" (.ref fl) (putF "at" (.int 0) (putF "tokens" (.ref tl) [])))))))) (Ne.symm p_fl)).trans (upd_ne (o := .dT []) fl_rd)).trans at_fl
    replace at_sl := ((upd_ne (H := upd H6 rd (.dT [])) (o := .ins (He.ga K "Parser") dx (putF "rules" (.ref rd) (putF "robots" (.ref rl) (putF "moods" (.ref ml) (putF "signs" (.ref sl) (putF "faults" (.ref fl) (putF "at" (.int 0) (putF "tokens" (.ref tl) [])))))))) (Ne.symm p_sl)).trans (upd_ne (o := .dT []) sl_rd)).trans at_sl
    replace at_ml := ((upd_ne (H := upd H6 rd (.dT [])) (o := .ins (He.ga K "Parser") dx (putF "rules" (.ref rd) (putF "robots" (.ref rl) (putF "moods" (.ref ml) (putF "signs" (.ref sl) (putF "faults" (.ref fl) (putF "at" (.int 0) (putF "tokens" (.ref tl) [])))))))) (Ne.symm p_ml)).trans (upd_ne (o := .dT []) ml_rd)).trans at_ml
    replace at_rl := ((upd_ne (H := upd H6 rd (.dT [])) (o := .ins (He.ga K "Parser") dx (putF "rules" (.ref rd) (putF "robots" (.ref rl) (putF "moods" (.ref ml) (putF "signs" (.ref sl) (putF "faults" (.ref fl) (putF "at" (.int 0) (putF "tokens" (.ref tl) [])))))))) (Ne.symm p_rl)).trans (upd_ne (o := .dT []) rl_rd)).trans at_rl
    have at_rd : (upd (upd H6 rd (.dT [])) p (.ins (He.ga K "Parser") dx (putF "rules" (.ref rd) (putF "robots" (.ref rl) (putF "moods" (.ref ml) (putF "signs" (.ref sl) (putF "faults" (.ref fl) (putF "at" (.int 0) (putF "tokens" (.ref tl) []))))))))) rd = some (.dT []) := (upd_ne (Ne.symm p_rd)).trans upd_same
    replace sm1 : Same H0 (upd (upd H6 rd (.dT [])) p (.ins (He.ga K "Parser") dx (putF "rules" (.ref rd) (putF "robots" (.ref rl) (putF "moods" (.ref ml) (putF "signs" (.ref sl) (putF "faults" (.ref fl) (putF "at" (.int 0) (putF "tokens" (.ref tl) []))))))))) := sameUpd (sameUpd sm1 n0_rd) n0p
    generalize upd (upd H6 rd (.dT [])) p (.ins (He.ga K "Parser") dx (putF "rules" (.ref rd) (putF "robots" (.ref rl) (putF "moods" (.ref ml) (putF "signs" (.ref sl) (putF "faults" (.ref fl) (putF "at" (.int 0) (putF "tokens" (.ref tl) [])))))))) = H7 at *
    intro pd n_pd
    have n0_pd : H0 pd = none := sm1.free n_pd
    have p_pd : p ≠ pd := ne_of_none at_p n_pd
    have tl_pd : tl ≠ pd := ne_of_none at_tl n_pd
    have fl_pd : fl ≠ pd := ne_of_none at_fl n_pd
    have sl_pd : sl ≠ pd := ne_of_none at_sl n_pd
    have ml_pd : ml ≠ pd := ne_of_none at_ml n_pd
    have rl_pd : rl ≠ pd := ne_of_none at_rl n_pd
    have rd_pd : rd ≠ pd := ne_of_none at_rd n_pd
    refine ⟨_, rfl, p, _, dx, _, rfl, (upd_ne p_pd).trans at_p, T.par.c, T.par.n _ (by simp), lnZ (lnS (lnS (lnS (lnS (lnS (lnS (lnS ln0))))))), ?_⟩
    replace tks := kk0 _ _ (putF "pairs" (.ref pd) (putF "rules" (.ref rd) (putF "robots" (.ref rl) (putF "moods" (.ref ml) (putF "signs" (.ref sl) (putF "faults" (.ref fl) (putF "at" (.int 0) (putF "tokens" (.ref tl) [])))))))) ((upd_ne (o := .dT []) p_pd).trans at_p) (tks.same (sameUpd (o := .dT []) (Same.refl _) n_pd))
    replace at_p := @upd_same (upd H7 pd (.dT [])) p (.ins (He.ga K "Parser") dx (putF "pairs" (.ref pd) (putF "rules" (.ref rd) (putF "robots" (.ref rl) (putF "moods" (.ref ml) (putF "signs" (.ref sl) (putF "faults" (.ref fl) (putF "at" (.int 0) (putF "tokens" (.ref tl) [])))))))))
    replace at_tl := ((upd_ne (H := upd H7 pd (.dT [])) (o := .ins (He.ga K "Parser") dx (putF "pairs" (.ref pd) (putF "rules" (.ref rd) (putF "robots" (.ref rl) (putF "moods" (.ref ml) (putF "signs" (.ref sl) (putF "faults" (.ref fl) (putF "at" (.int 0) (putF "tokens" (.ref tl) []))))))))) ptl).trans (upd_ne (o := .dT []) tl_pd)).trans at_tl
    replace at_fl := ((upd_ne (H := upd H7 pd (.dT [])) (o := .ins (He.ga K "Parser") dx (putF "pairs" (.ref pd) (putF "rules" (.ref rd) (putF "robots" (.ref rl) (putF "moods" (.ref ml) (putF "signs" (.ref sl) (putF "faults" (.ref fl) (putF "at" (.int 0) (putF "tokens" (.ref tl) []))))))))) (Ne.symm p_fl)).trans (upd_ne (o := .dT []) fl_pd)).trans at_fl
    replace at_sl := ((upd_ne (H := upd H7 pd (.dT [])) (o := .ins (He.ga K "Parser") dx (putF "pairs" (.ref pd) (putF "rules" (.ref rd) (putF "robots" (.ref rl) (putF "moods" (.ref ml) (putF "signs" (.ref sl) (putF "faults" (.ref fl) (putF "at" (.int 0) (putF "tokens" (.ref tl) []))))))))) (Ne.symm p_sl)).trans (upd_ne (o := .dT []) sl_pd)).trans at_sl
    replace at_ml := ((upd_ne (H := upd H7 pd (.dT [])) (o := .ins (He.ga K "Parser") dx (putF "pairs" (.ref pd) (putF "rules" (.ref rd) (putF "robots" (.ref rl) (putF "moods" (.ref ml) (putF "signs" (.ref sl) (putF "faults" (.ref fl) (putF "at" (.int 0) (putF "tokens" (.ref tl) []))))))))) (Ne.symm p_ml)).trans (upd_ne (o := .dT []) ml_pd)).trans at_ml
    replace at_rl := ((upd_ne (H := upd H7 pd (.dT [])) (o := .ins (He.ga K "Parser") dx (putF "pairs" (.ref pd) (putF "rules" (.ref rd) (putF "robots" (.ref rl) (putF "moods" (.ref ml) (putF "signs" (.ref sl) (putF "faults" (.ref fl) (putF "at" (.int 0) (putF "tokens" (.ref tl) []))))))))) (Ne.symm p_rl)).trans (upd_ne (o := .dT []) rl_pd)).trans at_rl
    replace at_rd := ((upd_ne (H := upd H7 pd (.dT [])) (o := .ins (He.ga K "Parser") dx (putF "pairs" (.ref pd) (putF "rules" (.ref rd) (putF "robots" (.ref rl) (putF "moods" (.ref ml) (putF "signs" (.ref sl) (putF "faults" (.ref fl) (putF "at" (.int 0) (putF "tokens" (.ref tl) []))))))))) (Ne.symm p_rd)).trans (upd_ne (o := .dT []) rd_pd)).trans at_rd
    have at_pd : (upd (upd H7 pd (.dT [])) p (.ins (He.ga K "Parser") dx (putF "pairs" (.ref pd) (putF "rules" (.ref rd) (putF "robots" (.ref rl) (putF "moods" (.ref ml) (putF "signs" (.ref sl) (putF "faults" (.ref fl) (putF "at" (.int 0) (putF "tokens" (.ref tl) [])))))))))) pd = some (.dT []) := (upd_ne (Ne.symm p_pd)).trans upd_same
    replace sm1 : Same H0 (upd (upd H7 pd (.dT [])) p (.ins (He.ga K "Parser") dx (putF "pairs" (.ref pd) (putF "rules" (.ref rd) (putF "robots" (.ref rl) (putF "moods" (.ref ml) (putF "signs" (.ref sl) (putF "faults" (.ref fl) (putF "at" (.int 0) (putF "tokens" (.ref tl) [])))))))))) := sameUpd (sameUpd sm1 n0_pd) n0p
    generalize upd (upd H7 pd (.dT [])) p (.ins (He.ga K "Parser") dx (putF "pairs" (.ref pd) (putF "rules" (.ref rd) (putF "robots" (.ref rl) (putF "moods" (.ref ml) (putF "signs" (.ref sl) (putF "faults" (.ref fl) (putF "at" (.int 0) (putF "tokens" (.ref tl) []))))))))) = H8 at *
    intro sd n_sd
    have n0_sd : H0 sd = none := sm1.free n_sd
    have p_sd : p ≠ sd := ne_of_none at_p n_sd
    have tl_sd : tl ≠ sd := ne_of_none at_tl n_sd
    have fl_sd : fl ≠ sd := ne_of_none at_fl n_sd
    have sl_sd : sl ≠ sd := ne_of_none at_sl n_sd
    have ml_sd : ml ≠ sd := ne_of_none at_ml n_sd
    have rl_sd : rl ≠ sd := ne_of_none at_rl n_sd
    have rd_sd : rd ≠ sd := ne_of_none at_rd n_sd
    have pd_sd : pd ≠ sd := ne_of_none at_pd n_sd
    refine ⟨_, rfl, p, _, dx, _, rfl, (upd_ne p_sd).trans at_p, T.par.c, T.par.n _ (by simp), lnZ (lnS (lnS (lnS (lnS (lnS (lnS (lnS (lnS ln0)))))))), ?_⟩
    replace tks := kk0 _ _ (putF "spots" (.ref sd) (putF "pairs" (.ref pd) (putF "rules" (.ref rd) (putF "robots" (.ref rl) (putF "moods" (.ref ml) (putF "signs" (.ref sl) (putF "faults" (.ref fl) (putF "at" (.int 0) (putF "tokens" (.ref tl) []))))))))) ((upd_ne (o := .dK []) p_sd).trans at_p) (tks.same (sameUpd (o := .dK []) (Same.refl _) n_sd))
    replace at_p := @upd_same (upd H8 sd (.dK [])) p (.ins (He.ga K "Parser") dx (putF "spots" (.ref sd) (putF "pairs" (.ref pd) (putF "rules" (.ref rd) (putF "robots" (.ref rl) (putF "moods" (.ref ml) (putF "signs" (.ref sl) (putF "faults" (.ref fl) (putF "at" (.int 0) (putF "tokens" (.ref tl) []))))))))))
    replace at_tl := ((upd_ne (H := upd H8 sd (.dK [])) (o := .ins (He.ga K "Parser") dx (putF "spots" (.ref sd) (putF "pairs" (.ref pd) (putF "rules" (.ref rd) (putF "robots" (.ref rl) (putF "moods" (.ref ml) (putF "signs" (.ref sl) (putF "faults" (.ref fl) (putF "at" (.int 0) (putF "tokens" (.ref tl) [])))))))))) ptl).trans (upd_ne (o := .dK []) tl_sd)).trans at_tl
    replace at_fl := ((upd_ne (H := upd H8 sd (.dK [])) (o := .ins (He.ga K "Parser") dx (putF "spots" (.ref sd) (putF "pairs" (.ref pd) (putF "rules" (.ref rd) (putF "robots" (.ref rl) (putF "moods" (.ref ml) (putF "signs" (.ref sl) (putF "faults" (.ref fl) (putF "at" (.int 0) (putF "tokens" (.ref tl) [])))))))))) (Ne.symm p_fl)).trans (upd_ne (o := .dK []) fl_sd)).trans at_fl
    replace at_sl := ((upd_ne (H := upd H8 sd (.dK [])) (o := .ins (He.ga K "Parser") dx (putF "spots" (.ref sd) (putF "pairs" (.ref pd) (putF "rules" (.ref rd) (putF "robots" (.ref rl) (putF "moods" (.ref ml) (putF "signs" (.ref sl) (putF "faults" (.ref fl) (putF "at" (.int 0) (putF "tokens" (.ref tl) [])))))))))) (Ne.symm p_sl)).trans (upd_ne (o := .dK []) sl_sd)).trans at_sl
    replace at_ml := ((upd_ne (H := upd H8 sd (.dK [])) (o := .ins (He.ga K "Parser") dx (putF "spots" (.ref sd) (putF "pairs" (.ref pd) (putF "rules" (.ref rd) (putF "robots" (.ref rl) (putF "moods" (.ref ml) (putF "signs" (.ref sl) (putF "faults" (.ref fl) (putF "at" (.int 0) (putF "tokens" (.ref tl) [])))))))))) (Ne.symm p_ml)).trans (upd_ne (o := .dK []) ml_sd)).trans at_ml
    replace at_rl := ((upd_ne (H := upd H8 sd (.dK [])) (o := .ins (He.ga K "Parser") dx (putF "spots" (.ref sd) (putF "pairs" (.ref pd) (putF "rules" (.ref rd) (putF "robots" (.ref rl) (putF "moods" (.ref ml) (putF "signs" (.ref sl) (putF "faults" (.ref fl) (putF "at" (.int 0) (putF "tokens" (.ref tl) [])))))))))) (Ne.symm p_rl)).trans (upd_ne (o := .dK []) rl_sd)).trans at_rl
    replace at_rd := ((upd_ne (H := upd H8 sd (.dK [])) (o := .ins (He.ga K "Parser") dx (putF "spots" (.ref sd) (putF "pairs" (.ref pd) (putF "rules" (.ref rd) (putF "robots" (.ref rl) (putF "moods" (.ref ml) (putF "signs" (.ref sl) (putF "faults" (.ref fl) (putF "at" (.int 0) (putF "tokens" (.ref tl) [])))))))))) (Ne.symm p_rd)).trans (upd_ne (o := .dK []) rd_sd)).trans at_rd
    replace at_pd := ((upd_ne (H := upd H8 sd (.dK [])) (o := .ins (He.ga K "Parser") dx (putF "spots" (.ref sd) (putF "pairs" (.ref pd) (putF "rules" (.ref rd) (putF "robots" (.ref rl) (putF "moods" (.ref ml) (putF "signs" (.ref sl) (putF "faults" (.ref fl) (putF "at" (.int 0) (putF "tokens" (.ref tl) [])))))))))) (Ne.symm p_pd)).trans (upd_ne (o := .dK []) pd_sd)).trans at_pd
    have at_sd : (upd (upd H8 sd (.dK [])) p (.ins (He.ga K "Parser") dx (putF "spots" (.ref sd) (putF "pairs" (.ref pd) (putF "rules" (.ref rd) (putF "robots" (.ref rl) (putF "moods" (.ref ml) (putF "signs" (.ref sl) (putF "faults" (.ref fl) (putF "at" (.int 0) (putF "tokens" (.ref tl) []))))))))))) sd = some (.dK []) := (upd_ne (Ne.symm p_sd)).trans upd_same
    replace sm1 : Same H0 (upd (upd H8 sd (.dK [])) p (.ins (He.ga K "Parser") dx (putF "spots" (.ref sd) (putF "pairs" (.ref pd) (putF "rules" (.ref rd) (putF "robots" (.ref rl) (putF "moods" (.ref ml) (putF "signs" (.ref sl) (putF "faults" (.ref fl) (putF "at" (.int 0) (putF "tokens" (.ref tl) []))))))))))) := sameUpd (sameUpd sm1 n0_sd) n0p
    generalize upd (upd H8 sd (.dK [])) p (.ins (He.ga K "Parser") dx (putF "spots" (.ref sd) (putF "pairs" (.ref pd) (putF "rules" (.ref rd) (putF "robots" (.ref rl) (putF "moods" (.ref ml) (putF "signs" (.ref sl) (putF "faults" (.ref fl) (putF "at" (.int 0) (putF "tokens" (.ref tl) [])))))))))) = H9 at *
    refine k ⟨tl, fl, sl, ml, rl, rd, pd, sd⟩ H9 ⟨sm1, ⟨dx, at_p.trans (congrArg (fun z => some (HO.ins (He.ga K "Parser") dx z)) (put_par ⟨tl, fl, sl, ml, rl, rd, pd, sd⟩))⟩, at_tl, tks, ⟨[], at_fl, trivial⟩, at_sl, at_ml, ⟨[], at_rl, .nil⟩, ⟨[], at_rd, .nil⟩, at_pd, at_sd, ?_, ?_⟩
    · simp only [List.nodup_cons, List.mem_cons, List.not_mem_nil, or_false, not_or]
      exact ⟨⟨Ne.symm ptl, p_fl, p_sl, p_ml, p_rl, p_rd, p_pd, p_sd⟩, ⟨tl_fl, tl_sl, tl_ml, tl_rl, tl_rd, tl_pd, tl_sd⟩, ⟨fl_sl, fl_ml, fl_rl, fl_rd, fl_pd, fl_sd⟩, ⟨sl_ml, sl_rl, sl_rd, sl_pd, sl_sd⟩, ⟨ml_rl, ml_rd, ml_pd, ml_sd⟩, ⟨rl_rd, rl_pd, rl_sd⟩, ⟨rd_pd, rd_sd⟩, pd_sd, not_false, List.nodup_nil⟩
    · intro a ha
      simp only [List.mem_cons, List.not_mem_nil, or_false] at ha
      rcases ha with rfl | rfl | rfl | rfl | rfl | rfl | rfl | rfl | rfl <;> assumption
end
end Sw

end

section
set_option maxRecDepth 100000
set_option maxHeartbeats 4000000
/-! parse_plan, load -/
namespace Sw
open PySem PySem.Spec PyProof.Rows L2 SwA
structure LoadT (K : PySem.W.Frag) (mg : Str → Option Value) : Prop where
  p : ParT K mg
  plan : MkC K mg "Plan" planF
  d_plan : FD K ("Plan", some "__init__") "__init__" "Plan.__init__" s_Plan_init
  d_load : FD K ("load", none) "load" "load" s_load
  g_load : mg "load" = some (.ref (He.ga K "load"))
/-- a plan's object -/
def PlanAt (K : PySem.W.Frag) (H : Hp) (a : Addr) (pl : Plan) : Prop := ∃ (dx sa ma fa ra rd : Addr) (ras : List Addr),
  H a = some (.ins (He.ga K "Plan") dx [("signs", .ref sa), ("moods", .ref ma), ("floor", .ref fa), ("robots", .ref ra), ("rules", .ref rd)]) ∧ TupN H sa (pl.signs.map sV) ∧ TupN H ma (pl.moods.map sV) ∧
  H fa = some (.tup (pl.floor.map fun n : Nat => V.int n)) ∧ H ra = some (.tup (ras.map V.ref)) ∧ Paired (RobAt H) ras pl.robots ∧ RulesAt H rd pl.rules
theorem PlanAt.same {K : PySem.W.Frag} {H H' : Hp} {a : Addr} {pl : Plan} (s : Same H H') (h : PlanAt K H a pl) : PlanAt K H' a pl := by
  obtain ⟨dx, sa, ma, fa, ra, rd, ras, e1, e2, e3, e4, e5, e6, kvs, e7, e8⟩ := h
  exact ⟨dx, sa, ma, fa, ra, rd, ras, s _ _ e1, e2.mono fun _ z => s _ _ z, e3.mono fun _ z => s _ _ z, s _ _ e4, s _ _ e5, Paired.mapP e6 fun _ _ q => s _ _ q, kvs, s _ _ e7, Paired.mapP e8 fun _ _ q => q.mono fun _ _ z => s _ _ z⟩
theorem put_plan (a b c d e : V) : putF "rules" e (putF "robots" d (putF "floor" c (putF "moods" b (putF "signs" a [])))) = ([("signs", a), ("moods", b), ("floor", c), ("robots", d), ("rules", e)] : List (Str × V)) := by kernel_rfl
theorem spots_get (l : List (Nat × Nat)) (i : Nat) : (valV (l.map spotK) (.inl ((0 : Int) + (i : Nat)) : Key)).getD (.int 0) = .int ((getA l i).getD 0 : Nat) := by
  rw [Int.zero_add]
  induction l with
  | nil => rfl
  | cons a r ih =>
    by_cases e : a.1 = i
    · rw [List.map_cons, valV_pos (show (spotK a).1 = .inl (i : Int) by show (.inl (a.1 : Int) : Key) = _; rw [e])]
      unfold getA
      rw [List.find?_cons, decide_eq_true e]
      rfl
    · rw [List.map_cons, valV_neg (show ¬ (spotK a).1 = .inl (i : Int) from fun q => e (key_inl.mp q)), ih]
      unfold getA
      rw [List.find?_cons, decide_eq_false e]
/-! ### the tokens are good -/
theorem mem_tw {p : Nat → Bool} {x : Nat} : ∀ {l : Cs}, x ∈ l.takeWhile p → p x = true
  | [], h => by cases h
  | c :: r, h => by
    cases e : p c with
    | false => rw [List.takeWhile_cons, e] at h; cases h
    | true =>
      rw [List.takeWhile_cons, e] at h
      rcases List.mem_cons.mp h with q | q
      · rw [q]; exact e
      · exact mem_tw q
theorem readTok_kind {line col : Nat} {rest : Cs} {t : Tk} (h : readTok line col rest = some t) : t.kind ≠ .fin ∧ (t.kind = .number → (1 ≤ t.text.length ∧ t.text.length ≤ 2) ∧ t.text.all isD = true) := by
  unfold readTok at h
  split at h
  · cases h
  · rename_i c r
    split at h
    · cases h
      exact ⟨(fun q => by cases q), (fun q => by cases q)⟩
    · split at h
      · rename_i hd
        split at h
        · cases h
        · rename_i hn
          cases h
          refine ⟨(fun q => by cases q), fun _ => ⟨⟨?_, by show ((c :: r).takeWhile isD).length ≤ 2; omega⟩, ?_⟩⟩
          · simp [List.takeWhile_cons, hd]
          · rw [List.all_eq_true]
            intro x hx
            exact mem_tw hx
      · split at h
        · cases h
          exact ⟨(fun q => by cases q), (fun q => by cases q)⟩
        · split at h
          · cases h
            exact ⟨(fun q => by cases q), (fun q => by cases q)⟩
          · cases h
def TkG (t : Tk) : Prop := t.kind ≠ .fin ∧ (t.kind = .number → (1 ≤ t.text.length ∧ t.text.length ≤ 2) ∧ t.text.all isD = true)
theorem lexRow_good (line : Nat) : ∀ (f col : Nat) (rest : Cs) (ts : List Tk), lexRow line f col rest = .ok ts → (∀ t ∈ ts, TkG t) ∧ ts.length ≤ rest.length
  | f, col, [], ts, h => by
    have e : ts = [] := by cases f <;> (injection h with h; exact h.symm)
    subst e
    exact ⟨by simp, Nat.le_refl _⟩
  | 0, col, c :: r, ts, h => by
    injection h with h
    subst h
    exact ⟨by simp, Nat.zero_le _⟩
  | f + 1, col, c :: r, ts, h => by
    unfold lexRow at h
    split at h
    · have z := lexRow_good line f (col + 1) r ts h
      exact ⟨z.1, Nat.le_succ_of_le z.2⟩
    · split at h
      · cases h
      · rename_i t ht
        split at h
        · cases h
        · rename_i us hu
          cases h
          have z := lexRow_good line f _ _ us hu
          have l := readTok_len ht
          rw [List.length_drop] at z
          refine ⟨fun x hx => ?_, ?_⟩
          · rcases List.mem_cons.mp hx with q | q
            · rw [q]; exact readTok_kind ht
            · exact z.1 x q
          · simp only [List.length_cons] at z l ⊢
            omega
theorem lexRows_good : ∀ (rows : List Cs) (line : Nat) (ts : List Tk), lexRows line rows = .ok ts → (∀ t ∈ ts, TkG t) ∧ ts.length ≤ (rows.map List.length).sum
  | [], line, ts, h => by
    injection h with h
    subst h
    exact ⟨by simp, by simp⟩
  | row :: rest, line, ts, h => by
    unfold lexRows at h
    split at h
    · cases h
    · rename_i us hu
      split at h
      · cases h
      · rename_i vs hv
        cases h
        have z1 := lexRow_good line _ _ _ us hu
        have z2 := lexRows_good rest (line + 1) vs hv
        refine ⟨fun x hx => ?_, ?_⟩
        · rcases List.mem_append.mp hx with q | q
          · exact z1.1 x q
          · exact z2.1 x q
        · rw [List.length_append, List.map_cons, List.sum_cons]
          omega
theorem tokenize_good {text : Cs} {T : List Tk} (hl : text.length ≤ 90000) (h : tokenize text = .ok T) : GoodT T := by
  unfold tokenize at h
  split at h
  · cases h
  · rename_i ts ht
    cases h
    obtain ⟨g, gl⟩ := lexRows_good _ _ _ ht
    have gl2 := Nat.le_trans gl (rows_sum text)
    have get : ∀ (i : Nat) t, (ts ++ [(⟨.fin, [], (rowsOf text).length, 0⟩ : Tk)])[i]? = some t → (i < ts.length ∧ t ∈ ts) ∨ (i = ts.length ∧ t = ⟨.fin, [], (rowsOf text).length, 0⟩) := by
      intro i t e
      by_cases hi : i < ts.length
      · rw [List.getElem?_append_left hi] at e
        exact .inl ⟨hi, List.mem_of_getElem? e⟩
      · rw [List.getElem?_append_right (Nat.le_of_not_lt hi)] at e
        cases hd : i - ts.length with
        | zero =>
          rw [hd] at e
          exact .inr ⟨by omega, (Option.some.inj e).symm⟩
        | succ n =>
          rw [hd] at e
          simp at e
    refine ⟨fun i t e hi => ?_, by simp, fun i t e hk => ?_, fun t ht hk => ?_, by simp; omega⟩
    · rw [List.length_append] at hi
      rcases get i t e with q | q
      · have : [(⟨.fin, [], (rowsOf text).length, 0⟩ : Tk)].length = 1 := rfl
        omega
      · rw [q.2]
        exact ⟨rfl, rfl⟩
    · rcases get i t e with q | q
      · exact absurd hk (g t q.2).1
      · rw [q.1, List.length_append]
        rfl
    · rcases List.mem_append.mp ht with q | q
      · exact (g t q).2 hk
      · have e : t = ⟨.fin, [], (rowsOf text).length, 0⟩ := by simpa using q
        rw [e] at hk
        cases hk
theorem numVal_le {w : Cs} (h : w.all isD = true) (h2 : w.length ≤ 2) : numVal w ≤ 99 := by
  have d : ∀ c, isD c = true → c - 48 ≤ 9 := fun c hc => by
    unfold isD at hc
    rw [Bool.and_eq_true] at hc
    have := Nat.le_of_ble_eq_true hc.2
    omega
  match w, h, h2 with
  | [], _, _ => simp [numVal]
  | [a], h, _ =>
    simp only [List.all_cons, List.all_nil, Bool.and_true] at h
    have := d a h
    simp [numVal]
    omega
  | [a, b], h, _ =>
    simp only [List.all_cons, List.all_nil, Bool.and_true, Bool.and_eq_true] at h
    have h1 := d a h.1
    have h2 := d b h.2
    simp [numVal]
    omega
section
variable {P : Program} {w : World} {K : PySem.W.Frag} {mg : Str → Option Value} {base : Heap}
theorem sc_plan : FnScope ["self", "signs", "moods", "floor", "robots", "rules"] ["self", "signs", "moods", "floor", "robots", "rules"] (defScope s_Plan_init) := ⟨rfl, rfl, rfl, by decide +kernel, rfl, by decide +kernel, by decide +kernel⟩
theorem ok_plan (T : LoadT K mg) : FnE P w K mg base CX0 1 ("Plan", some "__init__") ["self", "signs", "moods", "floor", "robots", "rules"] (spInit (He.ga K "Plan") planF) := by
  obtain ⟨fd, F⟩ := T.d_plan
  refine ⟨fd, F.ok sc_plan (fun vs H Q E h => ?_) (fun cdv A outer s H vs Q E hr h => ?_), F.bindsN fun _ _ _ _ _ _ us hl => match us, hl with | [_, _, _, _, _, _], _ => rfl, F.kp⟩
  · obtain ⟨a, dx, args, rfl, e, _⟩ := h
    simp [e]
  · obtain ⟨p, dx, args, rfl, e, hp, k⟩ := h
    obtain ⟨v1, v2, v3, v4, v5, rfl⟩ : ∃ v1 v2 v3 v4 v5, args = [v1, v2, v3, v4, v5] := by
      match args, e with
      | [v1, v2, v3, v4, v5], _ => exact ⟨v1, v2, v3, v4, v5, rfl⟩
    refine ⟨_, PSs.nox (pss_cons (ps_fld (pv 0) (pv 1) rfl) (pss_cons (ps_fld (pv 0) (pv 2) rfl) (pss_cons (ps_fld (pv 0) (pv 3) rfl) (pss_cons (ps_fld (pv 0) (pv 4) rfl) (pss_one (ps_fld (pv 0) (pv 5) rfl)))))), ?_⟩
    refine ⟨_, rfl, _, rfl, p, _, dx, _, rfl, hp, T.plan.c, T.plan.n _ (by simp), lnZ ln0, ?_⟩
    refine ⟨_, rfl, _, rfl, p, _, dx, _, rfl, upd_same, T.plan.c, T.plan.n _ (by simp), lnZ (lnS ln0), ?_⟩
    refine ⟨_, rfl, _, rfl, p, _, dx, _, rfl, upd_same, T.plan.c, T.plan.n _ (by simp), lnZ (lnS (lnS ln0)), ?_⟩
    refine ⟨_, rfl, _, rfl, p, _, dx, _, rfl, upd_same, T.plan.c, T.plan.n _ (by simp), lnZ (lnS (lnS (lnS ln0))), ?_⟩
    refine ⟨_, rfl, _, rfl, p, _, dx, _, rfl, upd_same, T.plan.c, T.plan.n _ (by simp), lnZ (lnS (lnS (lnS (lnS ln0)))), ?_⟩
    refine k _ ?_ fun b hb => by rw [upd_ne hb, upd_ne hb, upd_ne hb, upd_ne hb, upd_ne hb]
    rw [upd_same, put_plan]
    rfl
def spParsePlan (K : PySem.W.Frag) : Sp := fun vs H Q E => ∃ (H0 : Hp) (p : Addr) (L : PLoc) (tas : List Addr) (T : List Tk), vs = [.ref p] ∧ PA K H0 H p L tas T st0 ∧ GoodT T ∧
  (∀ n s, parsePlan T = .ok (n, s) → s.faults = [] ∧ ∀ (a : Addr) (H' : Hp), H0 a = none → Same H0 H' → PlanAt K H' a (planOf n s) → Q (.ref a) H') ∧ (∀ l c, parsePlan T = .error (l, c) → Syn K H0 E l c)
abbrev ppN : List Str := ["self", "token", "tiles", "line", "column", "number", "reason", "floor", "tile"]
theorem sc_parse_plan : FnScope ppN ["self"] (defScope s_Parser_parse_plan) := ⟨rfl, rfl, rfl, by decide +kernel, rfl, by decide +kernel, by decide +kernel⟩
theorem ok_parse_plan (T : LoadT K mg) : FnE P w K mg base (L2.CX P w) 7 ("Parser", some "parse_plan") ["self"] (spParsePlan K) := by
  obtain ⟨fd, F⟩ := T.p.parse_plan.d
  obtain ⟨fdP, GP, bP, kP⟩ := ok_peek (P := P) (w := w) (base := base) T.p
  obtain ⟨fdF, GF, bF, kF⟩ := ok_found (P := P) (w := w) (base := base) T.p
  obtain ⟨fdX, GX, bX, kX⟩ := ok_fail (P := P) (w := w) (base := base) T.p
  obtain ⟨fdA, GA, bA, kA⟩ := ok_take (P := P) (w := w) (base := base) T.p
  obtain ⟨fdW, GW, bW, kW⟩ := ok_take_word (P := P) (w := w) (base := base) T.p
  obtain ⟨fdN, GN, bN, kN⟩ := ok_parse_names (P := P) (w := w) (base := base) T.p
  obtain ⟨fdR, GR, bR, kR⟩ := ok_parse_robot (P := P) (w := w) (base := base) T.p
  obtain ⟨fdU, GU, bU, kU⟩ := ok_parse_put (P := P) (w := w) (base := base) T.p
  obtain ⟨fdL, GL, bL, kL⟩ := ok_parse_rule (P := P) (w := w) (base := base) T.p
  obtain ⟨fdI, GI, bI, kI⟩ := ok_plan (P := P) (w := w) (base := base) T
  obtain ⟨t1, mNUM⟩ := T.p.l.NUMBER
  obtain ⟨t2, mEND⟩ := T.p.l.END
  obtain ⟨t3, mMT⟩ := T.p.MAX_TILES
  obtain ⟨t4, mMS⟩ := T.p.MAX_SIGNS
  obtain ⟨t5, mMM⟩ := T.p.MAX_MOODS
  refine ⟨fd, F.ok sc_parse_plan (fun vs H Q E h => ?_) (fun cdv A outer s H vs Q E hr h => ?_), F.bindsN fun _ _ _ _ _ _ us hl => match us, hl with | [_], _ => rfl, F.kp⟩
  · obtain ⟨H0, p, L, tas, Ts, rfl, _⟩ := h
    rfl
  · obtain ⟨H0, p, L, tas, Ts, rfl, hP, hG, hok, her⟩ := h
    have hr1 : Room 1 _ := hr.mono (by decide)
    have hr2 : Room 2 _ := hr.mono (by decide)
    have hr3 : Room 3 _ := hr.mono (by decide)
    have hr4 : Room 4 _ := hr.mono (by decide)
    have hr5 : Room 5 _ := hr.mono (by decide)
    have hu := hu_of hr
    refine ⟨_, (pss_cons (ps_expr (pe_meth (pv 0) T.p.par.c T.p.take_word.m GW hr4 bW .nil (passes_call (takes_of rfl rfl rfl rfl) (fun _ _ _ _ h => h)) (pa_cons pe_str pa_nil)))
      (pss_cons (ps_set (i := 1) sc_parse_plan.nd rfl (.inl rfl) (pe_meth (pv 0) T.p.par.c T.p.take.m GA hr4 bA .nil (passes_call (takes_of rfl rfl rfl rfl) (fun _ _ _ _ h => h)) (pa_cons (pe_glob (v := .str "number") rfl mNUM ⟨_, rfl⟩) pa_nil)))
      (pss_cons (ps_set (i := 2) sc_parse_plan.nd rfl (.inl rfl) (pe_callTy call_int_str (by rfl) T.p.int (by decide +kernel) (pa_cons (pe_fld (pv 1) rfl) pa_nil)))
      (pss_cons (ps_expr (pe_meth (pv 0) T.p.par.c T.p.take_word.m GW hr4 bW .nil (passes_call (takes_of rfl rfl rfl rfl) (fun _ _ _ _ h => h)) (pa_cons pe_str pa_nil)))
      (C8.pss_cut (ps_if (pt_not (pt_chain op_le op_le pe_int (pv 2) (pe_glob (v := .int 16) rfl mMT ⟨_, rfl⟩)))
        (pss_one (ps_expr (pe_meth (pv 0) T.p.par.c T.p.found.m GF hr1 bF .nil pass0 (pa_cons pe_str (pa_cons (pv 1) pa_nil))))) pss_nil)
      (pss_cons (ps_expr (pe_meth (pv 0) T.p.par.c T.p.parse_names.m GN hr5 bN .nil (passes_call (takes_of rfl rfl rfl rfl) (fun _ _ _ _ h => h)) (pa_cons pe_str (pa_cons (pe_fld (pv 0) rfl) (pa_cons (pe_glob (v := .int 4) rfl mMS ⟨_, rfl⟩) pa_nil)))))
      (pss_cons (ps_expr (pe_meth (pv 0) T.p.par.c T.p.parse_names.m GN hr5 bN .nil (passes_call (takes_of rfl rfl rfl rfl) (fun _ _ _ _ h => h)) (pa_cons pe_str (pa_cons (pe_fld (pv 0) rfl) (pa_cons (pe_glob (v := .int 6) rfl mMM ⟨_, rfl⟩) pa_nil)))))
      (pss_cons (ps_expr (pe_meth (pv 0) T.p.par.c T.p.parse_robot.m GR hr bR .nil (passes_call (takes_of rfl rfl rfl rfl) (fun _ _ _ _ h => h)) (pa_cons (pv 2) pa_nil)))
      (pss_cons (ps_while (passes_of rfl) (pt_cmpR op_ne (pe_fld (pe_meth0 (pv 0) T.p.par.c T.p.peek.m GP hr1 bP .nil pass0) rfl) (pe_glob (v := .str "end") rfl mEND ⟨_, rfl⟩) (nomark _))
        (pss_one (ps_match (pe_fld (pe_meth0 (pv 0) T.p.par.c T.p.peek.m GP hr1 bP .nil pass0) rfl)
          (pms_str (pss_one (ps_expr (pe_meth (pv 0) T.p.par.c T.p.parse_robot.m GR hr bR .nil (passes_call (takes_of rfl rfl rfl rfl) (fun _ _ _ _ h => h)) (pa_cons (pv 2) pa_nil))))
          (pms_str (pss_one (ps_expr (pe_meth (pv 0) T.p.par.c T.p.parse_put.m GU hr bU .nil (passes_call (takes_of rfl rfl rfl rfl) (fun _ _ _ _ h => h)) (pa_cons (pv 2) pa_nil))))
          (pms_str (pss_one (ps_expr (pe_meth0 (pv 0) T.p.par.c T.p.parse_rule.m GL hr bL .nil (passes_call (takes_of rfl rfl rfl rfl) (fun _ _ _ _ h => h)))))
          (pms_any (pss_one (ps_expr (pe_meth0 (pv 0) T.p.par.c T.p.fail.m GX hr3 bX .nil (passes_call (takes_of rfl rfl rfl rfl) (fun _ _ _ _ h => h))))))))))))
      (pss_cons (ps_if (pt_cmpR (op_neD hr.units) (pe_fld (pv 0) rfl) (pe_lst pa_nil) (nomark _)) pss_never pss_nil)
      (pss_cons (ps_set (i := 7) sc_parse_plan.nd rfl (.inl rfl) (pe_callTy call_tuple_of (by rfl) T.p.tuple (by decide +kernel) (pa_cons
        (pe_lc (own := [("tile", 8)]) (g := gName 8) (tt := tYes) (te := tDGet2 (tFld K (tVar 0) "spots") (tVar 8) (tC (.int 0))) rfl sc_parse_plan.nd (pi_range1 (by rfl) T.p.range (pa_cons (pv 2) pa_nil)) (blkOk_by (own := [("tile", 8)]) (N := ppN) (sc := defScope s_Parser_parse_plan) (by decide +kernel))
          (fun _ _ _ _ _ => pg_name (i := 8) sc_parse_plan.nd rfl (Or.inl rfl)) (fun _ _ _ _ _ => pts_nil) (fun _ _ _ _ _ => pe_dget2 hu (pe_fld (pv 0) rfl) (pv 8) pe_int ⟨rfl, rfl, rfl, rfl⟩)) pa_nil)))
      (pss_one (ps_ret (pe_make T.plan.m GI hr2 rfl T.plan.g bI .nil pass0 (pa_cons (pe_tupleOfN (by rfl) T.p.tuple (pe_fld (pv 0) rfl))
        (pa_cons (pe_tupleOfN (by rfl) T.p.tuple (pe_fld (pv 0) rfl)) (pa_cons (pv 7)
        (pa_cons (pe_callTy call_tuple_of (by rfl) T.p.tuple (by decide +kernel) (pa_cons (pe_fld (pv 0) rfl) pa_nil)) (pa_cons (pe_fld (pv 0) rfl) pa_nil))))))))))))))))))), ?_⟩
    obtain ⟨dx, ob⟩ := hP.ob
    have hlen := hG.len
    have hB0 : Bd Ts st0 := ⟨by
      show 0 < Ts.length
      exact List.length_pos_iff.mpr hG.ne, Nat.le_refl _, Nat.zero_le _, Nat.zero_le _, Nat.le_refl _, Nat.le_refl _, Nat.le_refl _, Nat.le_refl _⟩
    refine ⟨_, rfl, p, dx, _, rfl, ob, lp_no_take_word, H0, p, L, tas, Ts, st0, wCorridor, by rw [e_corridor]; rfl, hP, hB0.at_, ⟨fun kw s1 h1 v H1 hv hP1 => ?_, fun l c he => her l c (by simp only [parsePlan, he])⟩⟩
    clear hv
    obtain ⟨B1, f1, e1⟩ := bd_word hG hB0 h1 (by decide)
    obtain ⟨dx1, ob1⟩ := hP1.ob
    refine ⟨_, rfl, p, dx1, _, rfl, ob1, lp_no_take, H0, p, L, tas, Ts, s1, .number, rfl, hP1, B1.at_, ⟨fun tk s2 h2 v H2 hv hP2 => ?_, fun l c he => her l c (by simp only [parsePlan, h1, he])⟩⟩
    obtain ⟨a2, rfl, hta2⟩ := hv
    obtain ⟨B2, f2, e2, _⟩ := bd_take hG B1 h2 (by decide)
    obtain ⟨dx2, ob2⟩ := hP2.ob
    obtain ⟨dt2, ht2⟩ := hP2.get hta2
    obtain ⟨⟨n1, n2⟩, n3⟩ := hG.num tk hta2.mem (take_ok h2).2.2
    have hint := int_sx n3 n1 n2
    have hn99 := numVal_le n3 n2
    refine ⟨_, rfl, a2, _, dt2, _, _, rfl, ht2, T.p.l.tok.c, T.p.l.tok.n _ (by simp), lk_text, _, _, rfl, hint, by rw [len_sx]; omega, ?_⟩
    refine ⟨_, rfl, p, dx2, _, rfl, ob2, lp_no_take_word, H0, p, L, tas, Ts, s2, wSemi, by rw [e_semi]; rfl, hP2, B2.at_, ⟨fun t3 s3 h3 v H3 hv hP3 => ?_, fun l c he => her l c (by simp only [parsePlan, h1, h2, he])⟩⟩
    clear hv
    obtain ⟨B3, f3, e3⟩ := bd_word hG B2 h3 (by decide)
    obtain ⟨dx3, ob3⟩ := hP3.ob
    have B3f := B3.fa
    have B3a := B3.at_
    generalize hq : (if 1 ≤ numVal tk.text ∧ numVal tk.text ≤ 16 then s3 else s3.found wCorridor tk) = q3
    have Bq : Bd Ts q3 := by
      rw [← hq]
      split
      · exact B3
      · exact B3.found (by omega)
    generalize hn : numVal tk.text = n at *
    refine ⟨fun σ' H' => σ' = [some (.ref p), some (.ref a2), some (.int n), none, none, none, none, none, none] ∧ PA K H0 H' p L tas Ts q3, ?_, ?_⟩
    · refine ⟨_, rfl, _, _, rfl, rfl, _, rfl, ?_⟩
      have bad : ¬ (1 ≤ n ∧ n ≤ 16) → tDrop (tMeth (He.ga K "Parser") "found" (spFound K) [] E0 (tVar 0) (tCons (tC (.str "corridor")) (tCons (tVar 1) tNil))) { nx := fun σ' H' => σ' = [some (.ref p), some (.ref a2), some (.int n), none, none, none, none, none, none] ∧ PA K H0 H' p L tas Ts q3, rt := Q } [some (.ref p), some (.ref a2), some (.int n), none, none, none, none, none, none] H3 := fun hb => by
        refine ⟨_, rfl, p, dx3, _, rfl, ob3, lp_no_found, _, rfl, H0, p, L, tas, Ts, s3, wCorridor, a2, tk, by rw [e_corridor]; rfl, hP3, hta2, by omega, fun H4 hP4 => ⟨rfl, ?_⟩⟩
        rw [← hq, if_neg hb]
        exact hP4
      refine ite2 (fun h4 => ?_) (fun h4 => ?_)
      · have h4 := of_decide_eq_true h4
        refine ⟨_, _, rfl, rfl, _, rfl, ?_⟩
        refine ite2 (fun h5 => ?_) (fun h5 => ?_)
        · have h5 : ¬ ((n : Nat) : Int) ≤ 16 := fun z => by
            rw [decide_eq_true z] at h5
            exact absurd h5 (by decide)
          exact bad (by omega)
        · have h5 : ((n : Nat) : Int) ≤ 16 := Decidable.byContradiction fun z => h5 (by rw [decide_eq_false z]; rfl)
          refine ⟨rfl, ?_⟩
          rw [← hq, if_pos (by omega)]
          exact hP3
      · have h4 : ¬ (1 : Int) ≤ ((n : Nat) : Int) := fun z => h4 (decide_eq_true z)
        exact ⟨_, rfl, iteT (bad (by omega))⟩
    · rintro σ' H4 ⟨rfl, hP4⟩
      obtain ⟨dx4, ob4⟩ := hP4.ob
      refine ⟨_, rfl, p, dx4, _, rfl, ob4, lp_no_parse_names, _, rfl, p, _, dx4, _, _, rfl, ob4, T.p.par.c, T.p.par.n _ (by simp), lp_signs, H0, p, L, tas, Ts, q3, false, by rw [e_signs]; rfl, hP4, hG, Bq, ⟨fun u s4 h4 v H5 hv hP5 => ?_, fun l c he => her l c (by simp only [parsePlan, h1, h2, h3, hn, hq, he])⟩⟩
      clear hv
      have B4 := bd_names hG Bq h4
      obtain ⟨dx5, ob5⟩ := hP5.ob
      refine ⟨_, rfl, p, dx5, _, rfl, ob5, lp_no_parse_names, _, rfl, p, _, dx5, _, _, rfl, ob5, T.p.par.c, T.p.par.n _ (by simp), lp_moods, H0, p, L, tas, Ts, s4, true, by rw [e_moods]; rfl, hP5, hG, B4, ⟨fun u5 s5 h5 v H6 hv hP6 => ?_, fun l c he => her l c (by simp only [parsePlan, h1, h2, h3, hn, hq, h4, he])⟩⟩
      clear hv
      have B5 := bd_names hG B4 h5
      obtain ⟨dx6, ob6⟩ := hP6.ob
      refine ⟨_, rfl, p, dx6, _, rfl, ob6, lp_no_parse_robot, _, rfl, H0, p, L, tas, Ts, s5, n, rfl, hP6, hG, B5, ⟨fun u6 s6 h6 v H7 hv hP7 => ?_, fun l c he => her l c (by simp only [parsePlan, h1, h2, h3, hn, hq, h4, h5, he])⟩⟩
      clear hv
      have B6 := (bd_robot hG B5 h6).1
      have hpre : ∀ r, parseStmts Ts n Ts.length s6 = r → parsePlan Ts = (match r with | .error e => .error e | .ok (_, s7) => .ok (n, s7)) := by
        intro r hr
        simp only [parsePlan, h1, h2, h3, hn, hq, h4, h5, h6, hr]
        all_goals (rcases r with _ | ⟨_, _⟩ <;> rfl)
      refine ⟨fun m σ H => ∃ (f : Nat) (s : PSt), m + s.at_ = Ts.length ∧ σ = [some (.ref p), some (.ref a2), some (.int n), none, none, none, none, none, none] ∧ PA K H0 H p L tas Ts s ∧ Bd Ts s ∧ Ts.length ≤ f + s.at_ ∧
        parseStmts Ts n Ts.length s6 = parseStmts Ts n f s, ⟨Ts.length - s6.at_, Ts.length, s6, Nat.sub_add_cancel (Nat.le_of_lt B6.at_), rfl, hP7, B6, Nat.le_add_right _ _, rfl⟩, ?_⟩
      rintro m σ H8 ⟨f, s8, hm, rfl, hP8, B8, hf, hst⟩
      have B8a := B8.at_
      obtain ⟨f', rfl⟩ : ∃ f', f = f' + 1 := ⟨f - 1, by omega⟩
      obtain ⟨dx8, ob8⟩ := hP8.ob
      refine ⟨_, rfl, p, dx8, _, rfl, ob8, lp_no_peek, H0, p, L, tas, Ts, s8, rfl, hP8, B8.at_, fun a8 hta8 => ?_⟩
      obtain ⟨dt8, ht8⟩ := hP8.get hta8
      refine ⟨a8, _, dt8, _, _, rfl, ht8, T.p.l.tok.c, T.p.l.tok.n _ (by simp), lk_kind, rfl, _, rfl, ?_⟩
      refine ite2 (fun h => ?_) (fun h => ?_)
      · have hk : (peek Ts s8).kind ≠ .fin := fun z => by
          rw [decide_eq_true (by rw [z]; rfl)] at h
          exact absurd h (by decide)
        have hstep : ∀ r, parseStmt Ts n s8 = r → parseStmts Ts n (f' + 1) s8 = (match r with | .error e => .error e | .ok (_, s1) => parseStmts Ts n f' s1) := by
          intro r hr
          simp only [parseStmts, if_neg hk, hr]
          all_goals (rcases r with _ | ⟨_, _⟩ <;> rfl)
        refine ⟨_, fun _ _ nn => nn, ?_⟩
        refine ⟨_, rfl, p, dx8, _, rfl, ob8, lp_no_peek, H0, p, L, tas, Ts, s8, rfl, hP8, B8.at_, fun a9 hta9 => ?_⟩
        obtain ⟨dt9, ht9⟩ := hP8.get hta9
        refine ⟨a9, _, dt9, _, _, rfl, ht9, T.p.l.tok.c, T.p.l.tok.n _ (by simp), lk_text, ?_⟩
        have goon : ∀ (s9 : PSt) (H9 : Hp), parseStmt Ts n s8 = .ok ((), s9) → PA K H0 H9 p L tas Ts s9 → ∃ m', m' < m ∧ ∃ (f : Nat) (s : PSt), m' + s.at_ = Ts.length ∧ [some (V.ref p), some (.ref a2), some (.int n), none, none, none, none, none, none] = [some (.ref p), some (.ref a2), some (.int n), none, none, none, none, none, none] ∧ PA K H0 H9 p L tas Ts s ∧ Bd Ts s ∧ Ts.length ≤ f + s.at_ ∧
            parseStmts Ts n Ts.length s6 = parseStmts Ts n f s := fun s9 H9 h9 hP9 => by
          obtain ⟨B9, lt9⟩ := bd_stmt hG B8 h9
          have B9a := B9.at_
          exact ⟨Ts.length - s9.at_, by omega, f', s9, by omega, rfl, hP9, B9, by omega, by rw [hst, hstep _ h9]⟩
        have goer : ∀ l c, parseStmt Ts n s8 = .error (l, c) → Syn K H0 E l c := fun l c he => her l c (by rw [hpre _ (hst.trans (hstep _ he))])
        refine ⟨_, rfl, fun z => ?_, fun z => ?_⟩
        · have z : (peek Ts s8).text = wRobot := sx_inj (by rw [← e_robot]; exact z)
          have hs : parseStmt Ts n s8 = parseRobot Ts n s8 := by simp only [parseStmt, if_pos z]
          refine ⟨_, rfl, p, dx8, _, rfl, ob8, lp_no_parse_robot, _, rfl, H0, p, L, tas, Ts, s8, n, rfl, hP8, hG, B8, ⟨fun u s9 h9 v H9 hv hP9 => goon s9 H9 (by rw [hs]; exact h9) hP9, fun l c he => goer l c (by rw [hs]; exact he)⟩⟩
        · have z1 : ¬ (peek Ts s8).text = wRobot := fun y => z (by rw [y, e_robot])
          refine ⟨_, rfl, fun z => ?_, fun z => ?_⟩
          · have z : (peek Ts s8).text = wPut := sx_inj (by rw [← e_put]; exact z)
            have hs : parseStmt Ts n s8 = parsePut Ts n s8 := by simp only [parseStmt, if_neg z1, if_pos z]
            refine ⟨_, rfl, p, dx8, _, rfl, ob8, lp_no_parse_put, _, rfl, H0, p, L, tas, Ts, s8, n, rfl, hP8, hG, B8, ⟨fun u s9 h9 v H9 hv hP9 => goon s9 H9 (by rw [hs]; exact h9) hP9, fun l c he => goer l c (by rw [hs]; exact he)⟩⟩
          · have z2 : ¬ (peek Ts s8).text = wPut := fun y => z (by rw [y, e_put])
            refine ⟨_, rfl, fun z => ?_, fun z => ?_⟩
            · have z : (peek Ts s8).text = wWhen := sx_inj (by rw [← e_when]; exact z)
              have hs : parseStmt Ts n s8 = parseRule Ts s8 := by simp only [parseStmt, if_neg z1, if_neg z2, if_pos z]
              refine ⟨_, rfl, p, dx8, _, rfl, ob8, lp_no_parse_rule, H0, p, L, tas, Ts, s8, rfl, hP8, hG, B8, ⟨fun u s9 h9 v H9 hv hP9 => goon s9 H9 (by rw [hs]; exact h9) hP9, fun l c he => goer l c (by rw [hs]; exact he)⟩⟩
            · have z3 : ¬ (peek Ts s8).text = wWhen := fun y => z (by rw [y, e_when])
              refine ⟨_, rfl, p, dx8, _, rfl, ob8, lp_no_fail, H0, p, L, tas, Ts, s8, rfl, hP8, B8.at_, goer _ _ ?_⟩
              simp only [parseStmt, if_neg z1, if_neg z2, if_neg z3]
      · have hk : (peek Ts s8).kind = .fin := Decidable.byContradiction fun z => h (by
          show (!decide (V.str (peek Ts s8).kind.str = V.str Kd.fin.str)) = true
          rw [decide_eq_false fun y => z (kd_inj (b := .fin) (V.str.inj y))]
          rfl)
        have hres : parsePlan Ts = .ok (n, s8) := by
          rw [hpre (.ok ((), s8)) (by rw [hst]; simp only [parseStmts, if_pos hk])]
        obtain ⟨hno, hQ⟩ := hok n s8 hres
        obtain ⟨fas, hfa, hfas⟩ := hP8.fa
        rw [hno] at hfas
        have hfas : fas = [] := by
          have := hfas.len
          exact List.length_eq_zero_iff.mp this
        subst hfas
        refine ⟨_, rfl, p, _, dx8, _, _, rfl, ob8, T.p.par.c, T.p.par.n _ (by simp), lp_faults, (by show 0 ≤ sizeLine; decide), fun el nel => ?_⟩
        have smE := sameUpd (o := .lst []) (Same.refl H8) nel
        refine ⟨.list [], .list [], .lst (SqL.of (smE _ _ hfa)) .nil, .lst (SqL.of upd_same) .nil, rfl, rfl, _, rfl, ?_⟩
        refine iteF ?_
        have hP9 := hP8.mono smE
        generalize upd H8 el (.lst []) = H9 at *
        refine ⟨_, rfl, (n : Int), rfl, by omega, by omega, fun D nD => ?_⟩
        obtain ⟨dx9, ob9⟩ := hP9.ob
        refine lc_range (lo := 0) (n := ((n : Nat) : Int).toNat) (vs := [8]) (fun i H => H D = some (.lst (((List.range i).map fun j => (getA s8.spots j).getD 0).map fun m : Nat => V.int m)) ∧ Same H9 H) ⟨upd_same, sameUpd (Same.refl H9) nD⟩ ?_ ?_
        · rintro i H10 hi ⟨hD, sm10⟩
          have hP10 := hP9.mono sm10
          refine ⟨rfl, _, rfl, p, _, dx9, _, _, rfl, sm10 _ _ ob9, T.p.par.c, T.p.par.n _ (by simp), lp_spots, L.sd, rfl, .inl ⟨_, .inl hP10.sp⟩, _, rfl, _, DGet.k (k := Sum.inl ((0 : Int) + (i : Nat))) hP10.sp, _, hD, ?_, ?_, ?_⟩
          · rw [List.length_map, List.length_map, List.length_range, sizeLine_eq]
            omega
          · rw [upd_same, spots_get, List.range_succ, List.map_append, List.map_append]
            rfl
          · exact sameUpd sm10 nD
        · rintro H10 ⟨hD, sm10⟩
          rw [Int.toNat_natCast] at hD
          have hfl : ((List.range n).map fun j => (getA s8.spots j).getD 0) = (planOf n s8).floor := rfl
          rw [hfl] at hD
          refine ⟨D, _, rfl, .inl ⟨SqL.of hD, fun fa nfa => ?_⟩⟩
          have smf := sameUpd (o := .tup ((planOf n s8).floor.map fun m : Nat => V.int m)) (Same.refl H10) nfa
          have hP11 := hP9.mono (sm10.trans smf)
          have atf := @upd_same H10 fa (.tup ((planOf n s8).floor.map fun m : Nat => V.int m))
          generalize upd H10 fa (.tup ((planOf n s8).floor.map fun m : Nat => V.int m)) = H11 at *
          obtain ⟨dx11, ob11⟩ := hP11.ob
          refine ⟨_, rfl, p, _, dx11, _, _, rfl, ob11, T.p.par.c, T.p.par.n _ (by simp), lp_signs, L.sl, _, rfl, SqL.of hP11.si, fun sa osa nsa oc od => ?_⟩
          have sms := sameUpd (o := .frz osa (.tup (s8.signs.map sV))) (Same.refl H11) nsa
          have hP12 := hP11.mono sms
          have ats : TupN (upd H11 sa (.frz osa (.tup (s8.signs.map sV)))) sa (s8.signs.map sV) := ⟨osa, oc, od, upd_same⟩
          generalize upd H11 sa (.frz osa (.tup (s8.signs.map sV))) = H12 at *
          refine ⟨_, rfl, p, _, dx11, _, _, rfl, sms _ _ ob11, T.p.par.c, T.p.par.n _ (by simp), lp_moods, L.ml, _, rfl, SqL.of hP12.mo, fun ma oma nma mc md => ?_⟩
          have smm := sameUpd (o := .frz oma (.tup (s8.moods.map sV))) (Same.refl H12) nma
          have hP13 := hP12.mono smm
          have atm : TupN (upd H12 ma (.frz oma (.tup (s8.moods.map sV)))) ma (s8.moods.map sV) := ⟨oma, mc, md, upd_same⟩
          generalize upd H12 ma (.frz oma (.tup (s8.moods.map sV))) = H13 at *
          obtain ⟨ras, hra, hras⟩ := hP13.ro
          refine ⟨_, rfl, _, rfl, p, _, dx11, _, _, rfl, smm _ _ (sms _ _ ob11), T.p.par.c, T.p.par.n _ (by simp), lp_robots, L.rl, _, rfl, .inl ⟨SqL.of hra, fun ra nra => ?_⟩⟩
          have smr := sameUpd (o := .tup (ras.map V.ref)) (Same.refl H13) nra
          have hP14 := hP13.mono smr
          have atr := @upd_same H13 ra (.tup (ras.map V.ref))
          generalize upd H13 ra (.tup (ras.map V.ref)) = H14 at *
          refine ⟨_, rfl, p, _, dx11, _, _, rfl, smr _ _ (smm _ _ (sms _ _ ob11)), T.p.par.c, T.p.par.n _ (by simp), lp_rules, ?_⟩
          intro x dx0 nx ndx ne0
          refine init_at (names := planF) rfl nx ndx fun H15 sm15 hx => ⟨rfl, ?_⟩
          obtain ⟨dp, hdp⟩ := hx
          have hP15 := hP14.mono sm15
          refine hQ x H15 (hP14.same.free nx) hP15.same ⟨dp, sa, ma, fa, ra, L.rd, ras, hdp, ats.mono fun _ z => sm15 _ _ (smr _ _ (smm _ _ z)), atm.mono fun _ z => sm15 _ _ (smr _ _ z), sm15 _ _ (smr _ _ (smm _ _ (sms _ _ atf))), sm15 _ _ atr, ?_, hP15.ru⟩
          exact Paired.mapP hras fun a r q => sm15 _ _ (smr _ _ q)
end
end Sw

end

section
set_option maxRecDepth 100000
set_option maxHeartbeats 4000000
/-! load -/
namespace Sw
open PySem PySem.Spec PyProof.Rows L2 SwA
section
variable {P : Program} {w : World} {K : PySem.W.Frag} {mg : Str → Option Value} {base : Heap}
def spLoad (K : PySem.W.Frag) : Sp := fun vs H Q E => ∃ text : Cs, vs = [.str (sx text)] ∧ text.length ≤ 90000 ∧
  (∀ n s, loads text = .ok (n, s) → s.faults = [] ∧ ∀ (a : Addr) (H' : Hp), H a = none → Same H H' → PlanAt K H' a (planOf n s) → Q (.ref a) H') ∧ (∀ l c, loads text = .error (l, c) → Syn K H E l c)
theorem sc_load : FnScope ["plan"] ["plan"] (defScope s_load) := ⟨rfl, rfl, rfl, by decide +kernel, rfl, by decide +kernel, by decide +kernel⟩
theorem ok_load (T : LoadT K mg) : FnE P w K mg base (L2.CX P w) 8 ("load", none) ["plan"] (spLoad K) := by
  obtain ⟨fd, F⟩ := T.d_load
  obtain ⟨fdT, GT, bT, kT⟩ := ok_tokenize (P := P) (w := w) (base := base) T.p.l
  obtain ⟨fdI, GI, bI, kI⟩ := ok_par_init (P := P) (w := w) (base := base) T.p
  obtain ⟨fdP, GP, bP, kP⟩ := ok_parse_plan (P := P) (w := w) (base := base) T
  refine ⟨fd, F.ok sc_load (fun vs H Q E h => ?_) (fun cdv A outer s H vs Q E hr h => ?_), F.bindsN fun _ _ _ _ _ _ us hl => match us, hl with | [_], _ => rfl, F.kp⟩
  · obtain ⟨text, rfl, _⟩ := h
    rfl
  · obtain ⟨text, rfl, hl, hok, her⟩ := h
    have hr2 : Room 2 _ := hr.mono (by decide)
    have hr4 : Room 4 _ := hr.mono (by decide)
    refine ⟨_, (pss_one (ps_ret (pe_meth0 (pe_make T.p.par.m GI hr2 rfl T.p.par.g bI .nil pass0 (pa_cons (pe_call GT hr4 rfl T.p.l.g_tokenize kT bT .nil (passes_call (takes_of rfl rfl rfl rfl) (fun _ _ _ _ h => h)) (pa_cons (pv 0) pa_nil)) pa_nil))
      T.p.par.c T.p.parse_plan.m GP hr bP .nil (passes_call (takes_of rfl rfl rfl rfl) (fun _ _ _ _ h => h))))), ?_⟩
    refine ⟨_, rfl, text, rfl, hl, fun ts ht a tas H1 na sm ha htk => ?_, fun l c he => her l c (by simp only [loads, he])⟩
    have hG := tokenize_good hl ht
    intro x dx nx ndx ne
    have xa : a ≠ x := ne_of_none ha nx
    have xd : a ≠ dx := ne_of_none ha ndx
    have s1 : Same H1 (upd (upd H1 dx (.own x)) x (.ins (He.ga K "Parser") dx [])) := sameUpd (sameUpd (Same.refl H1) ndx) nx
    refine ⟨H, x, dx, a, tas, ts, rfl, upd_same, s1 _ _ ha, htk.same s1, sm.trans s1, sm.free nx, na, fun L H2 hPA => ⟨rfl, ?_⟩⟩
    obtain ⟨dx2, ob2⟩ := hPA.ob
    have el : loads text = parsePlan ts := by simp only [loads, ht]
    refine ⟨x, dx2, _, rfl, ob2, lp_no_parse_plan, H, x, L, tas, ts, rfl, hPA, hG, fun n s h => hok n s (by rw [el]; exact h), fun l c h => her l c (by rw [el]; exact h)⟩
end
end Sw

end

section
set_option maxRecDepth 100000
set_option maxHeartbeats 4000000
/-! the mirror of the machine -/
namespace Sw
open PySem
def wRest : Cs := [114, 101, 115, 116]
abbrev Rob := Nat × Bool × Nat
structure MSt where
  floor : List Nat
  robots : List Rob
  deriving DecidableEq
def movedM (tile : Nat) (right : Bool) (tiles : Nat) : Nat × Bool :=
  if right = true then (if tile + 1 < tiles then (tile + 1, true) else (tile, false)) else (if 0 < tile then (tile - 1, false) else (tile, true))
def goM (move : Cs) (tile : Nat) (right : Bool) (tiles : Nat) : Nat × Bool := if move = wOn then movedM tile right tiles else if move = wBack then movedM tile (!right) tiles else (tile, right)
def actM (rules : List ((Nat × Nat) × Rule)) (st : MSt) (k : Nat) : Cs × MSt := match st.robots[k]? with
  | none => (wRest, st)
  | some (tile, right, mood) => match getA rules (mood, st.floor.getD tile 0) with
    | none => (wRest, st)
    | some r => (r.move, ⟨st.floor.set tile r.left, st.robots.set k ((goM r.move tile right st.floor.length).1, (goM r.move tile right st.floor.length).2, r.later)⟩)
/-- the first k robots have acted -/
def actsM (rules : List ((Nat × Nat) × Rule)) (st : MSt) : Nat → List Cs × MSt
  | 0 => ([], st)
  | k + 1 => ((actsM rules st k).1 ++ [(actM rules (actsM rules st k).2 k).1], (actM rules (actsM rules st k).2 k).2)
structure TickM where
  swept : List Nat
  words : List Cs
  state : MSt
def nextM (rules : List ((Nat × Nat) × Rule)) (st : MSt) : TickM := ⟨st.robots.map (·.1), (actsM rules st st.robots.length).1, (actsM rules st st.robots.length).2⟩
def firstM (pl : Plan) : MSt := ⟨pl.floor, pl.robots.map fun r => (r.1, r.2, 0)⟩
/-- a state of n tiles and m robots -/
structure WfM (n m : Nat) (st : MSt) : Prop where
  fl : st.floor.length = n
  ro : st.robots.length = m
  ti : ∀ r ∈ st.robots, r.1 < n
theorem movedM_lt {tile : Nat} {right : Bool} {tiles : Nat} (h : tile < tiles) : (movedM tile right tiles).1 < tiles := by
  unfold movedM
  split
  · split <;> (simp only; omega)
  · split <;> (simp only; omega)
theorem goM_lt {move : Cs} {tile : Nat} {right : Bool} {tiles : Nat} (h : tile < tiles) : (goM move tile right tiles).1 < tiles := by
  unfold goM
  split
  · exact movedM_lt h
  · split
    · exact movedM_lt h
    · exact h
theorem WfM.act {n m : Nat} {rules : List ((Nat × Nat) × Rule)} {st : MSt} {k : Nat} (h : WfM n m st) : WfM n m (actM rules st k).2 := by
  unfold actM
  split
  · exact h
  · rename_i tile right mood e
    split
    · exact h
    · rename_i r hr
      have ht : tile < n := h.ti _ (List.mem_of_getElem? e)
      refine ⟨by simpa using h.fl, by simpa using h.ro, fun q hq => ?_⟩
      rcases List.mem_or_eq_of_mem_set hq with z | z
      · exact h.ti _ z
      · rw [z, h.fl]
        exact goM_lt ht
theorem WfM.acts {n m : Nat} {rules : List ((Nat × Nat) × Rule)} {st : MSt} (h : WfM n m st) : ∀ k, WfM n m (actsM rules st k).2
  | 0 => h
  | k + 1 => (h.acts k).act
theorem WfM.next {n m : Nat} {rules : List ((Nat × Nat) × Rule)} {st : MSt} (h : WfM n m st) : WfM n m (nextM rules st).state := h.acts _
theorem acts_len (rules : List ((Nat × Nat) × Rule)) (st : MSt) : ∀ k, (actsM rules st k).1.length = k
  | 0 => rfl
  | k + 1 => by
    show ((actsM rules st k).1 ++ [_]).length = k + 1
    simp [acts_len rules st k]
end Sw

end

section
set_option maxRecDepth 100000
set_option maxHeartbeats 4000000
/-! is_int_in -/
namespace Sw
open PySem PySem.Spec PyProof.Rows L2 SwA
/-- a def of the module -/
structure DeT (K : PySem.W.Frag) (mg : Str → Option Value) (x : Str) (st : Stmt) : Prop where
  d : FD K (x, none) x x st
  g : mg x = some (.ref (He.ga K x))
inductive ArN (K : PySem.W.Frag) (H : Hp) : V → String → Prop
  | int (i : Int) : ArN K H (.int i) "int"
  | bl (b : Bool) : ArN K H (.bl b) "bool"
  | non : ArN K H .non "NoneType"
  | str (z : Str) : ArN K H (.str z) "str"
  | tup {a : Addr} {xs : List V} (e : H a = some (.tup xs)) : ArN K H (.ref a) "tuple"
  | lst {a : Addr} {xs : List V} (e : H a = some (.lst xs)) : ArN K H (.ref a) "list"
theorem ArN.ty {K : PySem.W.Frag} {H : Hp} {v : V} {n : String} (h : ArN K H v n) : TyX K H v (.type n) := by
  cases h with
  | int i => exact .base (.int i)
  | bl b => exact .base (.bl b)
  | non => exact .base .non
  | str z => exact .base (.str z)
  | tup e => exact .base (.tup e)
  | lst e => exact .base (.lst e)
theorem ArN.same {K : PySem.W.Frag} {H H' : Hp} {v : V} {n : String} (h : ArN K H v n) (s : Same H H') : ArN K H' v n := by
  cases h with
  | int i => exact .int i
  | bl b => exact .bl b
  | non => exact .non
  | str z => exact .str z
  | tup e => exact .tup (s _ _ e)
  | lst e => exact .lst (s _ _ e)
def isIntIn (v : V) (lo hi : Int) : Bool := match v with
  | .int i => decide (lo ≤ i) && decide (i ≤ hi)
  | _ => false
end Sw

end

section
set_option maxRecDepth 100000
set_option maxHeartbeats 4000000
/-! utilities -/
namespace Sw
open PySem PySem.Spec PyProof.Rows L2 SwA
abbrev iV (n : Nat) : V := .int n
abbrev plFs (a b c d e : V) : List (Str × V) := [("signs", a), ("moods", b), ("floor", c), ("robots", d), ("rules", e)]
theorem lpl_signs {a b c d e : V} : List.lookup ("signs" : Str) (plFs a b c d e) = some a := by kernel_rfl
theorem lpl_moods {a b c d e : V} : List.lookup ("moods" : Str) (plFs a b c d e) = some b := by kernel_rfl
theorem lpl_floor {a b c d e : V} : List.lookup ("floor" : Str) (plFs a b c d e) = some c := by kernel_rfl
theorem lpl_robots {a b c d e : V} : List.lookup ("robots" : Str) (plFs a b c d e) = some d := by kernel_rfl
theorem lpl_rules {a b c d e : V} : List.lookup ("rules" : Str) (plFs a b c d e) = some e := by kernel_rfl
theorem walk_enumT {K : PySem.W.Frag} {a : Addr} {xs : List V} : Walk (ItET K a) xs.length (fun H => SqT K H a xs) (YPair (fun i => some (.int (i : Nat))) (fun i => xs[i]?)) := by
  refine ⟨fun i _ hi q => ⟨xs, xs[i], q, by simp [hi]⟩, fun _ q => ⟨xs, q, rfl⟩, fun i H v H' _ q y => ?_⟩
  obtain ⟨T, x, h1, h2, h3, h4⟩ := y
  exact ⟨T, .int (i : Nat), x, h1, h2, h3, rfl, h4 xs q⟩
/-! ### the rules asked -/
theorem rules_get {H : Hp} {k : Nat × Nat} : ∀ {rs : List ((Nat × Nat) × Rule)} {kvs : List (List Key × V)}, Paired (RuleAt H) rs kvs →
    (getA rs k = none → valV kvs (keyT k) = none) ∧ (∀ r, getA rs k = some r → ∃ t, valV kvs (keyT k) = some (.ref t) ∧ H t = some (.tup [.int r.left, sV r.move, .int r.later]))
  | _, _, .nil => ⟨fun _ => rfl, fun r h => by cases h⟩
  | _, _, .cons (a := r0) (b := kv) (l₁ := l) (l₂ := m) h t => by
    have ih := rules_get (k := k) t
    by_cases e : r0.1 = k
    · have e1 : getA (r0 :: l) k = some r0.2 := by unfold getA; rw [List.find?_cons, decide_eq_true e]; rfl
      have e2 : valV (kv :: m) (keyT k) = some kv.2 := valV_pos (by rw [h.1, e])
      refine ⟨(fun z => by rw [e1] at z; cases z), fun r z => ?_⟩
      rw [e1] at z
      cases z
      obtain ⟨_, tt, h2, h3⟩ := h
      exact ⟨tt, by rw [e2, h2], h3⟩
    · have e1 : getA (r0 :: l) k = getA l k := by unfold getA; rw [List.find?_cons, decide_eq_false e]
      have e2 : valV (kv :: m) (keyT k) = valV m (keyT k) := valV_neg (by rw [h.1]; exact fun q => e (keyT_inj.mp q))
      rw [e1, e2]
      exact ih
section
variable {K : PySem.W.Frag} {H H' : Hp}
def cutH (H : Hp) (l : List Addr) : Hp := fun a => if a ∈ l then none else H a
theorem cutH_same {l : List Addr} : Same (cutH H l) H := fun a o e => by
  unfold cutH at e
  split at e
  · cases e
  · exact e
theorem cutH_in {l : List Addr} {a : Addr} (h : a ∈ l) : cutH H l a = none := by
  unfold cutH
  rw [if_pos h]
theorem cutH_out {l : List Addr} {a : Addr} (h : a ∉ l) : cutH H l a = H a := by
  unfold cutH
  rw [if_neg h]
end
end Sw

end

section
set_option maxRecDepth 100000
set_option maxHeartbeats 4000000
/-! the law's own: draws -/
namespace Sw
open PySem PySem.Spec PyProof.Rows L2 SwA
/-- the source of numbers -/
def drawL (s c : Int) (bs : List Int) : HO := .lst (.int s :: .int c :: bs.map V.int)
def DrawAt (H : Hp) (d : Addr) : Prop := ∃ (s c : Int) (bs : List Int), bs.length ≤ 63 ∧ H d = some (drawL s c bs)
/-- all but d stands, d is drawn from -/
structure Drawn (d : Addr) (H H' : Hp) : Prop where
  same : ∀ b o, b ≠ d → H b = some o → H' b = some o
  at_ : DrawAt H' d
theorem Drawn.trans {d : Addr} {H H1 H2 : Hp} (a : Drawn d H H1) (b : Drawn d H1 H2) : Drawn d H H2 := ⟨fun x o h e => b.same x o h (a.same x o h e), b.at_⟩
theorem Drawn.refl {d : Addr} {H : Hp} (h : DrawAt H d) : Drawn d H H := ⟨fun _ _ _ e => e, h⟩
theorem Drawn.of {d : Addr} {H H' : Hp} (h : DrawAt H d) (s : Same H H') : Drawn d H H' := ⟨fun _ _ _ e => s _ _ e, let ⟨a, b, c, l, e⟩ := h; ⟨a, b, c, l, s _ _ e⟩⟩
theorem Drawn.new {d : Addr} {H H' : Hp} {x : Addr} {o : HO} (h : Drawn d H H') (hx : H' x = none) : Drawn d H (upd H' x o) :=
  h.trans (Drawn.of h.at_ (sameUpd (Same.refl _) hx))
theorem Drawn.free {d : Addr} {H H' : Hp} {a : Addr} (h : Drawn d H H') (h0 : ∃ o, H d = some o) (n : H' a = none) : H a = none := by
  cases e : H a with
  | none => rfl
  | some o =>
    by_cases z : a = d
    · obtain ⟨s, c, bs, _, q⟩ := h.at_
      rw [z, q] at n
      cases n
    · rw [h.same a o z e] at n
      cases n
structure LawT (K : PySem.W.Frag) (mg : Str → Option Value) : Prop where
  len : mg "len" = none
  abs : mg "abs" = none
  list : mg "list" = none
  tuple : mg "tuple" = none
  range : mg "range" = none
  random : DeT K mg "_law_random" s__law_random
  below : DeT K mg "_law_below" s__law_below
theorem at1 {x y : V} {xs : List V} : atI (x :: y :: xs) 1 = some y := atI_nat (j := 1) rfl
theorem atz {x : V} {xs : List V} : atI (x :: xs) 0 = some x := atI_nat (j := 0) rfl
theorem ixN1 {x y : V} {xs : List V} : ixN (x :: y :: xs).length 1 = some 1 := by
  unfold ixN
  rw [if_pos (by decide), if_pos (by simp; omega)]
  rfl
theorem ixN0 {x : V} {xs : List V} : ixN (x :: xs).length 0 = some 0 := by
  unfold ixN
  rw [if_pos (by decide), if_pos (by simp only [List.length_cons]; omega)]
  rfl
theorem sIx2 {x y z : V} {xs : List V} : seqIndex? 2 (x :: y :: z :: xs).length = some 2 := by
  have h : ixN (x :: y :: z :: xs).length 2 = some 2 := by
    unfold ixN
    rw [if_pos (by decide), if_pos (by simp; omega)]
    rfl
  exact (ixN_seq h).1
section
variable {P : Program} {w : World} {K : PySem.W.Frag} {mg : Str → Option Value} {base : Heap}
/-! ### _law_below -/
def spBelow : Sp := fun vs H Q _ => ∃ (d : Addr) (n : Nat), vs = [.ref d, .int n] ∧ DrawAt H d ∧ 1 ≤ n ∧ n < 10000000 ∧ ∀ (r : Nat) (s c : Int) (bs : List Int), r < n → bs.length ≤ 63 → Q (.int r) (upd H d (drawL s c bs))
abbrev beN : List Str := ["_law_d", "_law_limit", "_law_result"]
theorem sc_below : FnScope beN ["_law_d", "_law_limit"] (defScope s__law_below) := ⟨rfl, rfl, rfl, by decide +kernel, rfl, by decide +kernel, by decide +kernel⟩
theorem modNat (i : Int) {n : Nat} (h : 1 ≤ n) : ∃ r : Nat, r < n ∧ i % (n : Int) = r := by
  have h1 := Int.emod_nonneg i (show (n : Int) ≠ 0 by omega)
  have h2 := Int.emod_lt_of_pos i (show (0 : Int) < n by omega)
  exact ⟨(i % (n : Int)).toNat, by omega, by omega⟩
theorem ok_below (T : LawT K mg) : FnE P w K mg base CX0 1 ("_law_below", none) ["_law_d", "_law_limit"] spBelow := by
  obtain ⟨fd, F⟩ := T.below.d
  refine ⟨fd, F.ok sc_below (fun vs H Q E h => ?_) (fun cdv A outer s H vs Q E hr h => ?_), F.bindsN fun _ _ _ _ _ _ us hl => match us, hl with | [_, _], _ => rfl, F.kp⟩
  · obtain ⟨d, n, rfl, _⟩ := h
    rfl
  · obtain ⟨d, n, rfl, ⟨sd, cu, bs, hb, hd⟩, h1, h2, k⟩ := h
    refine ⟨_, PSs.nox (C8.pss_cut (ps_if (PW.pt (pw_and (pt_cmpR op_eq (pe_ix ix_list (pv 0) pe_int (fun _ _ => rfl)) pe_int (nomark _)) (pw_and1 (pt_cmpR op_gt (pe_callB call_len_seq (by rfl) T.len boot_len (pa_cons (pv 0) pa_nil)) pe_int (nomark _)))))
        (pss_one (ps_asg (pe_bm PySem.F.plainAttrs_list PySem.F.slot_list_pop PySem.F.type_list_pop mt_popAt (pv 0) (pa_cons pe_int pa_nil)) (pg_sub (pv 0) pe_int set_list (fun _ => rfl)))) pss_nil)
      (pss_cons (ps_if (pt_cmpR op_gt (pe_ix ix_list (pv 0) pe_int (fun _ _ => rfl)) pe_int (nomark _))
        (pss_cons (ps_set (i := 2) sc_below.nd rfl (.inl rfl) (pe_op op_mod (pe_ix ix_list (pv 0) pe_int (fun _ _ => rfl)) (pv 1)))
        (pss_cons (ps_asg (pe_op op_fdiv (pe_ix ix_list (pv 0) pe_int (fun _ _ => rfl)) (pv 1)) (pg_sub (pv 0) pe_int set_list (fun _ => rfl)))
        (pss_one (ps_ret (pv 2))))) pss_nil)
      (pss_cons (ps_asg (pe_op op_mod (pe_op op_add (pe_op op_mul (pe_ix ix_list (pv 0) pe_int (fun _ _ => rfl)) pe_int) pe_int) pe_int) (pg_sub (pv 0) pe_int set_list (fun _ => rfl)))
      (pss_one (ps_ret (pe_op op_mod (pe_op op_fdiv (pe_ix ix_list (pv 0) pe_int (fun _ _ => rfl)) pe_int) (pv 1))))))), ?_⟩
    have hself : H = upd H d (drawL sd cu bs) := by
      funext b
      by_cases e : b = d
      · rw [e, upd_same, hd]
      · rw [upd_ne e]
    refine ⟨fun σ' H' => σ' = [some (.ref d), some (.int n), none] ∧ ∃ (s c : Int) (bs : List Int), bs.length ≤ 63 ∧ H' = upd H d (drawL s c bs), ?_, ?_⟩
    · refine ⟨_, rfl, d, _, _, _, rfl, rfl, SqL.of hd, at1, rfl, _, rfl, ?_⟩
      refine ite2 (fun h => ?_) (fun h => ?_)
      · refine ⟨_, rfl, d, _, rfl, .inl (SqL.of hd), _, _, rfl, rfl, _, rfl, ?_⟩
        refine ite2 (fun h3 => ?_) (fun h3 => ?_)
        · cases bs with
          | nil => exact absurd (of_decide_eq_true h3) (by simp)
          | cons b bs =>
            refine ⟨_, rfl, .inl ⟨rfl, _, SqL.of hd⟩, d, _, 2, 2, .int b, rfl, rfl, hd, by decide, by decide, ?_, rfl, ?_⟩
            · exact sIx2
            · refine ⟨_, rfl, d, _, _, 1, rfl, rfl, upd_same, ?_, ?_⟩
              · exact ixN1
              · refine ⟨rfl, sd, b, bs, by simp at hb; omega, ?_⟩
                rw [upd_upd]
                rfl
        · exact ⟨rfl, sd, cu, bs, hb, hself⟩
      · exact ⟨rfl, sd, cu, bs, hb, hself⟩
    · rintro σ' H' ⟨rfl, s2, c2, bs2, hb2, rfl⟩
      have hd2 : (upd H d (drawL s2 c2 bs2)) d = some (.lst (.int s2 :: .int c2 :: bs2.map V.int)) := upd_same
      refine ⟨_, rfl, d, _, _, _, rfl, rfl, SqL.of hd2, at1, _, _, rfl, rfl, _, rfl, ?_⟩
      refine ite2 (fun h => ?_) (fun h => ?_)
      · obtain ⟨r, hr1, hr2⟩ := modNat c2 h1
        refine ⟨_, rfl, d, _, _, _, rfl, rfl, SqL.of hd2, at1, _, rfl, _, _, rfl, rfl, by omega, ?_⟩
        replace k := k r s2 (c2 / n) bs2 hr1 hb2
        rw [← hr2] at k
        refine ⟨_, rfl, d, _, _, _, rfl, rfl, SqL.of hd2, at1, _, rfl, _, _, rfl, rfl, ⟨by omega, by omega⟩, ?_⟩
        refine ⟨_, rfl, d, _, _, 1, rfl, rfl, hd2, ?_, ?_⟩
        · exact ixN1
        · refine ⟨_, rfl, ?_⟩
          rw [upd_upd]
          exact k
      · refine ⟨_, rfl, d, _, _, _, rfl, rfl, SqL.of hd2, atz, _, _, rfl, rfl, .inr (by decide), _, _, rfl, rfl, _, _, rfl, rfl, (by show (0 : Int) < 2147483647; decide), ?_⟩
        refine ⟨_, rfl, d, _, _, 0, rfl, rfl, hd2, ?_, ?_⟩
        · exact ixN0
        · rw [upd_upd]
          refine ⟨_, rfl, d, _, _, _, rfl, rfl, SqL.of upd_same, atz, _, _, rfl, rfl, ⟨by decide, by decide⟩, _, rfl, _, _, rfl, rfl, by omega, ?_⟩
          obtain ⟨r, hr1, hr2⟩ := modNat ((s2 * 48271 + 11) % 2147483647 / 64) h1
          replace k := k r ((s2 * 48271 + 11) % 2147483647) c2 bs2 hr1 hb2
          rw [← hr2] at k
          exact k
/-! ### _law_random -/
def spRandom (K : PySem.W.Frag) : Sp := fun vs H Q _ => ∃ (sc : Addr) (salt : Int) (ns : List Int), vs = [.ref sc, .int salt] ∧ SqL K H sc (ns.map V.int) ∧ ns.length ≤ 63 ∧
  ∀ (d : Addr) (H' : Hp), H d = none → Same H H' → DrawAt H' d → Q (.ref d) H'
abbrev raN : List Str := ["_law_script", "_law_salt", "_law_seed", "_law_cell"]
theorem sc_random : FnScope raN ["_law_script", "_law_salt"] (defScope s__law_random) := ⟨rfl, rfl, rfl, by decide +kernel, rfl, by decide +kernel, by decide +kernel⟩
theorem sqL_same {H H' : Hp} (s : Same H H') {a : Addr} {xs : List V} (h : SqL K H a xs) : SqL K H' a xs := h.elim (fun q => .inl (q.elim (fun z => .inl (s _ _ z)) fun ⟨o, z⟩ => .inr ⟨o, s _ _ z⟩)) .inr
theorem ok_random (T : LawT K mg) : FnE P w K mg base CX0 1 ("_law_random", none) ["_law_script", "_law_salt"] (spRandom K) := by
  obtain ⟨fd, F⟩ := T.random.d
  refine ⟨fd, F.ok sc_random (fun vs H Q E h => ?_) (fun cdv A outer s H vs Q E hr h => ?_), F.bindsN fun _ _ _ _ _ _ us hl => match us, hl with | [_, _], _ => rfl, F.kp⟩
  · obtain ⟨sc, salt, ns, rfl, _⟩ := h
    rfl
  · obtain ⟨sc, salt, ns, rfl, hs, hl, k⟩ := h
    refine ⟨_, PSs.nox (pss_cons (ps_set (i := 2) sc_random.nd rfl (.inl rfl) (pv 1))
      (pss_cons (ps_for PassesOwn.never rfl (pi_list (pv 0)) (pg_name (i := 3) sc_random.nd rfl (.inl rfl))
        (pss_one (ps_set (i := 2) sc_random.nd rfl (.inl rfl) (pe_op op_mod (pe_op op_add (pe_op op_mul (pv 2) pe_int) (pe_callB call_abs (by rfl) T.abs (by decide +kernel) (pa_cons (pv 3) pa_nil))) pe_int))))
      (pss_one (ps_ret (pe_op op_cat (pe_lst (pa_cons (pv 2) (pa_cons pe_int pa_nil)))
        (pe_lc (own := [("_law_cell", 3)]) (g := gName 3) (te := tVar 3) rfl sc_random.nd (pi_list (pv 0)) (blkOk_by (own := [("_law_cell", 3)]) (N := raN) (sc := defScope s__law_random) (by decide +kernel))
          (fun _ _ _ _ _ => pg_name (i := 3) sc_random.nd rfl (Or.inl rfl)) (fun _ _ _ _ _ => pts_one (pt_cmpR op_ge (pv 3) (pe_op op_pow pe_int pe_int) (nomark _))) (fun _ _ _ _ _ => pv 3))))))), ?_⟩
    refine ⟨_, rfl, ?_⟩
    refine ⟨_, rfl, sc, rfl, ⟨_, hs⟩, ?_⟩
    refine for_list (K := K) (a := sc) (xs := ns.map V.int) (fun i σ H2 => H2 = H ∧ ∃ (z : Int) (o : Option V), σ = [some (.ref sc), some (.int salt), some (.int z), o]) ⟨rfl, salt, none, rfl⟩ (fun i σ H2 _ h => by rw [h.1]; exact hs) ?_ ?_
    · rintro i x σ H2 hx ⟨rfl, z, o, rfl⟩
      rw [List.getElem?_map] at hx
      cases hn : ns[i]? with
      | none => rw [hn] at hx; cases hx
      | some m =>
        rw [hn] at hx
        cases hx
        exact ⟨_, rfl, _, _, rfl, rfl, .inr (by decide), _, rfl, _, rfl, _, _, rfl, rfl, _, _, rfl, rfl, (by show (0 : Int) < 2147483647; decide), rfl, _, _, rfl⟩
    · rintro σ H2 ⟨rfl, z, o, rfl⟩
      refine ⟨_, rfl, (by show 2 ≤ sizeLine; decide), fun l1 nl1 => ?_⟩
      have s1 := sameUpd (o := .lst [.int z, .int 0]) (Same.refl H2) nl1
      have hl1 := @upd_same H2 l1 (.lst [.int z, .int 0])
      generalize upd H2 l1 (.lst [.int z, .int 0]) = H3 at *
      refine ⟨_, rfl, sc, rfl, ⟨_, sqL_same s1 hs⟩, fun D nD => ?_⟩
      refine lc_list (K := K) (a := sc) (xs := ns.map V.int) (vs := [3]) (fun i H4 => ∃ bs : List Int, bs.length ≤ i ∧ H4 D = some (.lst (bs.map V.int)) ∧ Same H3 H4) ⟨[], Nat.le_refl _, upd_same, sameUpd (Same.refl H3) nD⟩ (fun i H4 _ ⟨_, _, _, sm⟩ => sqL_same sm (sqL_same s1 hs)) ?_ ?_
      · rintro i x H4 hx ⟨bs, hb, hD, sm⟩
        rw [List.getElem?_map] at hx
        cases hn : ns[i]? with
        | none => rw [hn] at hx; cases hx
        | some m =>
          rw [hn] at hx
          cases hx
          have hi : i < ns.length := (List.getElem?_eq_some_iff.mp hn).1
          refine ⟨rfl, _, rfl, _, _, rfl, rfl, ⟨by decide, by decide, by decide⟩, _, _, rfl, rfl, _, rfl, ?_⟩
          refine ite2 (fun h => ?_) (fun h => ?_)
          · refine ⟨_, rfl, _, hD, ?_, bs ++ [m], by simp; omega, ?_, sameUpd sm nD⟩
            · rw [List.length_map, sizeLine_eq]
              omega
            · rw [upd_same, List.map_append]
              rfl
          · exact ⟨bs, by omega, hD, sm⟩
      · rintro H4 ⟨bs, hb, hD, sm⟩
        rw [List.length_map] at hb
        refine ⟨l1, D, _, _, rfl, rfl, sm _ _ hl1, hD, ?_, fun d nd => ?_⟩
        · rw [List.length_map, sizeLine_eq]
          simp
          omega
        · have s4 := sameUpd (o := .lst ([.int z, .int 0] ++ bs.map V.int)) (Same.refl H4) nd
          exact k d _ ((s1.trans sm).free nd) ((s1.trans sm).trans s4) ⟨z, 0, bs, by omega, upd_same⟩
end
theorem Drawn.put {d : Addr} {H H' : Hp} {x : Addr} {o : HO} (h : Drawn d H H') (hx : H x = none) (nd : x ≠ d) : Drawn d H (upd H' x o) :=
  ⟨fun b u hb e => by
    rw [upd_ne (ne_of_none e hx)]
    exact h.same b u hb e, let ⟨s, c, bs, hl, e⟩ := h.at_; ⟨s, c, bs, hl, (upd_ne (Ne.symm nd)).trans e⟩⟩
theorem Drawn.draw {d : Addr} {H H' : Hp} {s c : Int} {bs : List Int} (h : Drawn d H H') (hl : bs.length ≤ 63) : Drawn d H (upd H' d (drawL s c bs)) :=
  ⟨fun b u hb e => by
    rw [upd_ne hb]
    exact h.same b u hb e, ⟨s, c, bs, hl, upd_same⟩⟩
end Sw

end

section
set_option maxRecDepth 100000
set_option maxHeartbeats 4000000
/-! the law's own: shuffled -/
namespace Sw
open PySem PySem.Spec PyProof.Rows L2 SwA
theorem perm_erase : ∀ (l : List V) (i : Nat) (h : i < l.length), (l[i] :: l.eraseIdx i).Perm l
  | a :: l, 0, _ => .refl _
  | a :: l, i + 1, h => by
    have h' : i < l.length := by simpa using h
    have ih := perm_erase l i h'
    show (l[i] :: a :: l.eraseIdx i).Perm (a :: l)
    exact (List.Perm.swap a _ _).trans (ih.cons a)
structure ShuT (K : PySem.W.Frag) (mg : Str → Option Value) : Prop where
  l : LawT K mg
  shuffled : DeT K mg "_law_shuffled" s__law_shuffled
section
variable {P : Program} {w : World} {K : PySem.W.Frag} {mg : Str → Option Value} {base : Heap}
def spShuffled (K : PySem.W.Frag) : Sp := fun vs H Q _ => ∃ (d it : Addr) (xs : List V), vs = [.ref d, .ref it] ∧ DrawAt H d ∧ SqL K H it xs ∧ xs.length ≤ 1000 ∧
  ∀ (r : Addr) (H' : Hp) (ys : List V), ys.Perm xs → Drawn d H H' → H r = none → H' r = some (.lst ys) → Q (.ref r) H'
abbrev shN : List Str := ["_law_d", "_law_items", "_law_pool", "_law_result"]
theorem sc_shuffled : FnScope shN ["_law_d", "_law_items"] (defScope s__law_shuffled) := ⟨rfl, rfl, rfl, by decide +kernel, rfl, by decide +kernel, by decide +kernel⟩
theorem ok_shuffled (T : ShuT K mg) : FnE P w K mg base CX0 2 ("_law_shuffled", none) ["_law_d", "_law_items"] (spShuffled K) := by
  obtain ⟨fd, F⟩ := T.shuffled.d
  obtain ⟨fdB, GB, bB, kB⟩ := ok_below (P := P) (w := w) (base := base) T.l
  refine ⟨fd, F.ok sc_shuffled (fun vs H Q E h => ?_) (fun cdv A outer s H vs Q E hr h => ?_), F.bindsN fun _ _ _ _ _ _ us hl => match us, hl with | [_, _], _ => rfl, F.kp⟩
  · obtain ⟨d, it, xs, rfl, _⟩ := h
    rfl
  · obtain ⟨d, it, xs, rfl, hd, hi, hl, k⟩ := h
    refine ⟨_, PSs.nox (pss_cons (ps_set (i := 2) sc_shuffled.nd rfl (.inl rfl) (pe_callTy call_list_of (by rfl) T.l.list (by decide +kernel) (pa_cons (pv 1) pa_nil)))
      (pss_cons (ps_set (i := 3) sc_shuffled.nd rfl (.inl rfl) (pe_lst pa_nil))
      (pss_cons (ps_while PassesOwn.never (pt_cmpR (op_neNil (hu0 hr)) (pv 2) (pe_lst pa_nil) (nomark _))
        (pss_one (ps_expr (pe_bm PySem.F.plainAttrs_list PySem.F.slot_list_append PySem.F.type_list_append mt_append (pv 3)
          (pa_cons (pe_bm PySem.F.plainAttrs_list PySem.F.slot_list_pop PySem.F.type_list_pop mt_popAt (pv 2) (pa_cons (pe_call GB hr rfl T.l.below.g kB bB .nil pass0 (pa_cons (pv 0) (pa_cons (pe_callB call_len_seq (by rfl) T.l.len boot_len (pa_cons (pv 2) pa_nil)) pa_nil))) pa_nil)) pa_nil)))))
      (pss_one (ps_ret (pv 3)))))), ?_⟩
    refine ⟨_, rfl, it, _, rfl, .inl hi, fun pl npl => ?_⟩
    have d1 := (Drawn.refl hd).new (o := .lst xs) npl
    have hpl := @upd_same H pl (.lst xs)
    have pld : pl ≠ d := fun z => by
      obtain ⟨_, _, _, _, q⟩ := hd
      rw [z, q] at npl
      cases npl
    generalize upd H pl (.lst xs) = H1 at *
    refine ⟨(by show 0 ≤ sizeLine; decide), fun rl nrl => ?_⟩
    have d2 := d1.new (o := .lst []) nrl
    have hrl := @upd_same H1 rl (.lst [])
    have plrl : pl ≠ rl := ne_of_none hpl nrl
    have hpl2 : (upd H1 rl (.lst [])) pl = some (.lst xs) := (upd_ne plrl).trans hpl
    have nrl0 : H rl = none := d1.free (let ⟨s, c, bs, _, e⟩ := hd; ⟨_, e⟩) nrl
    have rld : rl ≠ d := fun z => by
      obtain ⟨_, _, _, _, q⟩ := d1.at_
      rw [z, q] at nrl
      cases nrl
    generalize upd H1 rl (.lst []) = H2 at *
    refine ⟨fun m σ H3 => ∃ (zs ys : List V), m = zs.length ∧ σ = [some (.ref d), some (.ref it), some (.ref pl), some (.ref rl)] ∧ Drawn d H H3 ∧ H3 pl = some (.lst zs) ∧ H3 rl = some (.lst ys) ∧ (ys ++ zs).Perm xs, ⟨xs.length, xs, [], rfl, rfl, d2, hpl2, hrl, .refl _⟩, ?_⟩
    rintro m σ H3 ⟨zs, ys, rfl, rfl, d3, hp3, hr3, hper⟩
    have hlen : ys.length + zs.length = xs.length := by rw [← List.length_append, hper.length_eq]
    refine ⟨_, rfl, (by show 0 ≤ sizeLine; decide), fun el nel => ?_⟩
    have s4 := sameUpd (o := .lst []) (Same.refl H3) nel
    have d4 := d3.new (o := .lst []) nel
    have hel := @upd_same H3 el (.lst [])
    replace hp3 := s4 _ _ hp3
    replace hr3 := s4 _ _ hr3
    generalize upd H3 el (.lst []) = H4 at *
    refine ⟨pl, el, _, rfl, rfl, SqL.of hp3, SqL.of hel, _, rfl, ?_⟩
    cases zs with
    | nil =>
      rw [List.append_nil] at hper
      exact ⟨_, rfl, k rl H4 ys hper d4 nrl0 hr3⟩
    | cons z0 zs0 =>
      refine ⟨_, fun _ _ nn => nn, ?_⟩
      refine ⟨_, rfl, .inl ⟨rfl, _, SqL.of hr3⟩, _, rfl, .inl ⟨rfl, _, SqL.of hp3⟩, _, rfl, _, rfl, pl, _, rfl, .inl (SqL.of hp3), d, (z0 :: zs0).length, rfl, d4.at_, by simp, by simp at hlen ⊢; omega, fun r sd cu bs hrl hbs => ?_⟩
      have d5 := d4.draw (s := sd) (c := cu) hbs
      have hp5 : (upd H4 d (drawL sd cu bs)) pl = some (.lst (z0 :: zs0)) := (upd_ne pld).trans hp3
      have hr5 : (upd H4 d (drawL sd cu bs)) rl = some (.lst ys) := (upd_ne rld).trans hr3
      generalize upd H4 d (drawL sd cu bs) = H5 at *
      have hsi : seqIndex? (r : Int) (z0 :: zs0).length = some r := by
        have h0 : ixN (z0 :: zs0).length (r : Int) = some r := by
          unfold ixN
          rw [if_pos (by omega), if_pos (by omega), Int.toNat_natCast]
        exact (ixN_seq h0).1
      refine ⟨pl, _, (r : Int), r, (z0 :: zs0)[r], rfl, rfl, hp5, by omega, by simp only [List.length_cons] at hlen hrl; omega, hsi, List.getElem?_eq_getElem hrl, ?_⟩
      have d6 := d5.put (x := pl) (o := .lst ((z0 :: zs0).eraseIdx r)) npl pld
      refine ⟨rl, _, _, rfl, rfl, (upd_ne (Ne.symm plrl)).trans hr5, by rw [sizeLine_eq]; simp at hlen; omega, ?_⟩
      refine ⟨((z0 :: zs0).eraseIdx r).length, by rw [List.length_eraseIdx_of_lt hrl]; simp, (z0 :: zs0).eraseIdx r, ys ++ [(z0 :: zs0)[r]], rfl, rfl, d6.put nrl0 rld, ?_, upd_same, ?_⟩
      · rw [upd_ne plrl, upd_same]
      · refine List.Perm.trans ?_ hper
        rw [List.append_assoc]
        exact List.Perm.append_left ys (perm_erase _ r hrl)
end
end Sw

end

section
set_option maxRecDepth 100000
set_option maxHeartbeats 4000000
/-! texts that are read without a fault: the lexer -/
namespace Sw
open PySem
abbrev KT := Kd × Cs
def kt (t : Tk) : KT := (t.kind, t.text)
def dec (n : Nat) : Cs := if n < 10 then [48 + n] else [48 + n / 10, 48 + n % 10]
/-- a word of letters -/
def Wd (w : Cs) : Prop := (∀ c ∈ w, isL c = true) ∧ 1 ≤ w.length ∧ w.length ≤ 8
/-- digits, at most two, no zero ahead -/
def Nm (w : Cs) : Prop := (∀ c ∈ w, isD c = true) ∧ 1 ≤ w.length ∧ w.length ≤ 2 ∧ (w.length = 1 ∨ w.head? ≠ some 48)
def kdOf (w : Cs) : Kd := match w with
  | [] => .name
  | c :: _ => if isD c = true then .number else if w ∈ kws then .keyword else .name
def ktOf (w : Cs) : KT := (kdOf w, w)
theorem tw_app {p : Nat → Bool} {w : Cs} {r : Cs} (h : ∀ c ∈ w, p c = true) (hr : ∀ c, r.head? = some c → p c = false) : (w ++ r).takeWhile p = w := by
  induction w with
  | nil =>
    cases r with
    | nil => rfl
    | cons c r => simp [hr c rfl]
  | cons a w ih =>
    have ha : p a = true := h a List.mem_cons_self
    simp only [List.cons_append, List.takeWhile_cons, ha, if_true]
    rw [ih fun c hc => h c (List.mem_cons_of_mem _ hc)]
theorem isL_isD {c : Nat} (h : isL c = true) : isD c = false := by
  unfold isL at h
  unfold isD
  rw [Bool.and_eq_true, Nat.ble_eq, Nat.ble_eq] at h
  cases e : (Nat.ble 48 c && Nat.ble c 57) with
  | false => rfl
  | true =>
    rw [Bool.and_eq_true, Nat.ble_eq, Nat.ble_eq] at e
    omega
theorem isL_ne {c : Nat} (h : isL c = true) : c ≠ 59 ∧ isS c = false := by
  unfold isL at h
  rw [Bool.and_eq_true, Nat.ble_eq, Nat.ble_eq] at h
  refine ⟨by omega, ?_⟩
  unfold isS
  have h1 : (c == 32) = false := by simp; omega
  have h2 : (c == 10) = false := by simp; omega
  rw [h1, h2]
  rfl
theorem isD_ne {c : Nat} (h : isD c = true) : c ≠ 59 ∧ isS c = false := by
  unfold isD at h
  rw [Bool.and_eq_true, Nat.ble_eq, Nat.ble_eq] at h
  refine ⟨by omega, ?_⟩
  unfold isS
  have h1 : (c == 32) = false := by simp; omega
  have h2 : (c == 10) = false := by simp; omega
  rw [h1, h2]
  rfl
/-- what may stand behind a word -/
def Brk (r : Cs) : Prop := ∀ c, r.head? = some c → isL c = false ∧ isD c = false
theorem read_word {line col : Nat} {w r : Cs} (hw : Wd w ∨ Nm w) (hr : Brk r) : readTok line col (w ++ r) = some ⟨kdOf w, w, line, col⟩ := by
  rcases hw with ⟨h1, h2, h3⟩ | ⟨h1, h2, h3, h4⟩
  · cases w with
    | nil => simp at h2
    | cons c w =>
      have hc := h1 c List.mem_cons_self
      have tw : ((c :: w) ++ r).takeWhile isL = c :: w := tw_app h1 fun x hx => (hr x hx).1
      have e : (c :: w) ++ r = c :: (w ++ r) := rfl
      rw [e] at tw ⊢
      simp only [readTok, if_neg (isL_ne hc).1, isL_isD hc, tw, kdOf]
      by_cases hk : (c :: w) ∈ kws
      · simp [hk]
      · have hp : 1 ≤ (c :: w).length ∧ (c :: w).length ≤ 8 := ⟨h2, h3⟩
        simp only [hk, hp, if_true, if_false, Bool.false_eq_true, and_self]
  · cases w with
    | nil => simp at h2
    | cons c w =>
      have hc := h1 c List.mem_cons_self
      have tw : ((c :: w) ++ r).takeWhile isD = c :: w := tw_app h1 fun x hx => (hr x hx).2
      have e : (c :: w) ++ r = c :: (w ++ r) := rfl
      rw [e] at tw ⊢
      simp only [readTok, if_neg (isD_ne hc).1, hc, tw, kdOf, if_true]
      rw [if_neg]
      rintro (q | ⟨q1, q2⟩)
      · omega
      · rcases h4 with z | z
        · omega
        · exact z (by rw [q2]; rfl)
theorem lex_word {line col f : Nat} {w r : Cs} {ts : List Tk} (hw : Wd w ∨ Nm w) (hr : Brk r) (h : lexRow line f (col + w.length) r = .ok ts) : lexRow line (f + 1) col (w ++ r) = .ok (⟨kdOf w, w, line, col⟩ :: ts) := by
  have rd := read_word (line := line) (col := col) hw hr
  cases w with
  | nil => rcases hw with ⟨_, q, _⟩ | ⟨_, q, _⟩ <;> simp at q
  | cons c w =>
    have hs : isS c = false := by
      rcases hw with ⟨q, _⟩ | ⟨q, _⟩
      · exact (isL_ne (q c List.mem_cons_self)).2
      · exact (isD_ne (q c List.mem_cons_self)).2
    have e : (c :: w) ++ r = c :: (w ++ r) := rfl
    rw [e] at rd ⊢
    simp only [lexRow, hs, rd]
    have ed : (c :: (w ++ r)).drop (c :: w).length = r := by rw [← e, List.drop_left]
    rw [ed, h]
    rfl
theorem lex_space {line col f c : Nat} {r : Cs} (hs : isS c = true) : lexRow line (f + 1) col (c :: r) = lexRow line f (col + 1) r := by
  simp only [lexRow, hs, if_true]
theorem lex_semi {line col f : Nat} {r : Cs} {ts : List Tk} (h : lexRow line f (col + 1) r = .ok ts) : lexRow line (f + 1) col (59 :: r) = .ok (⟨.sign, [59], line, col⟩ :: ts) := by
  have e : readTok line col (59 :: r) = some ⟨.sign, [59], line, col⟩ := rfl
  have hs : isS 59 = false := rfl
  simp only [lexRow, hs, e]
  show (match lexRow line f (col + 1) r with | .error e => Except.error e | .ok ts => .ok (_ :: ts)) = _
  rw [h]
/-! ### a line: words with a space between, then ; -/
def wordsOf : List Cs → Cs
  | [] => []
  | [w] => w
  | w :: r => w ++ 32 :: wordsOf r
def lineOf (ws : List Cs) : Cs := wordsOf ws ++ [59]
theorem brk_semi {r : Cs} : Brk (59 :: r) := fun c h => by
  cases h
  exact ⟨rfl, rfl⟩
theorem brk_space {r : Cs} : Brk (32 :: r) := fun c h => by
  cases h
  exact ⟨rfl, rfl⟩
theorem lex_line {line : Nat} : ∀ {ws : List Cs} {f col : Nat}, ws ≠ [] → (∀ w ∈ ws, Wd w ∨ Nm w) → (lineOf ws).length ≤ f → ∃ T, lexRow line f col (lineOf ws) = .ok T ∧ T.map kt = ws.map ktOf ++ [(.sign, wSemi)]
  | [], _, _, h, _, _ => absurd rfl h
  | [w], f, col, _, hw, hf => by
    have hw1 := hw w List.mem_cons_self
    have hl : (lineOf [w]).length = w.length + 1 := by simp [lineOf, wordsOf]
    obtain ⟨f', rfl⟩ : ∃ f', f = f' + 1 + 1 := ⟨f - 2, by rcases hw1 with ⟨_, q, _⟩ | ⟨_, q, _⟩ <;> omega⟩
    have e1 : lexRow line (f' + 1) (col + w.length) [59] = .ok [⟨.sign, [59], line, col + w.length⟩] := by
      refine lex_semi ?_
      cases f' <;> rfl
    exact ⟨_, lex_word hw1 brk_semi e1, rfl⟩
  | w :: w2 :: ws, f, col, _, hw, hf => by
    have hw1 := hw w List.mem_cons_self
    have e : lineOf (w :: w2 :: ws) = w ++ 32 :: lineOf (w2 :: ws) := by
      show (w ++ 32 :: wordsOf (w2 :: ws)) ++ [59] = _
      rw [List.append_assoc]
      rfl
    rw [e] at hf ⊢
    rw [List.length_append, List.length_cons] at hf
    obtain ⟨f', rfl⟩ : ∃ f', f = f' + 1 + 1 := ⟨f - 2, by rcases hw1 with ⟨_, q, _⟩ | ⟨_, q, _⟩ <;> omega⟩
    have hf2 : (lineOf (w2 :: ws)).length ≤ f' := by rcases hw1 with ⟨_, q, _⟩ | ⟨_, q, _⟩ <;> omega
    obtain ⟨T, h1, h2⟩ := lex_line (line := line) (ws := w2 :: ws) (f := f') (col := col + w.length + 1) (by simp) (fun x hx => hw x (List.mem_cons_of_mem _ hx)) hf2
    refine ⟨_, lex_word hw1 brk_space (by rw [lex_space rfl]; exact h1), ?_⟩
    rw [List.map_cons, h2]
    rfl
theorem lex_lines : ∀ {lss : List (List Cs)} {line : Nat}, (∀ ws ∈ lss, ws ≠ [] ∧ ∀ w ∈ ws, Wd w ∨ Nm w) → ∃ T, lexRows line (lss.map lineOf) = .ok T ∧ T.map kt = (lss.map fun ws => ws.map ktOf ++ [(.sign, wSemi)]).flatten
  | [], _, _ => ⟨[], rfl, rfl⟩
  | ws :: lss, line, h => by
    obtain ⟨hne, hw⟩ := h ws List.mem_cons_self
    obtain ⟨T, h1, h2⟩ := lex_line (line := line) (col := 0) hne hw (Nat.le_refl _)
    obtain ⟨U, h3, h4⟩ := lex_lines (lss := lss) (line := line + 1) fun x hx => h x (List.mem_cons_of_mem _ hx)
    refine ⟨T ++ U, ?_, ?_⟩
    · show (match lexRow line (lineOf ws).length 0 (lineOf ws) with | .error e => Except.error e | .ok ts => match lexRows (line + 1) (lss.map lineOf) with | .error e => .error e | .ok us => .ok (ts ++ us)) = _
      rw [h1, h3]
    · rw [List.map_append, h2, h4]
      rfl
theorem no10_line : ∀ {ws : List Cs}, (∀ w ∈ ws, Wd w ∨ Nm w) → 10 ∉ lineOf ws := by
  have key : ∀ {ws : List Cs}, (∀ w ∈ ws, Wd w ∨ Nm w) → 10 ∉ wordsOf ws := by
    intro ws
    induction ws with
    | nil => intro _ h; cases h
    | cons w ws ih =>
      intro hw h
      have h10 : 10 ∉ w := fun z => by
        rcases hw w List.mem_cons_self with ⟨q, _⟩ | ⟨q, _⟩
        · exact absurd (q 10 z) (by decide)
        · exact absurd (q 10 z) (by decide)
      cases ws with
      | nil => exact h10 h
      | cons w2 ws =>
        rcases List.mem_append.mp h with z | z
        · exact h10 z
        · rcases List.mem_cons.mp z with y | y
          · exact absurd y (by decide)
          · exact ih (fun x hx => hw x (List.mem_cons_of_mem _ hx)) y
  intro ws hw h
  rcases List.mem_append.mp h with z | z
  · exact key hw z
  · exact absurd (List.mem_singleton.mp z) (by decide)
/-- a text of such lines -/
theorem tokenize_lines {lss : List (List Cs)} (hne : lss ≠ []) (h : ∀ ws ∈ lss, ws ≠ [] ∧ ∀ w ∈ ws, Wd w ∨ Nm w) :
    ∃ T, tokenize (TL.joinL [10] (lss.map lineOf)) = .ok T ∧ T.map kt = (lss.map fun ws => ws.map ktOf ++ [(Kd.sign, wSemi)]).flatten ++ [(.fin, [])] := by
  have hr : rowsOf (TL.joinL [10] (lss.map lineOf)) = lss.map lineOf := TL.spl_join (by simpa using hne) (by
    intro p hp
    obtain ⟨ws, hws, rfl⟩ := List.mem_map.mp hp
    exact no10_line (h ws hws).2)
  obtain ⟨T, h1, h2⟩ := lex_lines (line := 0) h
  refine ⟨T ++ [⟨.fin, [], (lss.map lineOf).length, 0⟩], ?_, ?_⟩
  · unfold tokenize
    rw [hr, h1]
  · rw [List.map_append, h2]
    rfl
end Sw

end

section
set_option maxRecDepth 100000
set_option maxHeartbeats 4000000
/-! texts that are read without a fault: the parser -/
namespace Sw
open PySem
/-- what is still to be read -/
def Rest (T : List Tk) (st : PSt) (l : List KT) : Prop := (T.map kt).drop st.at_ = l
section
variable {T : List Tk} {st : PSt} {k : Kd} {w : Cs} {l : List KT}
theorem Rest.cons (h : Rest T st ((k, w) :: l)) : (peek T st).kind = k ∧ (peek T st).text = w ∧ Rest T st.next l := by
  have e0 : (T.map kt)[st.at_]? = some (k, w) := by
    have := congrArg List.head? h
    rw [List.head?_drop] at this
    exact this
  rw [List.getElem?_map] at e0
  cases ht : T[st.at_]? with
  | none => rw [ht] at e0; cases e0
  | some t =>
    rw [ht] at e0
    have e1 : kt t = (k, w) := Option.some.inj e0
    have ep : peek T st = t := by
      unfold peek
      rw [List.getD_eq_getElem?_getD, ht]
      rfl
    refine ⟨by rw [ep]; exact congrArg Prod.fst e1, by rw [ep]; exact congrArg Prod.snd e1, ?_⟩
    show (T.map kt).drop (st.at_ + 1) = l
    have := congrArg List.tail h
    rw [List.tail_drop] at this
    exact this
theorem Rest.of_at {st2 : PSt} (h : Rest T st l) (e : st2.at_ = st.at_) : Rest T st2 l := by
  unfold Rest at *
  rw [e]
  exact h
theorem take_ok' (h : Rest T st ((k, w) :: l)) : ∃ t, take T k st = .ok (t, st.next) ∧ t.text = w ∧ Rest T st.next l := by
  obtain ⟨h1, h2, h3⟩ := h.cons
  exact ⟨peek T st, by unfold take; rw [if_pos h1], h2, h3⟩
theorem word_ok (h : Rest T st ((k, w) :: l)) : ∃ t, takeWord T w st = .ok (t, st.next) ∧ t.text = w ∧ Rest T st.next l := by
  obtain ⟨h1, h2, h3⟩ := h.cons
  exact ⟨peek T st, by unfold takeWord; rw [if_pos h2], h2, h3⟩
theorem kw_ok {ws : List Cs} (h : Rest T st ((.keyword, w) :: l)) (hw : w ∈ ws) : ∃ t, takeKw T ws st = .ok (t, st.next) ∧ t.text = w ∧ Rest T st.next l := by
  obtain ⟨h1, h2, h3⟩ := h.cons
  exact ⟨peek T st, by unfold takeKw; rw [if_pos ⟨h1, by rw [h2]; exact hw⟩], h2, h3⟩
end
/-- all but the place -/
def PSt.at' (st : PSt) (n : Nat) : PSt := { st with at_ := n }
/-! ### names -/
def pushAll (b : Bool) (ws : List Cs) (st : PSt) : PSt := if b then { st with moods := st.moods ++ ws } else { st with signs := st.signs ++ ws }
theorem more_names {T : List Tk} {k : Kd} {w : Cs} {l : List KT} (hk : k ≠ .name) : ∀ {ws : List Cs} {f : Nat} {st : PSt} {acc : List Tk}, Rest T st (ws.map (fun w => (Kd.name, w)) ++ (k, w) :: l) → ws.length ≤ f →
    ∃ ts : List Tk, moreNames T f st acc = (acc ++ ts, { st with at_ := st.at_ + ws.length }) ∧ ts.map (·.text) = ws
  | [], f, st, acc, h, hf => by
    obtain ⟨h1, _, _⟩ := h.cons
    cases f with
    | zero => exact ⟨[], by simp [moreNames], rfl⟩
    | succ f => exact ⟨[], by simp only [moreNames]; rw [if_neg (by rw [h1]; exact hk)]; simp, rfl⟩
  | x :: ws, f, st, acc, h, hf => by
    obtain ⟨h1, h2, h3⟩ := h.cons
    obtain ⟨f', rfl⟩ : ∃ f', f = f' + 1 := ⟨f - 1, by simp at hf; omega⟩
    obtain ⟨ts, e1, e2⟩ := more_names hk (ws := ws) (f := f') (st := st.next) (acc := acc ++ [peek T st]) h3 (by simpa using hf)
    refine ⟨peek T st :: ts, ?_, by simp [h2, e2]⟩
    simp only [moreNames]
    rw [if_pos h1, e1]
    simp [PSt.next, Nat.add_comm, Nat.add_left_comm]
theorem add_names {b : Bool} : ∀ {ts : List Tk} {st : PSt}, (ts.map (·.text)).Nodup → (∀ w ∈ ts.map (·.text), w ∉ st.names b) → (st.names b).length + ts.length ≤ mostOf b →
    ts.foldl (addName b) st = pushAll b (ts.map (·.text)) st
  | [], st, _, _, _ => by cases b <;> simp [pushAll]
  | t :: ts, st, hn, hm, hl => by
    have h1 : addName b st t = st.push b t.text := by
      unfold addName
      rw [if_neg (hm t.text (by simp)), if_neg (by simp at hl; omega)]
    rw [List.foldl_cons, h1]
    rw [List.map_cons, List.nodup_cons] at hn
    have e2 : (st.push b t.text).names b = st.names b ++ [t.text] := by cases b <;> rfl
    rw [add_names hn.2 (by
      intro w hw
      rw [e2]
      intro z
      rcases List.mem_append.mp z with y | y
      · exact hm w (List.mem_cons_of_mem _ hw) y
      · exact hn.1 (List.mem_singleton.mp y ▸ hw)) (by rw [e2, List.length_append]; simp at hl ⊢; omega)]
    cases b <;> simp [pushAll, PSt.push]
theorem names_ok {T : List Tk} {b : Bool} {st : PSt} {ws : List Cs} {k0 k1 : Kd} {l : List KT} (h : Rest T st ((k0, wordOf b) :: (ws.map (fun w => (Kd.name, w)) ++ (k1, wSemi) :: l))) (hk : k1 ≠ .name) (hne : ws ≠ []) (hT : ws.length ≤ T.length) (hn : ws.Nodup) (hm : (st.names b) = []) (hl : ws.length ≤ mostOf b) :
    ∃ st2, parseNames T b st = .ok ((), st2) ∧ st2 = { pushAll b ws st with at_ := st.at_ + ws.length + 2 } ∧ Rest T st2 l := by
  cases ws with
  | nil => exact absurd rfl hne
  | cons x ws =>
    obtain ⟨t1, e1, _, r1⟩ := word_ok h
    obtain ⟨t2, e2, x2, r2⟩ := take_ok' r1
    obtain ⟨ts, e3, x3⟩ := more_names (T := T) hk (ws := ws) (f := T.length) (st := st.next.next) (acc := [t2]) r2 (by simp at hT; omega)
    have r3 : Rest T { st.next.next with at_ := st.next.next.at_ + ws.length } ((k1, wSemi) :: l) := by
      have r2' : (T.map kt).drop st.next.next.at_ = ws.map (fun w => (Kd.name, w)) ++ (k1, wSemi) :: l := r2
      show (T.map kt).drop (st.next.next.at_ + ws.length) = _
      rw [← List.drop_drop, r2']
      have : ws.length = (ws.map (fun w => (Kd.name, w))).length := by simp
      rw [this, List.drop_left]
    obtain ⟨t4, e4, _, r4⟩ := word_ok r3
    have ets : ([t2] ++ ts).map (·.text) = x :: ws := by simp [x2, x3]
    refine ⟨_, ?_, rfl, ?_⟩
    · unfold parseNames
      simp only [e1, e2, e3, e4]
      rw [add_names (by rw [ets]; exact hn) (by
        intro w _ z
        have : (PSt.next { st.next.next with at_ := st.next.next.at_ + ws.length }).names b = st.names b := by cases b <;> rfl
        rw [this, hm] at z
        cases z) (by
        have : (PSt.next { st.next.next with at_ := st.next.next.at_ + ws.length }).names b = st.names b := by cases b <;> rfl
        rw [this, hm]
        have : ([t2] ++ ts).length = (x :: ws).length := by rw [← ets, List.length_map]
        rw [this]
        simpa using hl), ets]
      cases b <;> simp [pushAll, PSt.next, Nat.add_assoc, Nat.add_comm, Nat.add_left_comm]
    · refine r4.of_at ?_
      simp [PSt.next]
      omega
end Sw

end

section
set_option maxRecDepth 100000
set_option maxHeartbeats 4000000
/-! texts that are read without a fault: the statements -/
namespace Sw
open PySem
inductive Stm
  | robot (t : Nat) (r : Bool)
  | put (g tile : Nat)
  | rule (k : Nat × Nat) (r : Rule)
def wayOf (r : Bool) : Cs := if r then wRight else wLeft
def stmW (signs moods : List Cs) : Stm → List Cs
  | .robot t r => [wRobot, dec t, wayOf r]
  | .put g t => [wPut, signs.getD g [], dec t]
  | .rule k r => [wWhen, moods.getD k.1 [], signs.getD k.2 [], wLeave, signs.getD r.left [], r.move, moods.getD r.later []]
def stmKT (signs moods : List Cs) (s : Stm) : List KT := (stmW signs moods s).map ktOf ++ [(.sign, wSemi)]
/-- a name: a word, no keyword -/
def NameOk (w : Cs) : Prop := Wd w ∧ w ∉ kws
structure NamesOk (ws : List Cs) : Prop where
  nd : ws.Nodup
  ok : ∀ w ∈ ws, NameOk w
theorem kd_name {w : Cs} (h : NameOk w) : kdOf w = .name := by
  obtain ⟨⟨h1, h2, _⟩, h3⟩ := h
  cases w with
  | nil => simp at h2
  | cons c w =>
    have := isL_isD (h1 c List.mem_cons_self)
    simp only [kdOf, this, if_neg h3]
    rfl
theorem dec_nm {n : Nat} (h : n < 100) : Nm (dec n) ∧ kdOf (dec n) = .number ∧ numVal (dec n) = n := by
  have key : ∀ n, n < 100 → ((dec n).all isD && (decide (1 ≤ (dec n).length) && (decide ((dec n).length ≤ 2) && ((decide ((dec n).length = 1) || decide ((dec n).head? ≠ some 48)) && (decide (kdOf (dec n) = .number) && decide (numVal (dec n) = n)))))) = true := by decide +kernel
  have := key n h
  simp only [Bool.and_eq_true, Bool.or_eq_true, decide_eq_true_eq, List.all_eq_true] at this
  exact ⟨⟨this.1, this.2.1, this.2.2.1, this.2.2.2.1⟩, this.2.2.2.2.1, this.2.2.2.2.2⟩
theorem getD_in {ws : List Cs} {g : Nat} (h : g < ws.length) : ws.getD g [] ∈ ws := by
  rw [List.getD_eq_getElem?_getD, List.getElem?_eq_getElem h]
  exact List.getElem_mem h
theorem num_ok {ws : List Cs} {g : Nat} {t : Tk} {st : PSt} (hn : ws.Nodup) (hg : g < ws.length) (ht : t.text = ws.getD g []) : numberOf ws t st = (g, st) := by
  unfold numberOf
  rw [if_pos (by rw [ht]; exact getD_in hg), ht]
  have : ws.getD g [] = ws[g] := by rw [List.getD_eq_getElem?_getD, List.getElem?_eq_getElem hg]; rfl
  rw [this, List.Nodup.idxOf_getElem hn]
def applyS (signs moods : List Cs) (st : PSt) : Stm → PSt
  | .robot t r => { st with robots := st.robots ++ [(t, r)] }
  | .put g t => { st with spots := st.spots ++ [(t, g)] }
  | .rule k r => { st with pairs := st.pairs ++ [(moods.getD k.1 [], signs.getD k.2 [])], rules := st.rules ++ [(k, r)] }
/-- a statement that fits -/
def StmOk (tiles : Nat) (signs moods : List Cs) (st : PSt) : Stm → Prop
  | .robot t _ => t < tiles ∧ st.robots.length < 3
  | .put g t => t < tiles ∧ g < signs.length ∧ ∀ q ∈ st.spots, q.1 ≠ t
  | .rule k r => k.1 < moods.length ∧ k.2 < signs.length ∧ r.left < signs.length ∧ r.later < moods.length ∧ r.move ∈ moves ∧ (moods.getD k.1 [], signs.getD k.2 []) ∉ st.pairs ∧ ∀ q ∈ st.rules, q.1 ≠ k
theorem putA_new {κ α : Type} [DecidableEq κ] {l : List (κ × α)} {k : κ} {v : α} (h : ∀ q ∈ l, q.1 ≠ k) : putA l k v = l ++ [(k, v)] := by
  unfold putA
  rw [if_neg]
  intro z
  obtain ⟨q, hq, e⟩ := List.any_eq_true.mp z
  exact h q hq (of_decide_eq_true e)
theorem move_kd {w : Cs} (h : w ∈ moves) : kdOf w = .keyword := by
  have : ∀ w ∈ moves, kdOf w = .keyword := by decide +kernel
  exact this w h
theorem way_kd (r : Bool) : kdOf (wayOf r) = .keyword ∧ wayOf r ∈ ways ∧ (decide (wayOf r = wRight)) = r := by cases r <;> decide +kernel
section
variable {T : List Tk} {tiles : Nat} {st : PSt} {l : List KT}
theorem tile_ok {t : Nat} (h : Rest T st (ktOf (dec t) :: l)) (ht : t < tiles) (h99 : t < 100) : tileOf T tiles st = .ok (t, st.next) ∧ Rest T st.next l := by
  obtain ⟨_, hk, hv⟩ := dec_nm h99
  have h' : Rest T st ((.number, dec t) :: l) := by rw [← hk]; exact h
  obtain ⟨tk, e1, e2, e3⟩ := take_ok' h'
  refine ⟨?_, e3⟩
  unfold tileOf
  simp only [e1, e2, hv]
  rw [if_neg (by omega)]
theorem robot_ok {signs moods : List Cs} {t : Nat} {r : Bool} (h : Rest T st (stmKT signs moods (.robot t r) ++ l)) (ht : t < tiles) (h16 : tiles ≤ 16) (hr : st.robots.length < 3) :
    ∃ st2, parseRobot T tiles st = .ok ((), st2) ∧ st2 = { applyS signs moods st (.robot t r) with at_ := st.at_ + 4 } ∧ Rest T st2 l := by
  obtain ⟨t1, e1, _, r1⟩ := word_ok (k := kdOf wRobot) (w := wRobot) h
  obtain ⟨e2, r2⟩ := tile_ok (tiles := tiles) (t := t) r1 ht (by omega)
  obtain ⟨w1, w2, w3⟩ := way_kd r
  have r2' : Rest T st.next.next ((.keyword, wayOf r) :: (.sign, wSemi) :: l) := by
    have : ktOf (wayOf r) = (.keyword, wayOf r) := by unfold ktOf; rw [w1]
    rw [← this]
    exact r2
  obtain ⟨t3, e3, x3, r3⟩ := kw_ok r2' w2
  obtain ⟨t4, e4, _, r4⟩ := word_ok r3
  refine ⟨_, ?_, rfl, r4.of_at rfl⟩
  unfold parseRobot
  have hn : ¬ st.next.robots.length = 3 := by
    show ¬ st.robots.length = 3
    omega
  simp only [e1, if_neg hn, e2, e3, e4, x3, w3]
  rfl
theorem put_ok {moods : List Cs} {g t : Nat} (hN : NamesOk st.signs) (h : Rest T st (stmKT st.signs moods (.put g t) ++ l)) (h16 : tiles ≤ 16) (ho : StmOk tiles st.signs moods st (.put g t)) :
    ∃ st2, parsePut T tiles st = .ok ((), st2) ∧ st2 = { applyS st.signs moods st (.put g t) with at_ := st.at_ + 4 } ∧ Rest T st2 l := by
  obtain ⟨ht, hg, hno⟩ := ho
  obtain ⟨t1, e1, _, r1⟩ := word_ok (k := kdOf wPut) (w := wPut) h
  have r1' : Rest T st.next ((.name, st.signs.getD g []) :: ktOf (dec t) :: (.sign, wSemi) :: l) := by
    have : ktOf (st.signs.getD g []) = (.name, st.signs.getD g []) := by unfold ktOf; rw [kd_name (hN.ok _ (getD_in hg))]
    rw [← this]
    exact r1
  obtain ⟨t2, e2, x2, r2⟩ := take_ok' r1'
  have en : ∀ s : PSt, numberOf st.signs t2 s = (g, s) := fun s => num_ok hN.nd hg x2
  obtain ⟨e3, r3⟩ := tile_ok (tiles := tiles) (t := t) r2 ht (by omega)
  obtain ⟨t4, e4, _, r4⟩ := word_ok r3
  refine ⟨_, ?_, rfl, r4.of_at rfl⟩
  unfold parsePut
  simp only [e1, e2]
  have en2 : numberOf st.next.next.signs t2 st.next.next = (g, st.next.next) := en _
  simp only [en2, e3, e4]
  have hany : (st.next.next.next.next.spots.any fun kv => decide (kv.1 = t)) = false := by
    show (st.spots.any fun kv => decide (kv.1 = t)) = false
    rw [List.any_eq_false]
    intro q hq z
    exact hno q hq (of_decide_eq_true z)
  rw [hany]
  have ep : putA st.spots t g = st.spots ++ [(t, g)] := putA_new hno
  simp only [Bool.false_eq_true, if_false]
  show Except.ok ((), { st.next.next.next.next with spots := putA st.spots t g }) = _
  rw [ep]
  rfl
theorem rule_ok {k : Nat × Nat} {r : Rule} (hN : NamesOk st.signs) (hM : NamesOk st.moods) (h : Rest T st (stmKT st.signs st.moods (.rule k r) ++ l)) (ho : StmOk tiles st.signs st.moods st (.rule k r)) :
    ∃ st2, parseRule T st = .ok ((), st2) ∧ st2 = { applyS st.signs st.moods st (.rule k r) with at_ := st.at_ + 8 } ∧ Rest T st2 l := by
  obtain ⟨hk1, hk2, hl, hla, hm, hp, hno⟩ := ho
  have nm : ∀ g, g < st.signs.length → ktOf (st.signs.getD g []) = (.name, st.signs.getD g []) := fun g hg => by unfold ktOf; rw [kd_name (hN.ok _ (getD_in hg))]
  have nm2 : ∀ g, g < st.moods.length → ktOf (st.moods.getD g []) = (.name, st.moods.getD g []) := fun g hg => by unfold ktOf; rw [kd_name (hM.ok _ (getD_in hg))]
  have km : ktOf r.move = (.keyword, r.move) := by unfold ktOf; rw [move_kd hm]
  have h0 : Rest T st (ktOf wWhen :: ktOf (st.moods.getD k.1 []) :: ktOf (st.signs.getD k.2 []) :: ktOf wLeave :: ktOf (st.signs.getD r.left []) :: ktOf r.move :: ktOf (st.moods.getD r.later []) :: (.sign, wSemi) :: l) := h
  rw [nm2 _ hk1, nm _ hk2, nm _ hl, nm2 _ hla, km] at h0
  obtain ⟨t1, e1, _, r1⟩ := word_ok (k := kdOf wWhen) (w := wWhen) h0
  obtain ⟨t2, e2, x2, r2⟩ := take_ok' r1
  have n2 : numberOf st.next.next.moods t2 st.next.next = (k.1, st.next.next) := num_ok hM.nd hk1 x2
  obtain ⟨t3, e3, x3, r3⟩ := take_ok' r2
  have n3 : numberOf st.next.next.next.signs t3 st.next.next.next = (k.2, st.next.next.next) := num_ok hN.nd hk2 x3
  obtain ⟨t4, e4, _, r4⟩ := word_ok (k := kdOf wLeave) (w := wLeave) r3
  obtain ⟨t5, e5, x5, r5⟩ := take_ok' r4
  have n5 : numberOf st.next.next.next.next.next.signs t5 st.next.next.next.next.next = (r.left, st.next.next.next.next.next) := num_ok hN.nd hl x5
  obtain ⟨t6, e6, x6, r6⟩ := kw_ok r5 hm
  obtain ⟨t7, e7, x7, r7⟩ := take_ok' r6
  have n7 : numberOf st.next.next.next.next.next.next.next.moods t7 st.next.next.next.next.next.next.next = (r.later, st.next.next.next.next.next.next.next) := num_ok hM.nd hla x7
  obtain ⟨t8, e8, _, r8⟩ := word_ok r7
  refine ⟨_, ?_, rfl, r8.of_at rfl⟩
  unfold parseRule
  simp only [e1, e2, n2, e3, n3, e4, e5, n5, e6, e7, n7, e8, x2, x3, x6]
  have hp2 : (st.moods.getD k.1 [], st.signs.getD k.2 []) ∉ st.next.next.next.next.next.next.next.next.pairs := hp
  rw [if_neg hp2, if_neg hp2]
  have ep : putA st.rules k r = st.rules ++ [(k, r)] := putA_new hno
  show Except.ok ((), { st.next.next.next.next.next.next.next.next with pairs := st.pairs ++ [(st.moods.getD k.1 [], st.signs.getD k.2 [])], rules := putA st.rules (k.1, k.2) ⟨r.left, r.move, r.later⟩ }) = _
  have e0 : putA st.rules (k.1, k.2) ⟨r.left, r.move, r.later⟩ = putA st.rules k r := rfl
  rw [e0, ep]
  rfl
end
end Sw

end

section
set_option maxRecDepth 100000
set_option maxHeartbeats 4000000
/-! texts that are read without a fault: the whole -/
namespace Sw
open PySem
def Fits (tiles : Nat) (signs moods : List Cs) : PSt → List Stm → Prop
  | _, [] => True
  | st, s :: r => StmOk tiles signs moods st s ∧ Fits tiles signs moods (applyS signs moods st s) r
theorem apply_at {signs moods : List Cs} {st : PSt} {n : Nat} (s : Stm) : applyS signs moods { st with at_ := n } s = { applyS signs moods st s with at_ := n } := by cases s <;> rfl
theorem Fits.at_ {tiles : Nat} {signs moods : List Cs} : ∀ {ss : List Stm} {st : PSt} {n : Nat}, Fits tiles signs moods st ss → Fits tiles signs moods { st with at_ := n } ss
  | [], _, _, _ => trivial
  | s :: r, st, n, h => by
    refine ⟨?_, ?_⟩
    · have := h.1
      cases s <;> exact this
    · rw [apply_at]
      exact Fits.at_ h.2
theorem fold_at {signs moods : List Cs} : ∀ {ss : List Stm} {st : PSt} {n m : Nat}, { ss.foldl (applyS signs moods) { st with at_ := n } with at_ := m } = { ss.foldl (applyS signs moods) st with at_ := m }
  | [], _, _, _ => rfl
  | s :: r, st, n, m => by
    rw [List.foldl_cons, List.foldl_cons, apply_at]
    exact fold_at
theorem apply_si {signs moods : List Cs} {st : PSt} (s : Stm) : (applyS signs moods st s).signs = st.signs ∧ (applyS signs moods st s).moods = st.moods := by cases s <;> exact ⟨rfl, rfl⟩
section
variable {T : List Tk} {tiles : Nat} {signs moods : List Cs}
theorem stm_ok {st : PSt} {l : List KT} (s : Stm) (e1 : st.signs = signs) (e2 : st.moods = moods) (hN : NamesOk signs) (hM : NamesOk moods) (h16 : tiles ≤ 16) (h : Rest T st (stmKT signs moods s ++ l)) (ho : StmOk tiles signs moods st s) :
    ∃ n, parseStmt T tiles st = .ok ((), { applyS signs moods st s with at_ := n }) ∧ (peek T st).kind ≠ .fin ∧ Rest T { applyS signs moods st s with at_ := n } l := by
  subst e1
  subst e2
  cases s with
  | robot t r =>
    obtain ⟨p1, p2, _⟩ := Rest.cons (k := kdOf wRobot) (w := wRobot) h
    obtain ⟨st2, e, rfl, hr⟩ := robot_ok (tiles := tiles) h ho.1 h16 ho.2
    refine ⟨_, ?_, by rw [p1]; decide, hr⟩
    unfold parseStmt
    rw [if_pos p2]
    exact e
  | put g t =>
    obtain ⟨p1, p2, _⟩ := Rest.cons (k := kdOf wPut) (w := wPut) h
    obtain ⟨st2, e, rfl, hr⟩ := put_ok (tiles := tiles) hN h h16 ho
    refine ⟨_, ?_, by rw [p1]; decide, hr⟩
    unfold parseStmt
    rw [if_neg (by rw [p2]; decide), if_pos p2]
    exact e
  | rule k r =>
    obtain ⟨p1, p2, _⟩ := Rest.cons (k := kdOf wWhen) (w := wWhen) h
    obtain ⟨st2, e, rfl, hr⟩ := rule_ok (tiles := tiles) hN hM h ho
    refine ⟨_, ?_, by rw [p1]; decide, hr⟩
    unfold parseStmt
    rw [if_neg (by rw [p2]; decide), if_neg (by rw [p2]; decide), if_pos p2]
    exact e
theorem stmts_ok (hN : NamesOk signs) (hM : NamesOk moods) (h16 : tiles ≤ 16) : ∀ {ss : List Stm} {f : Nat} {st : PSt}, st.signs = signs → st.moods = moods → Rest T st ((ss.map (stmKT signs moods)).flatten ++ [(.fin, [])]) → Fits tiles signs moods st ss → ss.length ≤ f →
    ∃ n, parseStmts T tiles f st = .ok ((), { ss.foldl (applyS signs moods) st with at_ := n })
  | [], f, st, _, _, h, _, _ => by
    obtain ⟨p1, _, _⟩ := Rest.cons (k := .fin) (w := []) h
    cases f with
    | zero => exact ⟨st.at_, rfl⟩
    | succ f => exact ⟨st.at_, by simp only [parseStmts]; rw [if_pos p1]; rfl⟩
  | s :: r, f, st, e1, e2, h, hf, hl => by
    obtain ⟨f', rfl⟩ : ∃ f', f = f' + 1 := ⟨f - 1, by simp at hl; omega⟩
    have h' : Rest T st (stmKT signs moods s ++ ((r.map (stmKT signs moods)).flatten ++ [(.fin, [])])) := by
      rw [← List.append_assoc]
      exact h
    obtain ⟨n, p1, p2, p3⟩ := stm_ok s e1 e2 hN hM h16 h' hf.1
    obtain ⟨m, q⟩ := stmts_ok hN hM h16 (ss := r) (f := f') (st := { applyS signs moods st s with at_ := n }) ((apply_si s).1.trans e1) ((apply_si s).2.trans e2) p3 (Fits.at_ hf.2) (by simpa using hl)
    refine ⟨m, ?_⟩
    simp only [parseStmts]
    rw [if_neg p2, p1]
    show parseStmts T tiles f' { applyS signs moods st s with at_ := n } = _
    rw [q, fold_at]
    rfl
/-- the lines' words of a plan told by statements -/
def headW (tiles : Nat) (signs moods : List Cs) : List (List Cs) := [[wCorridor, dec tiles], wSigns :: signs, wMoods :: moods]
theorem flat_len {l : List (List KT)} (h : ∀ x ∈ l, x ≠ []) : l.length ≤ l.flatten.length := by
  induction l with
  | nil => simp
  | cons a l ih =>
    have h1 := List.length_pos_iff.mpr (h a List.mem_cons_self)
    have h2 := ih fun x hx => h x (List.mem_cons_of_mem _ hx)
    rw [List.flatten_cons, List.length_append, List.length_cons]
    omega
def stN0 (signs moods : List Cs) : PSt := ⟨0, [], signs, moods, [], [], [], []⟩
theorem parse_ok {t0 : Nat} {r0 : Bool} {ss : List Stm} (hN : NamesOk signs) (hM : NamesOk moods) (hs1 : signs ≠ []) (hm1 : moods ≠ []) (hs4 : signs.length ≤ 4) (hm6 : moods.length ≤ 6) (h1 : 1 ≤ tiles) (h16 : tiles ≤ 16)
    (hT : T.map kt = (((headW tiles signs moods ++ (Stm.robot t0 r0 :: ss).map (stmW signs moods)).map fun ws => ws.map ktOf ++ [(Kd.sign, wSemi)]).flatten) ++ [(.fin, [])])
    (hf : Fits tiles signs moods (stN0 signs moods) (.robot t0 r0 :: ss)) :
    ∃ n, parsePlan T = .ok (tiles, { (Stm.robot t0 r0 :: ss).foldl (applyS signs moods) (stN0 signs moods) with at_ := n }) := by
  have nmS : signs.map ktOf = signs.map (fun w => (Kd.name, w)) := List.map_congr_left fun w hw => by unfold ktOf; rw [kd_name (hN.ok w hw)]
  have nmM : moods.map ktOf = moods.map (fun w => (Kd.name, w)) := List.map_congr_left fun w hw => by unfold ktOf; rw [kd_name (hM.ok w hw)]
  obtain ⟨_, dk, dv⟩ := dec_nm (n := tiles) (by omega)
  have hflat : T.map kt = (kdOf wCorridor, wCorridor) :: (.number, dec tiles) :: (.sign, wSemi) :: (kdOf wSigns, wSigns) :: (signs.map (fun w => (Kd.name, w)) ++ (.sign, wSemi) :: ((kdOf wMoods, wMoods) :: (moods.map (fun w => (Kd.name, w)) ++ (.sign, wSemi) ::
      (stmKT signs moods (.robot t0 r0) ++ ((ss.map (stmKT signs moods)).flatten ++ [(.fin, [])]))))) := by
    rw [hT]
    have e0 : ktOf (dec tiles) = (.number, dec tiles) := by unfold ktOf; rw [dk]
    simp only [headW, List.map_append, List.map_cons, List.map_nil, List.flatten_append, List.flatten_cons, List.flatten_nil, List.append_nil, e0, nmS, nmM, List.map_map]
    have es : (ss.map ((fun ws => ws.map ktOf ++ [(Kd.sign, wSemi)]) ∘ stmW signs moods)) = ss.map (stmKT signs moods) := rfl
    rw [es]
    simp [stmKT, ktOf]
  have hlen : T.length = (T.map kt).length := by simp
  have r0' : Rest T st0 (T.map kt) := rfl
  rw [hflat] at r0'
  obtain ⟨t1, e1, _, r1⟩ := word_ok r0'
  obtain ⟨t2, e2, x2, r2⟩ := take_ok' r1
  obtain ⟨t3, e3, _, r3⟩ := word_ok r2
  have lenS : signs.length ≤ T.length := by
    rw [hlen, hflat]
    simp
    omega
  have lenM : moods.length ≤ T.length := by
    rw [hlen, hflat]
    simp
    omega
  have lenF : ss.length ≤ T.length := by
    have := flat_len (l := ss.map (stmKT signs moods)) (by
      intro x hx
      obtain ⟨s, _, rfl⟩ := List.mem_map.mp hx
      simp [stmKT])
    rw [List.length_map] at this
    rw [hlen, hflat]
    simp at this ⊢
    omega
  obtain ⟨s4, e4, x4, r4⟩ := names_ok (b := false) (ws := signs) (k1 := .sign) r3 (by decide) hs1 lenS hN.nd rfl hs4
  have hm0 : s4.names true = [] := by rw [x4]; rfl
  obtain ⟨s5, e5, x5, r5⟩ := names_ok (b := true) (ws := moods) (k1 := .sign) r4 (by decide) hm1 lenM hM.nd hm0 hm6
  have es5 : ∃ n, s5 = { stN0 signs moods with at_ := n } := by
    refine ⟨s5.at_, ?_⟩
    rw [x5, x4]
    simp [pushAll, stN0, PSt.next, st0]
  obtain ⟨n5, es5⟩ := es5
  subst es5
  have hf2 := Fits.at_ (n := n5) hf
  obtain ⟨s6, e6, x6, r6⟩ := robot_ok (tiles := tiles) (signs := signs) (moods := moods) r5 hf2.1.1 h16 hf2.1.2
  obtain ⟨m, e7⟩ := stmts_ok hN hM h16 (ss := ss) (f := T.length) (st := s6) (by rw [x6]; rfl) (by rw [x6]; rfl) r6 (by rw [x6]; exact Fits.at_ hf2.2) lenF
  refine ⟨m, ?_⟩
  unfold parsePlan
  simp only [e1, e2, e3, x2, dv]
  rw [if_pos ⟨h1, h16⟩]
  simp only [e4, e5, e6, e7]
  rw [x6, fold_at, apply_at, fold_at]
  rfl
end
end Sw

end

section
set_option maxRecDepth 100000
set_option maxHeartbeats 4000000
/-! the text of a plan, read again -/
namespace Sw
open PySem
structure RuleOk (g m : Nat) (kv : (Nat × Nat) × Rule) : Prop where
  k1 : kv.1.1 < m
  k2 : kv.1.2 < g
  l : kv.2.left < g
  la : kv.2.later < m
  mv : kv.2.move ∈ moves
/-- a plan that a text can tell -/
structure WfP (pl : Plan) : Prop where
  sN : NamesOk pl.signs
  mN : NamesOk pl.moods
  s1 : pl.signs ≠ []
  s4 : pl.signs.length ≤ 4
  m1 : pl.moods ≠ []
  m6 : pl.moods.length ≤ 6
  n1 : 1 ≤ pl.floor.length
  n16 : pl.floor.length ≤ 16
  fl : ∀ x ∈ pl.floor, x < pl.signs.length
  r1 : pl.robots ≠ []
  r3 : pl.robots.length ≤ 3
  rt : ∀ r ∈ pl.robots, r.1 < pl.floor.length
  rn : (pl.rules.map (·.1)).Nodup
  ru : ∀ kv ∈ pl.rules, RuleOk pl.signs.length pl.moods.length kv
def putsL (floor : List Nat) : List (Nat × Nat) := (List.range floor.length).filterMap fun t => if 0 < floor.getD t 0 then some (t, floor.getD t 0) else none
def robS (r : Nat × Bool) : Stm := .robot r.1 r.2
def putS (q : Nat × Nat) : Stm := .put q.2 q.1
def rulS (kv : (Nat × Nat) × Rule) : Stm := .rule kv.1 kv.2
def stmsOf (pl : Plan) : List Stm := pl.robots.map robS ++ ((putsL pl.floor).map putS ++ pl.rules.map rulS)
def linesW (pl : Plan) : List (List Cs) := headW pl.floor.length pl.signs pl.moods ++ (stmsOf pl).map (stmW pl.signs pl.moods)
def textOf (pl : Plan) : Cs := TL.joinL [10] ((linesW pl).map lineOf)
section
variable {tiles : Nat} {signs moods : List Cs}
theorem fits_app : ∀ {a b : List Stm} {st : PSt}, Fits tiles signs moods st a → Fits tiles signs moods (a.foldl (applyS signs moods) st) b → Fits tiles signs moods st (a ++ b)
  | [], _, _, _, h => h
  | s :: a, b, st, h, h2 => ⟨h.1, fits_app h.2 h2⟩
theorem fold_rob : ∀ {rs : List (Nat × Bool)} {st : PSt}, (rs.map robS).foldl (applyS signs moods) st = { st with robots := st.robots ++ rs }
  | [], st => by simp
  | r :: rs, st => by
    rw [List.map_cons, List.foldl_cons, fold_rob]
    simp [robS, applyS]
theorem fits_rob : ∀ {rs : List (Nat × Bool)} {st : PSt}, (∀ r ∈ rs, r.1 < tiles) → st.robots.length + rs.length ≤ 3 → Fits tiles signs moods st (rs.map robS)
  | [], _, _, _ => trivial
  | r :: rs, st, h, hl => by
    refine ⟨⟨h r List.mem_cons_self, by simp at hl; omega⟩, fits_rob (fun x hx => h x (List.mem_cons_of_mem _ hx)) ?_⟩
    simp [robS, applyS] at hl ⊢
    omega
theorem fold_put : ∀ {ps : List (Nat × Nat)} {st : PSt}, (ps.map putS).foldl (applyS signs moods) st = { st with spots := st.spots ++ ps }
  | [], st => by simp
  | r :: rs, st => by
    rw [List.map_cons, List.foldl_cons, fold_put]
    simp [putS, applyS]
theorem fits_put : ∀ {ps : List (Nat × Nat)} {st : PSt}, (∀ q ∈ ps, q.1 < tiles ∧ q.2 < signs.length) → (ps.map (·.1)).Nodup → (∀ q ∈ ps, ∀ x ∈ st.spots, x.1 ≠ q.1) → Fits tiles signs moods st (ps.map putS)
  | [], _, _, _, _ => trivial
  | q :: ps, st, h, hn, hd => by
    rw [List.map_cons, List.nodup_cons] at hn
    refine ⟨⟨(h q List.mem_cons_self).1, (h q List.mem_cons_self).2, hd q List.mem_cons_self⟩, fits_put (fun x hx => h x (List.mem_cons_of_mem _ hx)) hn.2 ?_⟩
    intro x hx y hy
    rcases List.mem_append.mp hy with z | z
    · exact hd x (List.mem_cons_of_mem _ hx) y z
    · rw [List.mem_singleton.mp z]
      intro e
      exact hn.1 (List.mem_map.mpr ⟨x, hx, e.symm⟩)
theorem fold_rul : ∀ {rs : List ((Nat × Nat) × Rule)} {st : PSt}, (rs.map rulS).foldl (applyS signs moods) st = { st with pairs := st.pairs ++ rs.map (fun kv => (moods.getD kv.1.1 [], signs.getD kv.1.2 [])), rules := st.rules ++ rs }
  | [], st => by simp
  | r :: rs, st => by
    rw [List.map_cons, List.foldl_cons, fold_rul]
    simp [rulS, applyS]
theorem name_inj {ws : List Cs} (hn : ws.Nodup) {a b : Nat} (ha : a < ws.length) (hb : b < ws.length) (e : ws.getD a [] = ws.getD b []) : a = b := by
  rw [List.getD_eq_getElem?_getD, List.getD_eq_getElem?_getD, List.getElem?_eq_getElem ha, List.getElem?_eq_getElem hb] at e
  exact (List.getElem_inj hn).mp e
theorem fits_rul (hN : NamesOk signs) (hM : NamesOk moods) : ∀ {rs done : List ((Nat × Nat) × Rule)} {st : PSt}, (∀ kv ∈ rs, RuleOk signs.length moods.length kv) → (∀ kv ∈ done, RuleOk signs.length moods.length kv) → ((done ++ rs).map (·.1)).Nodup →
    st.rules = done → st.pairs = done.map (fun kv => (moods.getD kv.1.1 [], signs.getD kv.1.2 [])) → Fits tiles signs moods st (rs.map rulS)
  | [], _, _, _, _, _, _, _ => trivial
  | kv :: rs, done, st, h, hd, hn, e1, e2 => by
    have o := h kv List.mem_cons_self
    have nk : ∀ q ∈ done, q.1 ≠ kv.1 := fun q hq z => by
      rw [List.map_append, List.nodup_append] at hn
      exact hn.2.2 q.1 (List.mem_map.mpr ⟨q, hq, rfl⟩) kv.1 (by simp) z
    refine ⟨⟨o.k1, o.k2, o.l, o.la, o.mv, ?_, ?_⟩, fits_rul hN hM (done := done ++ [kv]) (fun x hx => h x (List.mem_cons_of_mem _ hx)) ?_ ?_ ?_ ?_⟩
    · rw [e2]
      intro z
      obtain ⟨q, hq, e⟩ := List.mem_map.mp z
      obtain ⟨ea, eb⟩ := Prod.mk.inj e
      exact nk q hq (Prod.ext (name_inj hM.nd (hd q hq).k1 o.k1 ea) (name_inj hN.nd (hd q hq).k2 o.k2 eb))
    · rw [e1]
      exact nk
    · intro x hx
      rcases List.mem_append.mp hx with z | z
      · exact hd x z
      · rw [List.mem_singleton.mp z]
        exact o
    · rw [List.append_assoc]
      exact hn
    · show st.rules ++ [(kv.1, kv.2)] = _
      rw [e1]
    · show st.pairs ++ [_] = _
      rw [e2, List.map_append]
      rfl
end
theorem puts_mem {floor : List Nat} {q : Nat × Nat} (h : q ∈ putsL floor) : q.1 < floor.length ∧ q.2 = floor.getD q.1 0 ∧ 0 < q.2 := by
  obtain ⟨t, ht, e⟩ := List.mem_filterMap.mp h
  split at e
  · rename_i h0
    cases e
    exact ⟨List.mem_range.mp ht, rfl, h0⟩
  · cases e
theorem puts_nodup (floor : List Nat) : ((putsL floor).map (·.1)).Nodup := by
  have key : ∀ l : List Nat, l.Nodup → ((l.filterMap fun t => if 0 < floor.getD t 0 then some (t, floor.getD t 0) else none).map (·.1)).Nodup ∧ ∀ x ∈ (l.filterMap fun t => if 0 < floor.getD t 0 then some (t, floor.getD t 0) else none).map (·.1), x ∈ l := by
    intro l
    induction l with
    | nil => intro _; exact ⟨List.nodup_nil, fun x hx => by cases hx⟩
    | cons a l ih =>
      intro hn
      rw [List.nodup_cons] at hn
      obtain ⟨i1, i2⟩ := ih hn.2
      rw [List.filterMap_cons]
      by_cases h : 0 < floor.getD a 0
      · rw [if_pos h]
        refine ⟨?_, fun x hx => ?_⟩
        · rw [List.map_cons, List.nodup_cons]
          exact ⟨fun z => hn.1 (i2 _ z), i1⟩
        · rcases List.mem_cons.mp hx with z | z
          · exact z ▸ List.mem_cons_self
          · exact List.mem_cons_of_mem _ (i2 x z)
      · rw [if_neg h]
        exact ⟨i1, fun x hx => List.mem_cons_of_mem _ (i2 x hx)⟩
  exact (key _ List.nodup_range).1
theorem getA_mem {κ α : Type} [DecidableEq κ] {l : List (κ × α)} {k : κ} {v : α} (hn : (l.map (·.1)).Nodup) (h : (k, v) ∈ l) : getA l k = some v := by
  induction l with
  | nil => cases h
  | cons a l ih =>
    unfold getA
    rw [List.find?_cons]
    rw [List.map_cons, List.nodup_cons] at hn
    rcases List.mem_cons.mp h with z | z
    · subst z
      simp
    · have : ¬ a.1 = k := fun e => hn.1 (List.mem_map.mpr ⟨(k, v), z, e.symm⟩)
      rw [decide_eq_false this]
      exact ih hn.2 z
theorem getA_none {κ α : Type} [DecidableEq κ] {l : List (κ × α)} {k : κ} (h : ∀ q ∈ l, q.1 ≠ k) : getA l k = none := by
  unfold getA
  have : l.find? (fun kv => decide (kv.1 = k)) = none := List.find?_eq_none.mpr fun q hq z => h q hq (of_decide_eq_true z)
  rw [this]
  rfl
theorem puts_floor (floor : List Nat) : ((List.range floor.length).map fun i => (getA (putsL floor) i).getD 0) = floor := by
  apply List.ext_getElem?
  intro i
  rw [List.getElem?_map]
  by_cases h : i < floor.length
  · rw [List.getElem?_range h, List.getElem?_eq_getElem h]
    have ef : floor.getD i 0 = floor[i] := by rw [List.getD_eq_getElem?_getD, List.getElem?_eq_getElem h]; rfl
    show some ((getA (putsL floor) i).getD 0) = _
    by_cases h0 : 0 < floor.getD i 0
    · have hm : (i, floor.getD i 0) ∈ putsL floor := List.mem_filterMap.mpr ⟨i, List.mem_range.mpr h, by rw [if_pos h0]⟩
      rw [getA_mem (puts_nodup floor) hm, ef]
      rfl
    · rw [getA_none]
      · show some 0 = some floor[i]
        rw [← ef]
        congr 1
        omega
      · intro q hq z
        obtain ⟨_, h2, h3⟩ := puts_mem hq
        rw [z] at h2
        omega
  · rw [List.getElem?_eq_none (by simpa using h), List.getElem?_eq_none (by simpa using h)]
    rfl
theorem kw_wd : ∀ w ∈ kws, Wd w := by
  have key : ∀ w ∈ kws, (w.all isL && (decide (1 ≤ w.length) && decide (w.length ≤ 8))) = true := by decide +kernel
  intro w hw
  have := key w hw
  simp only [Bool.and_eq_true, decide_eq_true_eq, List.all_eq_true] at this
  exact ⟨this.1, this.2.1, this.2.2⟩
theorem stm_words {pl : Plan} (h : WfP pl) : ∀ s ∈ stmsOf pl, stmW pl.signs pl.moods s ≠ [] ∧ ∀ w ∈ stmW pl.signs pl.moods s, Wd w ∨ Nm w := by
  have kw : ∀ w, w ∈ kws → Wd w ∨ Nm w := fun w hw => .inl (kw_wd w hw)
  have si : ∀ g, g < pl.signs.length → Wd (pl.signs.getD g []) ∨ Nm (pl.signs.getD g []) := fun g hg => .inl (h.sN.ok _ (getD_in hg)).1
  have mo : ∀ g, g < pl.moods.length → Wd (pl.moods.getD g []) ∨ Nm (pl.moods.getD g []) := fun g hg => .inl (h.mN.ok _ (getD_in hg)).1
  have n16 := h.n16
  intro s hs
  rcases List.mem_append.mp hs with z | z
  · obtain ⟨r, hr, rfl⟩ := List.mem_map.mp z
    have := h.rt r hr
    refine ⟨by simp [robS, stmW], fun w hw => ?_⟩
    simp only [robS, stmW, List.mem_cons, List.not_mem_nil, or_false] at hw
    rcases hw with rfl | rfl | rfl
    · exact kw _ (by decide +kernel)
    · exact .inr (dec_nm (by omega)).1
    · refine kw _ ?_
      cases r.2 <;> decide +kernel
  · rcases List.mem_append.mp z with z | z
    · obtain ⟨q, hq, rfl⟩ := List.mem_map.mp z
      obtain ⟨q1, q2, _⟩ := puts_mem hq
      have hg : q.2 < pl.signs.length := by
        rw [q2]
        refine h.fl _ ?_
        rw [List.getD_eq_getElem?_getD, List.getElem?_eq_getElem q1]
        exact List.getElem_mem q1
      refine ⟨by simp [putS, stmW], fun w hw => ?_⟩
      simp only [putS, stmW, List.mem_cons, List.not_mem_nil, or_false] at hw
      rcases hw with rfl | rfl | rfl
      · exact kw _ (by decide +kernel)
      · exact si _ hg
      · exact .inr (dec_nm (by omega)).1
    · obtain ⟨q, hq, rfl⟩ := List.mem_map.mp z
      have o := h.ru q hq
      refine ⟨by simp [rulS, stmW], fun w hw => ?_⟩
      simp only [rulS, stmW, List.mem_cons, List.not_mem_nil, or_false] at hw
      rcases hw with rfl | rfl | rfl | rfl | rfl | rfl | rfl
      · exact kw _ (by decide +kernel)
      · exact mo _ o.k1
      · exact si _ o.k2
      · exact kw _ (by decide +kernel)
      · exact si _ o.l
      · refine kw _ ?_
        have : ∀ w ∈ moves, w ∈ kws := by decide +kernel
        exact this _ o.mv
      · exact mo _ o.la
/-- THE ROUND TRIP -/
theorem loads_text {pl : Plan} (h : WfP pl) : ∃ s, loads (textOf pl) = .ok (pl.floor.length, s) ∧ s.faults = [] ∧ planOf pl.floor.length s = pl := by
  have kw : ∀ w, w ∈ kws → Wd w ∨ Nm w := fun w hw => .inl (kw_wd w hw)
  have n16 := h.n16
  obtain ⟨T, hT, hK⟩ := tokenize_lines (lss := linesW pl) (by simp [linesW, headW]) (by
    intro ws hws
    rcases List.mem_append.mp hws with z | z
    · simp only [headW, List.mem_cons, List.not_mem_nil, or_false] at z
      rcases z with rfl | rfl | rfl
      · refine ⟨by simp, fun w hw => ?_⟩
        simp only [List.mem_cons, List.not_mem_nil, or_false] at hw
        rcases hw with rfl | rfl
        · exact kw _ (by decide +kernel)
        · exact .inr (dec_nm (by omega)).1
      · refine ⟨by simp, fun w hw => ?_⟩
        rcases List.mem_cons.mp hw with rfl | hw
        · exact kw _ (by decide +kernel)
        · exact .inl (h.sN.ok w hw).1
      · refine ⟨by simp, fun w hw => ?_⟩
        rcases List.mem_cons.mp hw with rfl | hw
        · exact kw _ (by decide +kernel)
        · exact .inl (h.mN.ok w hw).1
    · obtain ⟨s, hs, rfl⟩ := List.mem_map.mp z
      exact stm_words h s hs)
  obtain ⟨r0, rs, er⟩ : ∃ r0 rs, pl.robots = r0 :: rs := by
    cases e : pl.robots with
    | nil => exact absurd e h.r1
    | cons a b => exact ⟨a, b, rfl⟩
  have est : stmsOf pl = Stm.robot r0.1 r0.2 :: (rs.map robS ++ ((putsL pl.floor).map putS ++ pl.rules.map rulS)) := by
    unfold stmsOf
    rw [er]
    rfl
  have hfold : (stmsOf pl).foldl (applyS pl.signs pl.moods) (stN0 pl.signs pl.moods) = ⟨0, [], pl.signs, pl.moods, pl.robots, pl.rules, pl.rules.map (fun kv => (pl.moods.getD kv.1.1 [], pl.signs.getD kv.1.2 [])), putsL pl.floor⟩ := by
    unfold stmsOf
    rw [List.foldl_append, List.foldl_append, fold_rob, fold_put, fold_rul]
    simp [stN0]
  have hfit : Fits pl.floor.length pl.signs pl.moods (stN0 pl.signs pl.moods) (stmsOf pl) := by
    refine fits_app (fits_rob h.rt (by simpa [stN0] using h.r3)) (fits_app (fits_put ?_ (puts_nodup _) ?_) (fits_rul (done := []) h.sN h.mN h.ru (by simp) (by simpa using h.rn) ?_ ?_))
    · intro q hq
      obtain ⟨q1, q2, _⟩ := puts_mem hq
      refine ⟨q1, ?_⟩
      rw [q2]
      refine h.fl _ ?_
      rw [List.getD_eq_getElem?_getD, List.getElem?_eq_getElem q1]
      exact List.getElem_mem q1
    · intro q hq x hx
      rw [fold_rob] at hx
      cases hx
    · rw [fold_put, fold_rob]
      rfl
    · rw [fold_put, fold_rob]
      rfl
  rw [est] at hfit
  obtain ⟨n, hp⟩ := parse_ok (T := T) (tiles := pl.floor.length) (signs := pl.signs) (moods := pl.moods) h.sN h.mN h.s1 h.m1 h.s4 h.m6 h.n1 h.n16 (by rw [hK]; unfold linesW; rw [est]) hfit
  rw [← est, hfold] at hp
  refine ⟨_, (by
    unfold loads textOf
    rw [hT]
    exact hp), ?_, ?_⟩
  · rfl
  · unfold planOf
    simp only
    rw [puts_floor]
end Sw

end

section
set_option maxRecDepth 100000
set_option maxHeartbeats 4000000
/-! the law's own: a plan -/
namespace Sw
open PySem PySem.Spec PyProof.Rows L2 SwA
/-- the law's tuple of a plan -/
def PlanV (H : Hp) (a : Addr) (pl : Plan) : Prop := ∃ (sa ma fa ra rd : Addr) (ras : List Addr), H a = some (.tup [.ref sa, .ref ma, .ref fa, .ref ra, .ref rd]) ∧ TupN H sa (pl.signs.map sV) ∧ TupN H ma (pl.moods.map sV) ∧
  H fa = some (.tup (pl.floor.map fun n : Nat => V.int n)) ∧ H ra = some (.tup (ras.map V.ref)) ∧ Paired (RobAt H) ras pl.robots ∧ RulesAt H rd pl.rules
structure PlaT (K : PySem.W.Frag) (mg : Str → Option Value) : Prop where
  s : ShuT K mg
  plan : DeT K mg "_law_plan" s__law_plan
theorem perm_ex {ys zs : List V} (h : ys.Perm zs) : ∀ {base : List Cs}, zs = base.map sV → ∃ bs : List Cs, bs.Perm base ∧ ys = bs.map sV := by
  induction h with
  | nil =>
    intro base e
    cases base with
    | nil => exact ⟨[], .refl _, rfl⟩
    | cons _ _ => cases e
  | @cons x l1 l2 _ ih =>
    intro base e
    cases base with
    | nil => cases e
    | cons b base =>
      injection e with e1 e2
      obtain ⟨bs, p, q⟩ := ih e2
      exact ⟨b :: bs, p.cons b, by rw [e1, q]; rfl⟩
  | @swap x y l =>
    intro base e
    cases base with
    | nil => cases e
    | cons b base =>
      cases base with
      | nil => cases e
      | cons c base =>
        injection e with e1 e2
        injection e2 with e3 e4
        exact ⟨c :: b :: base, .swap b c base, by rw [e1, e3, e4]; rfl⟩
  | @trans l1 l2 l3 _ _ ih1 ih2 =>
    intro base e
    obtain ⟨b2, p2, q2⟩ := ih2 e
    obtain ⟨b1, p1, q1⟩ := ih1 q2
    exact ⟨b1, p1.trans p2, q1⟩
def sBase : List Cs := [txt "no", txt "red", txt "blue", txt "longname", txt "x"]
def mBase : List Cs := [txt "go", txt "calm", txt "red", txt "b", txt "cc", txt "mmmmmmmm", txt "z"]
theorem base_ok {base : List Cs} (h : (base.all fun w => w.all isL && (decide (1 ≤ w.length) && (decide (w.length ≤ 8) && !decide (w ∈ kws)))) = true) (hn : base.Nodup) {bs : List Cs} (hp : bs.Perm base) (n : Nat) : NamesOk (bs.take n) := by
  refine ⟨((hp.nodup_iff).mpr hn).sublist (List.take_sublist n bs), fun w hw => ?_⟩
  have hm : w ∈ base := hp.mem_iff.mp (List.mem_of_mem_take hw)
  have := List.all_eq_true.mp h w hm
  simp only [Bool.and_eq_true, decide_eq_true_eq, List.all_eq_true, Bool.not_eq_true', decide_eq_false_iff_not] at this
  exact ⟨⟨this.1, this.2.1, this.2.2.1⟩, this.2.2.2⟩
theorem cut_take {xs : List V} {n : Nat} (h : n ≤ xs.length) : cutV xs none (some (n : Int)) = xs.take n := by
  show (xs.drop (HT.sIx xs.length 0 none)).take (HT.sIx xs.length xs.length (some (n : Int)) - HT.sIx xs.length 0 none) = xs.take n
  rw [HT.sIx_none, HT.sIx_nat, Nat.min_eq_left h]
  rfl
theorem cutS {Hb H : Hp} {l : List Addr} {x : Addr} {o : HO} (s : Same (cutH Hb l) H) (h : x ∈ l) : Same (cutH Hb l) (upd H x o) := sameUpd s (cutH_in h)
theorem cutN {Hb H : Hp} {l : List Addr} {x : Addr} {o : HO} (s : Same (cutH Hb l) H) (h : H x = none) : Same (cutH Hb l) (upd H x o) := sameUpd s (s.free h)
section
variable {P : Program} {w : World} {K : PySem.W.Frag} {mg : Str → Option Value} {base : Heap}
/-- the keys in order -/
def SortedR (rules : List ((Nat × Nat) × Rule)) : Prop := (rules.map (·.1)).Pairwise fun a b => a.1 < b.1 ∨ (a.1 = b.1 ∧ a.2 < b.2)
def spLPlan : Sp := fun vs H Q _ => ∃ (d : Addr) (most : Nat), vs = [.ref d, .int most] ∧ DrawAt H d ∧ 1 ≤ most ∧ most ≤ 16 ∧
  ∀ (a : Addr) (H' : Hp) (pl : Plan), Drawn d H H' → WfP pl → pl.floor.length ≤ most → (pl.moods.length ≤ 3 ∧ (∀ x ∈ pl.signs, x ∈ sBase) ∧ ∀ x ∈ pl.moods, x ∈ mBase) → SortedR pl.rules → H a = none → PlanV H' a pl → Q (.ref a) H'
abbrev plN : List Str := ["_law_d", "_law_most", "_law_signs", "_law_moods", "_law_tiles", "_law_floor", "_law_robots", "_law_rules", "_law_k", "_law_mood", "_law_sign", "_law_move"]
theorem sc_lplan : FnScope plN ["_law_d", "_law_most"] (defScope s__law_plan) := ⟨rfl, rfl, rfl, by decide +kernel, rfl, by decide +kernel, by decide +kernel⟩
theorem ok_lplan (T : PlaT K mg) : FnE P w K mg base CX0 3 ("_law_plan", none) ["_law_d", "_law_most"] spLPlan := by
  obtain ⟨fd, F⟩ := T.plan.d
  obtain ⟨fdB, GB, bB, kB⟩ := ok_below (P := P) (w := w) (base := base) T.s.l
  obtain ⟨fdS, GS, bS, kS⟩ := ok_shuffled (P := P) (w := w) (base := base) T.s
  refine ⟨fd, F.ok sc_lplan (fun vs H Q E h => ?_) (fun cdv A outer s H vs Q E hr h => ?_), F.bindsN fun _ _ _ _ _ _ us hl => match us, hl with | [_, _], _ => rfl, F.kp⟩
  · obtain ⟨d, most, rfl, _⟩ := h
    rfl
  · obtain ⟨d, most, rfl, hd, hm1, hm16, k⟩ := h
    have hr1 : Room 1 _ := hr.mono (by decide)
    have hr2 : Room 2 _ := hr.mono (by decide)
    have hu := hu_of hr
    refine ⟨_, PSs.nox (pss_cons (ps_set (i := 2) sc_lplan.nd rfl (.inl rfl) (pe_tupleOfN (by rfl) T.s.l.tuple (pe_slice sl_list (pe_call GS hr2 rfl T.s.shuffled.g kS bS .nil pass0 (pa_cons (pv 0) (pa_cons (pe_lst (pa_cons pe_str (pa_cons pe_str (pa_cons pe_str (pa_cons pe_str (pa_cons pe_str pa_nil)))))) pa_nil))) po_none (po_some (pe_op op_add pe_int (pe_call GB hr1 rfl T.s.l.below.g kB bB .nil pass0 (pa_cons (pv 0) (pa_cons pe_int pa_nil))))))))
      (pss_cons (ps_set (i := 3) sc_lplan.nd rfl (.inl rfl) (pe_tupleOfN (by rfl) T.s.l.tuple (pe_slice sl_list (pe_call GS hr2 rfl T.s.shuffled.g kS bS .nil pass0 (pa_cons (pv 0) (pa_cons (pe_lst (pa_cons pe_str (pa_cons pe_str (pa_cons pe_str (pa_cons pe_str (pa_cons pe_str (pa_cons pe_str (pa_cons pe_str pa_nil)))))))) pa_nil))) po_none (po_some (pe_op op_add pe_int (pe_call GB hr1 rfl T.s.l.below.g kB bB .nil pass0 (pa_cons (pv 0) (pa_cons pe_int pa_nil))))))))
      (pss_cons (ps_asg (pe_tup (pa_cons (pe_op op_add pe_int (pe_call GB hr1 rfl T.s.l.below.g kB bB .nil pass0 (pa_cons (pv 0) (pa_cons (pv 1) pa_nil)))) (pa_cons (pe_lst pa_nil) (pa_cons (pe_lst pa_nil) (pa_cons pe_dnewT pa_nil)))))
        (pg_tup rfl (pgs_cons (pg_name (i := 4) sc_lplan.nd rfl (.inl rfl)) (pgs_cons (pg_name (i := 5) sc_lplan.nd rfl (.inl rfl)) (pgs_cons (pg_name (i := 6) sc_lplan.nd rfl (.inl rfl)) (pgs_cons (pg_name (i := 7) sc_lplan.nd rfl (.inl rfl)) pgs_nil))))))
      (pss_cons (ps_for PassesOwn.never rfl (pi_range1 (by rfl) T.s.l.range (pa_cons (pv 4) pa_nil)) (pg_name (i := 8) sc_lplan.nd rfl (.inl rfl))
        (pss_one (ps_expr (pe_bm PySem.F.plainAttrs_list PySem.F.slot_list_append PySem.F.type_list_append mt_append (pv 5) (pa_cons (pe_ifExp (pt_cmpR op_eq (pe_call GB hr1 rfl T.s.l.below.g kB bB .nil pass0 (pa_cons (pv 0) (pa_cons pe_int pa_nil))) pe_int (nomark _))
          (pe_call GB hr1 rfl T.s.l.below.g kB bB .nil pass0 (pa_cons (pv 0) (pa_cons (pe_callB call_len_seq (by rfl) T.s.l.len boot_len (pa_cons (pv 2) pa_nil)) pa_nil))) pe_int) pa_nil)))))
      (pss_cons (ps_for PassesOwn.never rfl (pi_range1 (by rfl) T.s.l.range (pa_cons (pe_ix ix_list (pe_lst (pa_cons pe_int (pa_cons pe_int (pa_cons pe_int (pa_cons pe_int pa_nil))))) (pe_call GB hr1 rfl T.s.l.below.g kB bB .nil pass0 (pa_cons (pv 0) (pa_cons pe_int pa_nil))) (fun _ _ => rfl)) pa_nil)) (pg_name (i := 8) sc_lplan.nd rfl (.inl rfl))
        (pss_one (ps_expr (pe_bm PySem.F.plainAttrs_list PySem.F.slot_list_append PySem.F.type_list_append mt_append (pv 6) (pa_cons (pe_tup (pa_cons (pe_call GB hr1 rfl T.s.l.below.g kB bB .nil pass0 (pa_cons (pv 0) (pa_cons (pv 4) pa_nil)))
          (pa_cons (pe_cmpR op_eq (pe_call GB hr1 rfl T.s.l.below.g kB bB .nil pass0 (pa_cons (pv 0) (pa_cons pe_int pa_nil))) pe_int (nomark _)) pa_nil))) pa_nil)))))
      (pss_cons (ps_for PassesOwn.never rfl (pi_range1 (by rfl) T.s.l.range (pa_cons (pe_callB call_len_seq (by rfl) T.s.l.len boot_len (pa_cons (pv 3) pa_nil)) pa_nil)) (pg_name (i := 9) sc_lplan.nd rfl (.inl rfl))
        (pss_one (ps_for PassesOwn.never rfl (pi_range1 (by rfl) T.s.l.range (pa_cons (pe_callB call_len_seq (by rfl) T.s.l.len boot_len (pa_cons (pv 2) pa_nil)) pa_nil)) (pg_name (i := 10) sc_lplan.nd rfl (.inl rfl))
          (pss_one (ps_if (pt_cmpR op_gt (pe_call GB hr1 rfl T.s.l.below.g kB bB .nil pass0 (pa_cons (pv 0) (pa_cons pe_int pa_nil))) pe_int (nomark _))
            (pss_cons (ps_set (i := 11) sc_lplan.nd rfl (.inl rfl) (pe_ix ix_list (pe_lst (pa_cons pe_str (pa_cons pe_str (pa_cons pe_str (pa_cons pe_str (pa_cons pe_str pa_nil)))))) (pe_call GB hr1 rfl T.s.l.below.g kB bB .nil pass0 (pa_cons (pv 0) (pa_cons pe_int pa_nil))) (fun _ _ => rfl)))
            (pss_one (ps_dput hu (pv 7) (pe_tup (pa_cons (pv 9) (pa_cons (pv 10) pa_nil))) (pe_tup (pa_cons (pe_call GB hr1 rfl T.s.l.below.g kB bB .nil pass0 (pa_cons (pv 0) (pa_cons (pe_callB call_len_seq (by rfl) T.s.l.len boot_len (pa_cons (pv 2) pa_nil)) pa_nil)))
              (pa_cons (pv 11) (pa_cons (pe_call GB hr1 rfl T.s.l.below.g kB bB .nil pass0 (pa_cons (pv 0) (pa_cons (pe_callB call_len_seq (by rfl) T.s.l.len boot_len (pa_cons (pv 3) pa_nil)) pa_nil))) pa_nil)))) rfl))) pss_nil)))))
      (pss_one (ps_ret (pe_tup (pa_cons (pv 2) (pa_cons (pv 3) (pa_cons (pe_callTy call_tuple_of (by rfl) T.s.l.tuple (by decide +kernel) (pa_cons (pv 5) pa_nil)) (pa_cons (pe_callTy call_tuple_of (by rfl) T.s.l.tuple (by decide +kernel) (pa_cons (pv 6) pa_nil)) (pa_cons (pv 7) pa_nil)))))))))))))), ?_⟩
    -- the signs
    refine ⟨_, rfl, (by show 5 ≤ sizeLine; decide), fun l0 nl0 => ?_⟩
    have d0 := (Drawn.refl hd).new (o := .lst [.str "no", .str "red", .str "blue", .str "longname", .str "x"]) nl0
    have hl0 := @upd_same H l0 (.lst [.str "no", .str "red", .str "blue", .str "longname", .str "x"])
    generalize upd H l0 (.lst [.str "no", .str "red", .str "blue", .str "longname", .str "x"]) = H1 at *
    refine ⟨d, l0, _, rfl, d0.at_, SqL.of hl0, by decide, fun r1 H2 ys1 hp1 dr1 nr1 hr1' => ?_⟩
    obtain ⟨bs1, pb1, rfl⟩ := perm_ex hp1 (base := sBase) (by kernel_rfl)
    have d2 := d0.trans dr1
    refine ⟨_, rfl, d, 4, rfl, d2.at_, by decide, by decide, fun r s c bs hrl hb => ?_⟩
    have hd1 : ∃ o, H d = some o := let ⟨_, _, _, _, e⟩ := hd; ⟨_, e⟩
    have ne_d : ∀ {Hx : Hp} {x : Addr}, DrawAt Hx d → Hx x = none → x ≠ d := fun ⟨_, _, _, _, q⟩ hx z => by rw [z, q] at hx; cases hx
    have d3 := d2.draw (s := s) (c := c) hb
    have r1d : r1 ≠ d := fun z => by
      obtain ⟨_, _, _, _, q⟩ := d0.at_
      rw [z, q] at nr1
      cases nr1
    have hr3 : (upd H2 d (drawL s c bs)) r1 = some (.lst (bs1.map sV)) := (upd_ne r1d).trans hr1'
    generalize upd H2 d (drawL s c bs) = H3 at *
    have l1 : bs1.length = 5 := pb1.length_eq
    have ec : cutV (bs1.map sV) none (some ((1 : Int) + (r : Int))) = (bs1.take (1 + r)).map sV := by
      have e : ((1 : Int) + (r : Int)) = ((1 + r : Nat) : Int) := by omega
      rw [e, cut_take (by rw [List.length_map]; omega), List.map_take]
    refine ⟨_, _, rfl, rfl, _, rfl, r1, _, rfl, SqL.of hr3, fun p1 np1 => ?_⟩
    rw [ec]
    have sN : NamesOk (bs1.take (1 + r)) := base_ok (by decide +kernel) (by decide +kernel) pb1 _
    have sl : (bs1.take (1 + r)).length = 1 + r := by rw [List.length_take]; omega
    have sIn : ∀ x ∈ bs1.take (1 + r), x ∈ sBase := fun x hx => pb1.mem_iff.mp (List.mem_of_mem_take hx)
    generalize bs1.take (1 + r) = signs at *
    have d4 := d3.new (o := .lst (signs.map sV)) np1
    have hp1' := @upd_same H3 p1 (.lst (signs.map sV))
    generalize upd H3 p1 (.lst (signs.map sV)) = H4 at *
    refine ⟨p1, _, rfl, SqL.of hp1', fun sa osa nsa oc od => ?_⟩
    have d5 := d4.new (o := .frz osa (.tup (signs.map sV))) nsa
    have hsa : TupN (upd H4 sa (.frz osa (.tup (signs.map sV)))) sa (signs.map sV) := ⟨osa, oc, od, upd_same⟩
    have sad : sa ≠ d := ne_d d4.at_ nsa
    generalize upd H4 sa (.frz osa (.tup (signs.map sV))) = H5 at *
    -- the moods
    refine ⟨_, rfl, (by show 7 ≤ sizeLine; decide), fun l2 nl2 => ?_⟩
    have d6 := d5.new (o := .lst [.str "go", .str "calm", .str "red", .str "b", .str "cc", .str "mmmmmmmm", .str "z"]) nl2
    have hl2 := @upd_same H5 l2 (.lst [.str "go", .str "calm", .str "red", .str "b", .str "cc", .str "mmmmmmmm", .str "z"])
    replace hsa := hsa.mono fun o z => sameUpd (o := .lst [.str "go", .str "calm", .str "red", .str "b", .str "cc", .str "mmmmmmmm", .str "z"]) (Same.refl H5) nl2 _ _ z
    generalize upd H5 l2 (.lst [.str "go", .str "calm", .str "red", .str "b", .str "cc", .str "mmmmmmmm", .str "z"]) = H6 at *
    refine ⟨d, l2, _, rfl, d6.at_, SqL.of hl2, by decide, fun r2 H7 ys2 hp2 dr2 nr2 hr2' => ?_⟩
    obtain ⟨bs2, pb2, rfl⟩ := perm_ex hp2 (base := mBase) (by kernel_rfl)
    have d7 := d6.trans dr2
    replace hsa := hsa.mono fun o z => dr2.same _ _ sad z
    have r2d : r2 ≠ d := ne_d d6.at_ nr2
    refine ⟨_, rfl, d, 3, rfl, d7.at_, by decide, by decide, fun q s2 c2 b2 hql hb2 => ?_⟩
    have d8 := d7.draw (s := s2) (c := c2) hb2
    replace hsa : TupN (upd H7 d (drawL s2 c2 b2)) sa (signs.map sV) := hsa.mono fun o z => (upd_ne sad).trans z
    have hr8 : (upd H7 d (drawL s2 c2 b2)) r2 = some (.lst (bs2.map sV)) := (upd_ne r2d).trans hr2'
    generalize upd H7 d (drawL s2 c2 b2) = H8 at *
    have l2' : bs2.length = 7 := pb2.length_eq
    have ec2 : cutV (bs2.map sV) none (some ((1 : Int) + (q : Int))) = (bs2.take (1 + q)).map sV := by
      have e : ((1 : Int) + (q : Int)) = ((1 + q : Nat) : Int) := by omega
      rw [e, cut_take (by rw [List.length_map]; omega), List.map_take]
    refine ⟨_, _, rfl, rfl, _, rfl, r2, _, rfl, SqL.of hr8, fun p2 np2 => ?_⟩
    rw [ec2]
    have mN : NamesOk (bs2.take (1 + q)) := base_ok (by decide +kernel) (by decide +kernel) pb2 _
    have ml : (bs2.take (1 + q)).length = 1 + q := by rw [List.length_take]; omega
    have mIn : ∀ x ∈ bs2.take (1 + q), x ∈ mBase := fun x hx => pb2.mem_iff.mp (List.mem_of_mem_take hx)
    generalize bs2.take (1 + q) = moods at *
    have d9 := d8.new (o := .lst (moods.map sV)) np2
    have hp2' := @upd_same H8 p2 (.lst (moods.map sV))
    replace hsa := hsa.mono fun o z => sameUpd (o := .lst (moods.map sV)) (Same.refl H8) np2 _ _ z
    generalize upd H8 p2 (.lst (moods.map sV)) = H9 at *
    refine ⟨p2, _, rfl, SqL.of hp2', fun ma oma nma mc md => ?_⟩
    have d10 := d9.new (o := .frz oma (.tup (moods.map sV))) nma
    have hma : TupN (upd H9 ma (.frz oma (.tup (moods.map sV)))) ma (moods.map sV) := ⟨oma, mc, md, upd_same⟩
    replace hsa := hsa.mono fun o z => sameUpd (o := .frz oma (.tup (moods.map sV))) (Same.refl H9) nma _ _ z
    have mad : ma ≠ d := ne_d d9.at_ nma
    generalize upd H9 ma (.frz oma (.tup (moods.map sV))) = H10 at *
    -- tiles, floor, robots, rules
    refine ⟨_, rfl, _, rfl, d, most, rfl, d10.at_, hm1, by omega, fun t0 s3 c3 b3 ht0 hb3 => ?_⟩
    have d11 := d10.draw (s := s3) (c := c3) hb3
    replace hsa : TupN (upd H10 d (drawL s3 c3 b3)) sa (signs.map sV) := hsa.mono fun o z => (upd_ne sad).trans z
    replace hma : TupN (upd H10 d (drawL s3 c3 b3)) ma (moods.map sV) := hma.mono fun o z => (upd_ne mad).trans z
    generalize upd H10 d (drawL s3 c3 b3) = H11 at *
    refine ⟨_, _, rfl, rfl, (by show 0 ≤ sizeLine; decide), fun fl nfl => ?_⟩
    have d12 := d11.new (o := .lst []) nfl
    have hfl := @upd_same H11 fl (.lst [])
    replace hsa := hsa.mono fun o z => sameUpd (o := .lst []) (Same.refl H11) nfl _ _ z
    replace hma := hma.mono fun o z => sameUpd (o := .lst []) (Same.refl H11) nfl _ _ z
    have fld : fl ≠ d := ne_d d11.at_ nfl
    have fl0 : H fl = none := d11.free hd1 nfl
    generalize upd H11 fl (.lst []) = H12 at *
    refine ⟨(by show 0 ≤ sizeLine; decide), fun rl nrl => ?_⟩
    have d13 := d12.new (o := .lst []) nrl
    have hrl' := @upd_same H12 rl (.lst [])
    have flrl : fl ≠ rl := ne_of_none hfl nrl
    replace hsa := hsa.mono fun o z => sameUpd (o := .lst []) (Same.refl H12) nrl _ _ z
    replace hma := hma.mono fun o z => sameUpd (o := .lst []) (Same.refl H12) nrl _ _ z
    replace hfl : (upd H12 rl (.lst [])) fl = some (.lst []) := (upd_ne flrl).trans hfl
    have rld : rl ≠ d := ne_d d12.at_ nrl
    have rl0 : H rl = none := d12.free hd1 nrl
    generalize upd H12 rl (.lst []) = H13 at *
    intro rd nrd
    have d14 := d13.new (o := .dT []) nrd
    have hrd := @upd_same H13 rd (.dT [])
    have flrd : fl ≠ rd := ne_of_none hfl nrd
    have rlrd : rl ≠ rd := ne_of_none hrl' nrd
    replace hsa := hsa.mono fun o z => sameUpd (o := .dT []) (Same.refl H13) nrd _ _ z
    replace hma := hma.mono fun o z => sameUpd (o := .dT []) (Same.refl H13) nrd _ _ z
    replace hfl : (upd H13 rd (.dT [])) fl = some (.lst []) := (upd_ne flrd).trans hfl
    replace hrl' : (upd H13 rd (.dT [])) rl = some (.lst []) := (upd_ne rlrd).trans hrl'
    have rdd : rd ≠ d := ne_d d13.at_ nrd
    have rd0 : H rd = none := d13.free hd1 nrd
    generalize upd H13 rd (.dT []) = H14 at *
    refine ⟨(by show 4 ≤ sizeLine; decide), fun tu ntu => ?_⟩
    have s15 := sameUpd (o := .tup [.int ((1 : Int) + (t0 : Int)), .ref fl, .ref rl, .ref rd]) (Same.refl H14) ntu
    have d15 := d14.new (o := .tup [.int ((1 : Int) + (t0 : Int)), .ref fl, .ref rl, .ref rd]) ntu
    replace hsa := hsa.mono fun o z => s15 _ _ z
    replace hma := hma.mono fun o z => s15 _ _ z
    replace hfl := s15 _ _ hfl
    replace hrl' := s15 _ _ hrl'
    replace hrd := s15 _ _ hrd
    refine ⟨tu, _, rfl, SqT.of upd_same, rfl, _, _, rfl, _, _, rfl, _, _, rfl, _, _, rfl, rfl, ?_⟩
    generalize upd H14 tu (.tup [.int ((1 : Int) + (t0 : Int)), .ref fl, .ref rl, .ref rd]) = Hb at *
    have sm0 : Same (cutH Hb [d, fl, rl, rd]) Hb := cutH_same
    -- what stands in all loops
    let St (Hx : Hp) : Prop := Same (cutH Hb [d, fl, rl, rd]) Hx ∧ DrawAt Hx d
    have drawS : ∀ {Hx : Hp} {s c : Int} {b : List Int}, St Hx → b.length ≤ 63 → St (upd Hx d (drawL s c b)) := fun h hb => ⟨cutS h.1 (by simp), ⟨_, _, _, hb, upd_same⟩⟩
    have sig : ∀ {Hx : Hp}, St Hx → TupN Hx sa (signs.map sV) := fun h => hsa.mono fun o z => h.1 _ _ (by
      rw [cutH_out]
      · exact z
      · simp only [List.mem_cons, List.not_mem_nil, or_false, not_or]
        exact ⟨sad, ne_of z hfl (by intro q; cases q), ne_of z hrl' (by intro q; cases q), ne_of z hrd (by intro q; cases q)⟩)
    have moo : ∀ {Hx : Hp}, St Hx → TupN Hx ma (moods.map sV) := fun h => hma.mono fun o z => h.1 _ _ (by
      rw [cutH_out]
      · exact z
      · simp only [List.mem_cons, List.not_mem_nil, or_false, not_or]
        exact ⟨mad, ne_of z hfl (by intro q; cases q), ne_of z hrl' (by intro q; cases q), ne_of z hrd (by intro q; cases q)⟩)
    refine ⟨_, rfl, ((1 + t0 : Nat) : Int), rfl, by omega, by omega, ?_⟩
    rw [Int.toNat_natCast]
    refine for_range (lo := 0) (n := 1 + t0) (fun i σ Hx => ∃ (o8 : Option V) (fs : List Nat), σ = [some (.ref d), some (.int most), some (.ref sa), some (.ref ma), some (.int (1 + t0 : Nat)), some (.ref fl), some (.ref rl), some (.ref rd), o8, none, none, none] ∧ St Hx ∧
      Hx fl = some (.lst (fs.map fun n : Nat => V.int n)) ∧ fs.length = i ∧ (∀ x ∈ fs, x < signs.length) ∧ Hx rl = some (.lst []) ∧ Hx rd = some (.dT [])) ⟨none, [], rfl, ⟨sm0, d15.at_⟩, hfl, rfl, by simp, hrl', hrd⟩ ?_ ?_
    · rintro i σ Hx hi ⟨o8, fs, rfl, hS, hfx, hfl2, hfs, hrx, hdx⟩
      have fin : ∀ (Hy : Hp) (v : Nat), v < signs.length → St Hy → Hy fl = some (.lst (fs.map fun n : Nat => V.int n)) → Hy rl = some (.lst []) → Hy rd = some (.dT []) →
          rAppend (.ref fl) [.int v] Hy (fun _ H1 => ∃ (o8 : Option V) (fs : List Nat), [some (V.ref d), some (.int most), some (.ref sa), some (.ref ma), some (.int (1 + t0 : Nat)), some (.ref fl), some (.ref rl), some (.ref rd), some (.int ((0 : Int) + (i : Nat))), none, none, none] = [some (.ref d), some (.int most), some (.ref sa), some (.ref ma), some (.int (1 + t0 : Nat)), some (.ref fl), some (.ref rl), some (.ref rd), o8, none, none, none] ∧ St H1 ∧
            H1 fl = some (.lst (fs.map fun n : Nat => V.int n)) ∧ fs.length = i + 1 ∧ (∀ x ∈ fs, x < signs.length) ∧ H1 rl = some (.lst []) ∧ H1 rd = some (.dT [])) := fun Hy v hv hy h1 h2 h3 => by
        refine ⟨fl, _, _, rfl, rfl, h1, by rw [List.length_map, sizeLine_eq]; omega, _, fs ++ [v], rfl, ⟨cutS hy.1 (by simp), ?_⟩, ?_, by simp [hfl2], ?_, (upd_ne (Ne.symm flrl)).trans h2, (upd_ne (Ne.symm flrd)).trans h3⟩
        · obtain ⟨a, b, c, l, e⟩ := hy.2
          exact ⟨a, b, c, l, (upd_ne (Ne.symm fld)).trans e⟩
        · rw [upd_same, List.map_append]
          rfl
        · intro x hx
          rcases List.mem_append.mp hx with z | z
          · exact hfs x z
          · rw [List.mem_singleton.mp z]
            exact hv
      refine ⟨_, rfl, .inl ⟨rfl, _, SqL.of hfx⟩, _, rfl, d, 3, rfl, hS.2, by decide, by decide, fun r s c b hr hb => ?_⟩
      refine ⟨rfl, _, rfl, ?_⟩
      refine ite2 (fun h => ?_) (fun h => ?_)
      · refine ⟨_, rfl, _, rfl, sa, _, rfl, .inr (sig (drawS hS hb)).sq, d, signs.length, by rw [List.length_map]; rfl, (drawS hS hb).2, by omega, by omega, fun r2 s2 c2 b2 hr2 hb2 => ?_⟩
        rw [upd_upd]
        exact fin _ r2 hr2 (drawS hS hb2) ((upd_ne fld).trans hfx) ((upd_ne rld).trans hrx) ((upd_ne rdd).trans hdx)
      · exact fin _ 0 (by omega) (drawS hS hb) ((upd_ne fld).trans hfx) ((upd_ne rld).trans hrx) ((upd_ne rdd).trans hdx)
    · rintro σ Hx ⟨o8, fs, rfl, hS, hfx, hfl2, hfs, hrx, hdx⟩
      -- the robots
      refine ⟨(by show 4 ≤ sizeLine; decide), fun l5 nl5 => ?_⟩
      have S5 : St (upd Hx l5 (.lst [.int 1, .int 1, .int 2, .int 3])) := ⟨cutN hS.1 nl5, let ⟨a, b, c, l, e⟩ := hS.2; ⟨a, b, c, l, sameUpd (Same.refl Hx) nl5 _ _ e⟩⟩
      have hl5 := @upd_same Hx l5 (.lst [.int 1, .int 1, .int 2, .int 3])
      have l5d : l5 ≠ d := ne_d hS.2 nl5
      have s5 := sameUpd (o := .lst [.int 1, .int 1, .int 2, .int 3]) (Same.refl Hx) nl5
      replace hfx := s5 _ _ hfx
      replace hrx := s5 _ _ hrx
      replace hdx := s5 _ _ hdx
      generalize upd Hx l5 (.lst [.int 1, .int 1, .int 2, .int 3]) = H5' at *
      refine ⟨_, rfl, d, 4, rfl, S5.2, by decide, by decide, fun r s c b hr hb => ?_⟩
      have S6 := drawS (s := s) (c := c) S5 hb
      have hl6 : (upd H5' d (drawL s c b)) l5 = some (.lst [.int 1, .int 1, .int 2, .int 3]) := (upd_ne l5d).trans hl5
      replace hfx : (upd H5' d (drawL s c b)) fl = _ := (upd_ne fld).trans hfx
      replace hrx : (upd H5' d (drawL s c b)) rl = _ := (upd_ne rld).trans hrx
      replace hdx : (upd H5' d (drawL s c b)) rd = _ := (upd_ne rdd).trans hdx
      generalize upd H5' d (drawL s c b) = H6' at *
      obtain ⟨nr, hnr, hnr1, hnr3⟩ : ∃ nr : Nat, ([V.int 1, .int 1, .int 2, .int 3])[r]? = some (.int nr) ∧ 1 ≤ nr ∧ nr ≤ 3 := by
        match r, hr with
        | 0, _ => exact ⟨1, rfl, by decide, by decide⟩
        | 1, _ => exact ⟨1, rfl, by decide, by decide⟩
        | 2, _ => exact ⟨2, rfl, by decide, by decide⟩
        | 3, _ => exact ⟨3, rfl, by decide, by decide⟩
      refine ⟨l5, _, _, _, rfl, rfl, SqL.of hl6, atI_nat hnr, (nr : Int), rfl, by omega, by omega, ?_⟩
      rw [Int.toNat_natCast]
      refine for_range (lo := 0) (n := nr) (fun i σ Hx => ∃ (o8 : Option V) (rs : List (Nat × Bool)) (ras : List Addr), σ = [some (.ref d), some (.int most), some (.ref sa), some (.ref ma), some (.int (1 + t0 : Nat)), some (.ref fl), some (.ref rl), some (.ref rd), o8, none, none, none] ∧ St Hx ∧
        Hx fl = some (.lst (fs.map fun n : Nat => V.int n)) ∧ Hx rl = some (.lst (ras.map V.ref)) ∧ Paired (RobAt Hx) ras rs ∧ rs.length = i ∧ (∀ x ∈ rs, x.1 < 1 + t0) ∧ Hx rd = some (.dT [])) ⟨o8, [], [], rfl, S6, hfx, hrx, .nil, rfl, by simp, hdx⟩ ?_ ?_
      · rintro i σ Hx2 hi ⟨o9, rs, ras, rfl, hS2, hf2, hr2, hpr2, hrl2, hrs2, hd2⟩
        refine ⟨_, rfl, .inl ⟨rfl, _, SqL.of hr2⟩, _, rfl, _, rfl, d, 1 + t0, rfl, hS2.2, by omega, by omega, fun t s c b ht hb => ?_⟩
        refine ⟨_, rfl, d, 2, rfl, (drawS hS2 hb).2, by decide, by decide, fun r3 s3 c3 b3 hr3 hb3 => ?_⟩
        rw [upd_upd]
        refine ⟨rfl, (by show 2 ≤ sizeLine; decide), fun tp ntp => ?_⟩
        have S3 := drawS (s := s3) (c := c3) hS2 hb3
        have hf3 : (upd Hx2 d (drawL s3 c3 b3)) fl = _ := (upd_ne fld).trans hf2
        have hr3' : (upd Hx2 d (drawL s3 c3 b3)) rl = _ := (upd_ne rld).trans hr2
        have hd3 : (upd Hx2 d (drawL s3 c3 b3)) rd = _ := (upd_ne rdd).trans hd2
        have hp3 : Paired (RobAt (upd Hx2 d (drawL s3 c3 b3))) ras rs := by
          obtain ⟨_, _, _, _, ed⟩ := hS2.2
          exact Paired.mapP hpr2 fun a q z => keepT ed (fun xs q => by cases q) _ _ z
        generalize upd Hx2 d (drawL s3 c3 b3) = H7' at *
        have s7 := sameUpd (o := .tup [.int t, .bl (decide (V.int (r3 : Nat) = V.int 0))]) (Same.refl H7') ntp
        have S4 : St (upd H7' tp (.tup [.int t, .bl (decide (V.int (r3 : Nat) = V.int 0))])) := ⟨cutN S3.1 ntp, let ⟨a, b, c, l, e⟩ := S3.2; ⟨a, b, c, l, s7 _ _ e⟩⟩
        have htp := @upd_same H7' tp (.tup [.int t, .bl (decide (V.int (r3 : Nat) = V.int 0))])
        replace hf3 := s7 _ _ hf3
        replace hr3' := s7 _ _ hr3'
        replace hd3 := s7 _ _ hd3
        replace hp3 : Paired (RobAt (upd H7' tp (.tup [.int t, .bl (decide (V.int (r3 : Nat) = V.int 0))]))) ras rs := Paired.mapP hp3 fun a q z => s7 _ _ z
        generalize upd H7' tp (.tup [.int t, .bl (decide (V.int (r3 : Nat) = V.int 0))]) = H8' at *
        refine ⟨rl, _, _, rfl, rfl, hr3', by rw [List.length_map, hp3.length, sizeLine_eq]; omega, ?_⟩
        have kt := keepT (o' := .lst (ras.map V.ref ++ [.ref tp])) hr3' (fun xs q => by cases q)
        refine ⟨_, rs ++ [(t, decide (V.int (r3 : Nat) = V.int 0))], ras ++ [tp], rfl, ⟨cutS S4.1 (by simp), ?_⟩, (upd_ne flrl).trans hf3, ?_, Paired_snoc (Paired.mapP hp3 fun a q z => kt _ _ z) (kt _ _ htp), by simp [hrl2], ?_, (upd_ne (Ne.symm rlrd)).trans hd3⟩
        · obtain ⟨a, b, c, l, e⟩ := S4.2
          exact ⟨a, b, c, l, (upd_ne (Ne.symm rld)).trans e⟩
        · rw [upd_same, List.map_append]
          rfl
        · intro x hx
          rcases List.mem_append.mp hx with z | z
          · exact hrs2 x z
          · rw [List.mem_singleton.mp z]
            exact ht
      · rintro σ Hx2 ⟨o9, rs, ras, rfl, hS2, hf2, hr2, hpr2, hrl2, hrs2, hd2⟩
        -- the rules
        refine ⟨_, rfl, ma, _, rfl, .inr (moo hS2).sq, _, rfl, by omega, by rw [List.length_map]; omega, ?_⟩
        rw [Int.toNat_natCast, List.length_map]
        let Ru (i j : Nat) (Hx : Hp) : Prop := ∃ (rules : List ((Nat × Nat) × Rule)) (kvs : List (List Key × V)), Hx rd = some (.dT kvs) ∧ Paired (RuleAt Hx) rules kvs ∧ SortedR rules ∧ (∀ kv ∈ rules, RuleOk signs.length moods.length kv ∧ (kv.1.1 < i ∨ (kv.1.1 = i ∧ kv.1.2 < j))) ∧ rules.length ≤ i * signs.length + j
        let Al (Hx : Hp) : Prop := St Hx ∧ Hx fl = some (.lst (fs.map fun n : Nat => V.int n)) ∧ Hx rl = some (.lst (ras.map V.ref)) ∧ Paired (RobAt Hx) ras rs
        have alDraw : ∀ {Hx : Hp} {s c : Int} {b : List Int} {i j : Nat}, Al Hx → Ru i j Hx → b.length ≤ 63 → Al (upd Hx d (drawL s c b)) ∧ Ru i j (upd Hx d (drawL s c b)) := fun {Hx s c b i j} h hr hb => by
          obtain ⟨_, _, _, _, ed⟩ := h.1.2
          have kt := keepT (o' := drawL s c b) ed (fun xs q => by cases q)
          obtain ⟨rules, kvs, r1, r2, r3⟩ := hr
          exact ⟨⟨drawS h.1 hb, (upd_ne fld).trans h.2.1, (upd_ne rld).trans h.2.2.1, Paired.mapP h.2.2.2 fun a q z => kt _ _ z⟩, ⟨rules, kvs, (upd_ne rdd).trans r1, Paired.mapP r2 fun a q z => z.mono kt, r3⟩⟩
        have alNew : ∀ {Hx : Hp} {x : Addr} {o : HO} {i j : Nat}, Al Hx → Ru i j Hx → Hx x = none → Al (upd Hx x o) ∧ Ru i j (upd Hx x o) := fun {Hx x o i j} h hr hx => by
          have sm := sameUpd (o := o) (Same.refl Hx) hx
          obtain ⟨rules, kvs, r1, r2, r3⟩ := hr
          exact ⟨⟨⟨cutN h.1.1 hx, let ⟨a, b, c, l, e⟩ := h.1.2; ⟨a, b, c, l, sm _ _ e⟩⟩, sm _ _ h.2.1, sm _ _ h.2.2.1, Paired.mapP h.2.2.2 fun a q z => sm _ _ z⟩, ⟨rules, kvs, sm _ _ r1, Paired.mapP r2 fun a q z => z.mono fun _ _ y => sm _ _ y, r3⟩⟩
        refine for_range (lo := 0) (n := moods.length) (fun i σ Hx => ∃ (o8 o9 o10 o11 : Option V), σ = [some (.ref d), some (.int most), some (.ref sa), some (.ref ma), some (.int (1 + t0 : Nat)), some (.ref fl), some (.ref rl), some (.ref rd), o8, o9, o10, o11] ∧ Al Hx ∧ Ru i 0 Hx)
          ⟨o9, none, none, none, rfl, ⟨hS2, hf2, hr2, hpr2⟩, [], [], hd2, .nil, List.Pairwise.nil, by simp, by simp⟩ ?_ ?_
        · rintro i σ Hx hi ⟨o8, o9, o10, o11, rfl, hA, hR⟩
          refine ⟨_, rfl, sa, _, rfl, .inr (sig hA.1).sq, _, rfl, by omega, by rw [List.length_map]; omega, ?_⟩
          rw [Int.toNat_natCast, List.length_map]
          refine for_range (lo := 0) (n := signs.length) (fun j σ Hx => ∃ (o10 o11 : Option V), σ = [some (.ref d), some (.int most), some (.ref sa), some (.ref ma), some (.int (1 + t0 : Nat)), some (.ref fl), some (.ref rl), some (.ref rd), o8, some (.int ((0 : Int) + (i : Nat))), o10, o11] ∧ Al Hx ∧ Ru i j Hx)
            ⟨o10, o11, rfl, hA, hR⟩ ?_ ?_
          · rintro j σ Hy hj ⟨p10, p11, rfl, hA, hR⟩
            have weak : ∀ {Hz : Hp}, Ru i j Hz → Ru i (j + 1) Hz := fun ⟨rules, kvs, r1, r2, r3, r4, r5⟩ => ⟨rules, kvs, r1, r2, r3, fun kv hk => ⟨(r4 kv hk).1, (r4 kv hk).2.elim .inl fun z => .inr ⟨z.1, by omega⟩⟩, by omega⟩
            refine ⟨_, rfl, d, 9, rfl, hA.1.2, by decide, by decide, fun r s c b hr hb => ?_⟩
            obtain ⟨hA1, hR1⟩ := alDraw (s := s) (c := c) hA hR hb
            generalize upd Hy d (drawL s c b) = H1' at *
            refine ⟨_, _, rfl, rfl, _, rfl, ?_⟩
            refine ite2 (fun h => ?_) (fun h => ?_)
            · refine ⟨(by show 5 ≤ sizeLine; decide), fun lm nlm => ?_⟩
              obtain ⟨hA2, hR2⟩ := alNew (o := .lst [.str "on", .str "on", .str "on", .str "back", .str "stay"]) hA1 hR1 nlm
              have hlm := @upd_same H1' lm (.lst [.str "on", .str "on", .str "on", .str "back", .str "stay"])
              have lmd : lm ≠ d := ne_d hA1.1.2 nlm
              generalize upd H1' lm (.lst [.str "on", .str "on", .str "on", .str "back", .str "stay"]) = H2' at *
              refine ⟨_, rfl, d, 5, rfl, hA2.1.2, by decide, by decide, fun r s c b hr hb => ?_⟩
              obtain ⟨hA3, hR3⟩ := alDraw (s := s) (c := c) hA2 hR2 hb
              have hlm3 : (upd H2' d (drawL s c b)) lm = _ := (upd_ne lmd).trans hlm
              generalize upd H2' d (drawL s c b) = H3' at *
              obtain ⟨mv, hmv, hmm⟩ : ∃ mv : Cs, ([V.str "on", .str "on", .str "on", .str "back", .str "stay"])[r]? = some (sV mv) ∧ mv ∈ moves := by
                match r, hr with
                | 0, _ => exact ⟨wOn, by kernel_rfl, by decide⟩
                | 1, _ => exact ⟨wOn, by kernel_rfl, by decide⟩
                | 2, _ => exact ⟨wOn, by kernel_rfl, by decide⟩
                | 3, _ => exact ⟨wBack, by kernel_rfl, by decide⟩
                | 4, _ => exact ⟨wStay, by kernel_rfl, by decide⟩
              refine ⟨lm, _, _, _, rfl, rfl, SqL.of hlm3, atI_nat hmv, ?_⟩
              refine ⟨_, rfl, _, rfl, sa, _, rfl, .inr (sig hA3.1).sq, d, signs.length, by rw [List.length_map]; rfl, hA3.1.2, by omega, by omega, fun lf s c b hlf hb => ?_⟩
              obtain ⟨hA4, hR4⟩ := alDraw (s := s) (c := c) hA3 hR3 hb
              generalize upd H3' d (drawL s c b) = H4' at *
              refine ⟨_, rfl, _, rfl, _, rfl, ma, _, rfl, .inr (moo hA4.1).sq, d, moods.length, by rw [List.length_map]; rfl, hA4.1.2, by omega, by omega, fun la s c b hla hb => ?_⟩
              obtain ⟨hA5, hR5⟩ := alDraw (s := s) (c := c) hA4 hR4 hb
              generalize upd H4' d (drawL s c b) = H5'' at *
              refine ⟨(by show 3 ≤ sizeLine; decide), fun tv ntv => ?_⟩
              obtain ⟨hA6, hR6⟩ := alNew (o := .tup [.int lf, sV mv, .int la]) hA5 hR5 ntv
              have htv := @upd_same H5'' tv (.tup [.int lf, sV mv, .int la])
              generalize upd H5'' tv (.tup [.int lf, sV mv, .int la]) = H6'' at *
              refine ⟨_, rfl, _, rfl, _, rfl, (by show 2 ≤ sizeLine; decide), fun tk ntk => ?_⟩
              have e0 : ∀ n : Nat, (0 : Int) + (n : Int) = (n : Int) := fun n => by omega
              have s7 := sameUpd (o := .tup [.int ((0 : Int) + (i : Nat)), .int ((0 : Int) + (j : Nat))]) (Same.refl H6'') ntk
              obtain ⟨hA7, hR7⟩ := alNew (o := .tup [.int ((0 : Int) + (i : Nat)), .int ((0 : Int) + (j : Nat))]) hA6 hR6 ntk
              have htk : (upd H6'' tk (.tup [.int ((0 : Int) + (i : Nat)), .int ((0 : Int) + (j : Nat))])) tk = some (.tup ((keyT (i, j)).map kV)) := by
                rw [upd_same, e0, e0]
                rfl
              have htv7 := s7 _ _ htv
              generalize upd H6'' tk (.tup [.int ((0 : Int) + (i : Nat)), .int ((0 : Int) + (j : Nat))]) = H7'' at *
              obtain ⟨rules, kvs, r1, r2, r3, r4, r5⟩ := hR7
              have hlen : rules.length ≤ 100 := by
                have : i * signs.length ≤ 3 * 4 := Nat.mul_le_mul (by omega) (by omega)
                omega
              refine ⟨rd, _, rfl, DPut.t (k := keyT (i, j)) r1 htk (by rw [← r2.length, sizeLine_eq]; omega), ?_⟩
              have hno : ∀ q ∈ rules, q.1 ≠ (i, j) := fun q hq z => by
                have := (r4 q hq).2
                rw [z] at this
                simp only at this
                omega
              have z1 := rules_put (k := (i, j)) (r := ⟨lf, mv, la⟩) htv7 r2
              rw [putA_new hno] at z1
              have kt := keepT (o' := .dT (putK kvs (keyT (i, j)) (.ref tv))) r1 (fun xs q => by cases q)
              refine ⟨_, _, rfl, ⟨⟨cutS hA7.1.1 (by simp), ?_⟩, (upd_ne flrd).trans hA7.2.1, (upd_ne rlrd).trans hA7.2.2.1, Paired.mapP hA7.2.2.2 fun a q z => kt _ _ z⟩, rules ++ [((i, j), ⟨lf, mv, la⟩)], _, upd_same, Paired.mapP z1 fun r kv q => q.mono kt, ?_, ?_, by simp; omega⟩
              · obtain ⟨a, b, c, l, e⟩ := hA7.1.2
                exact ⟨a, b, c, l, (upd_ne (Ne.symm rdd)).trans e⟩
              · unfold SortedR
                rw [List.map_append, List.pairwise_append]
                refine ⟨r3, List.pairwise_singleton _ _, fun a ha b hb => ?_⟩
                obtain ⟨q, hq, rfl⟩ := List.mem_map.mp ha
                rw [List.map_singleton, List.mem_singleton] at hb
                rw [hb]
                have := (r4 q hq).2
                simp only
                omega
              · intro kv hkv
                rcases List.mem_append.mp hkv with z | z
                · exact ⟨(r4 kv z).1, (r4 kv z).2.elim .inl fun y => .inr ⟨y.1, by omega⟩⟩
                · rw [List.mem_singleton.mp z]
                  exact ⟨⟨hi, hj, hlf, hla, hmm⟩, .inr ⟨rfl, Nat.lt_succ_self _⟩⟩
            · exact ⟨_, _, rfl, hA1, weak hR1⟩
          · rintro σ Hy ⟨p10, p11, rfl, hA, rules, kvs, r1, r2, r3, r4, r5⟩
            refine ⟨_, _, _, _, rfl, hA, rules, kvs, r1, r2, r3, fun kv hk => ⟨(r4 kv hk).1, .inl ?_⟩, ?_⟩
            · have := (r4 kv hk).2
              omega
            · rw [Nat.add_mul]
              omega
        · rintro σ Hx ⟨o8, o9, o10, o11, rfl, hA, rules, kvs, r1, r2, r3, r4, r5⟩
          have keepH : ∀ {b : Addr} {o : HO}, H b = some o → b ≠ d → Hx b = some o := fun {b o} e hb => by
            refine hA.1.1 _ _ ?_
            rw [cutH_out]
            · exact d15.same _ _ hb e
            · simp only [List.mem_cons, List.not_mem_nil, or_false, not_or]
              exact ⟨hb, ne_of_none e fl0, ne_of_none e rl0, ne_of_none e rd0⟩
          refine ⟨_, rfl, _, rfl, _, rfl, fl, _, rfl, .inl ⟨SqL.of hA.2.1, fun fa nfa => ?_⟩⟩
          have sA := sameUpd (o := .tup (fs.map fun n : Nat => V.int n)) (Same.refl Hx) nfa
          refine ⟨_, rfl, rl, _, rfl, .inl ⟨SqL.of (sA _ _ hA.2.2.1), fun ra nra => ?_⟩⟩
          have sB := sameUpd (o := .tup (ras.map V.ref)) (Same.refl (upd Hx fa (.tup (fs.map fun n : Nat => V.int n)))) nra
          have sAB := sA.trans sB
          refine ⟨_, rfl, (by show 5 ≤ sizeLine; decide), fun res nres => ?_⟩
          have sC := sameUpd (o := .tup [.ref sa, .ref ma, .ref fa, .ref ra, .ref rd]) (Same.refl (upd (upd Hx fa (.tup (fs.map fun n : Nat => V.int n))) ra (.tup (ras.map V.ref)))) nres
          have sT := sAB.trans sC
          have hfin : PlanV _ res ⟨signs, moods, fs, rs, rules⟩ := ⟨sa, ma, fa, ra, rd, ras, upd_same, (sig hA.1).mono fun o z => sT _ _ z, (moo hA.1).mono fun o z => sT _ _ z, sC _ _ (sB _ _ upd_same), sC _ _ upd_same,
            Paired.mapP hA.2.2.2 fun a q z => sT _ _ z, kvs, sT _ _ r1, Paired.mapP r2 fun a q z => z.mono fun _ _ y => sT _ _ y⟩
          refine k res _ ⟨signs, moods, fs, rs, rules⟩ ⟨fun b o hb e => sT _ _ (keepH e hb), ?_⟩ ?_ ?_ ?_ r3 ?_ hfin
          · obtain ⟨a, b, c, l, e⟩ := hA.1.2
            exact ⟨a, b, c, l, sT _ _ e⟩
          · refine ⟨sN, mN, ?_, ?_, ?_, ?_, ?_, ?_, hfs, ?_, ?_, ?_, ?_, fun kv hk => (r4 kv hk).1⟩
            · intro z
              have z' : signs = [] := z
              rw [z'] at sl
              simp at sl
              omega
            · show signs.length ≤ 4
              omega
            · intro z
              have z' : moods = [] := z
              rw [z'] at ml
              simp at ml
              omega
            · show moods.length ≤ 6
              omega
            · show 1 ≤ fs.length
              omega
            · show fs.length ≤ 16
              omega
            · intro z
              have z' : rs = [] := z
              rw [z'] at hrl2
              simp at hrl2
              omega
            · show rs.length ≤ 3
              omega
            · intro r hr
              have := hrs2 r hr
              show r.1 < fs.length
              omega
            · refine List.Pairwise.imp ?_ r3
              intro a b hab z
              rw [z] at hab
              omega
          · show fs.length ≤ most
            omega
          · refine ⟨?_, sIn, mIn⟩
            show moods.length ≤ 3
            omega
          · cases e : H res with
            | none => rfl
            | some o =>
              exfalso
              by_cases hb : res = d
              · obtain ⟨_, _, _, _, q⟩ := hA.1.2
                have := sAB _ _ q
                rw [← hb, nres] at this
                cases this
              · have := sAB _ _ (keepH e hb)
                rw [nres] at this
                cases this
end
end Sw

end

section
set_option maxRecDepth 100000
set_option maxHeartbeats 4000000
/-! sorted(d) of a dict whose keys are pairs of ints -/
namespace Sw
open PySem PySem.Spec PyProof.Rows L2 SwA
def PairAt (H : Hp) (b : Addr) (k : Nat × Nat) : Prop := H b = some (.tup [.int k.1, .int k.2])
def LeP (a b : Nat × Nat) : Prop := a.1 < b.1 ∨ (a.1 = b.1 ∧ a.2 ≤ b.2)
def rSortedDT : List V → Hp → VK → Prop := fun vs H Q => ∃ (d : Addr) (kvs : List (List Key × V)) (ks : List (Nat × Nat)), vs = [.ref d] ∧ Rd H d (.dT kvs) ∧ kvs.map (·.1) = ks.map keyT ∧
  ∀ (ys : List (Nat × Nat)) (bs : List Addr) (p : Addr), ys.Perm ks → ys.Pairwise LeP → Paired (PairAt H) bs ys → H p = none → Q (.ref p) (upd H p (.lst (bs.map V.ref)))
/-- what a value is to the order -/
def kOf (H : Hp) : Value → Int × Int
  | .ref t => match H t with
    | some (.tup [.int i, .int j]) => (i, j)
    | _ => (0, 0)
  | _ => (0, 0)
theorem kOf_at {H : Hp} {b : Addr} {k : Nat × Nat} (h : PairAt H b k) : kOf H (Value.ref b) = ((k.1 : Int), (k.2 : Int)) := by
  simp only [kOf, show H b = some (.tup [.int k.1, .int k.2]) from h]
theorem pairedL {α β : Type} {R : α → β → Prop} : ∀ {xs : List α} {ys : List β}, Paired R xs ys → ∀ {j : Nat} {x : α}, xs[j]? = some x → ∃ y, ys[j]? = some y ∧ R x y
  | _, _, .nil, _, _, h => by cases h
  | _, _, .cons r t, 0, _, h => by cases h; exact ⟨_, rfl, r⟩
  | _, _, .cons r t, j + 1, _, h => pairedL t (j := j) (by simpa using h)
theorem pairedR {α β : Type} {R : α → β → Prop} : ∀ {xs : List α} {ys : List β}, Paired R xs ys → ∀ {j : Nat} {y : β}, ys[j]? = some y → ∃ x, xs[j]? = some x ∧ R x y
  | _, _, .nil, _, _, h => by cases h
  | _, _, .cons r t, 0, _, h => by cases h; exact ⟨_, rfl, r⟩
  | _, _, .cons r t, j + 1, _, h => pairedR t (j := j) (by simpa using h)
theorem isKeys_pairs {H : Hp} : ∀ {kvs : List (List Key × V)} {bs : List Addr} {ks : List (Nat × Nat)}, IsKeys H kvs bs → kvs.map (·.1) = ks.map keyT → Paired (PairAt H) bs ks
  | _, _, [], .nil, _ => .nil
  | _, _, [], .cons _ _, e => by cases e
  | _, _, k :: ks, .nil, e => by cases e
  | _, _, k :: ks, .cons h t, e => by
    rw [List.map_cons, List.map_cons] at e
    injection e with e1 e2
    refine .cons ?_ (isKeys_pairs t e2)
    unfold PairAt
    rw [h, e1]
    rfl
theorem paired_perm {α β : Type} {R : α → β → Prop} {xs xs' : List α} (hp : xs'.Perm xs) : ∀ {ys : List β}, Paired R xs ys → ∃ ys', ys'.Perm ys ∧ Paired R xs' ys' := by
  induction hp with
  | nil => intro ys h; exact ⟨ys, .refl _, h⟩
  | @cons x l1 l2 _ ih =>
    intro ys h
    cases h with
    | cons r t =>
      obtain ⟨ys', p, q⟩ := ih t
      exact ⟨_ :: ys', p.cons _, .cons r q⟩
  | @swap x y l =>
    intro ys h
    cases h with
    | cons r t =>
      cases t with
      | cons r2 t2 => exact ⟨_, .swap _ _ _, .cons r2 (.cons r t2)⟩
  | @trans l1 l2 l3 _ _ ih1 ih2 =>
    intro ys h
    obtain ⟨y2, p2, q2⟩ := ih2 h
    obtain ⟨y1, p1, q1⟩ := ih1 q2
    exact ⟨y1, p1.trans p2, q1⟩
theorem pairs_sorted {H : Hp} : ∀ {bs : List Addr} {ys : List (Nat × Nat)}, Paired (PairAt H) bs ys → SrtO.Srtd (fun v u => SrtO.lexB (kOf H v) (kOf H u)) (bs.map Value.ref) → ys.Pairwise LeP
  | [], [], _, _ => .nil
  | b :: bs, y :: ys, .cons h t, hs => by
    obtain ⟨h1, h2⟩ := List.pairwise_cons.mp hs
    refine .cons (fun z hz => ?_) (pairs_sorted t h2)
    obtain ⟨j, hj⟩ := List.getElem?_of_mem hz
    obtain ⟨b2, hb2, hP⟩ := pairedR t hj
    have h3 := h1 (Value.ref b2) (List.mem_map.mpr ⟨b2, List.mem_of_getElem? hb2, rfl⟩)
    have e1 := kOf_at h
    have e2 := kOf_at hP
    simp only [e1, e2] at h3
    have h4 := SrtO.lexB_no.mp h3
    simp only at h4
    unfold LeP
    omega
theorem cr_sortedDT {X : Cx} (hc : X.calm = true) : CallR X (.builtin "sorted") rSortedDT := by
  intro pins s σ H xs us Q I r h
  obtain ⟨d, kvs, kks, rfl, hd, hkk, q⟩ := h
  obtain ⟨u, rfl, rx⟩ := r.one
  cases rx
  obtain ⟨z, hs, ks, pr, o, es, ep, ho, hx, hdt, he, hn⟩ := (show ObjOk X.prog X.w H s.heap d (.dT kvs) from hd.ok I.hok)
  have l1 : es.size = ks.length := size_of_entries he
  have l2 : kvs.length = ks.length := Paired.length pr
  refine Calls.call_function_entry PyProof.Rows.kind_sorted PyProof.Rows.plain_sorted PyProof.Rows.entry_sorted (PyProof.Rows.args_sorted1 _) ?_
  unfold Builtin.«sorted»
  refine wpAny_bind (m := checkCount "sorted" 1 1 _) (wpAny_pure ?_)
  refine wpAny_bind (PySem.W.kdu_collect (A := X.A.in1) (kdl_raw hs hx hdt) (I.ok.hd hc) ho (by omega) fun h' tk acc hk it => ?_)
  have ea : acc.toList = ks.map fun x => Value.ref x.2.1 := by
    have hl : acc.toList.length = ks.length := by rw [Array.length_toList, it.1]; exact l1
    apply List.ext_getElem?
    intro j
    rw [List.getElem?_map]
    cases hj : acc.toList[j]? with
    | none =>
      have h1 := List.getElem?_eq_none_iff.mp hj
      rw [List.getElem?_eq_none (by omega)]
      all_goals rfl
    | some v =>
      obtain ⟨en, hen, hv⟩ := it.2 j v (by rw [← Array.getElem?_toList]; exact hj)
      have qe := entry_at he j
      rw [hen] at qe
      cases hb : ks[j]? with
      | none =>
        rw [hb] at qe
        exact nomatch (show some en = none from qe)
      | some b =>
        rw [hb] at qe
        have e2 : en = entryOfKey (tupleKind (mixKind X.prog X.w)) b := Option.some.inj qe
        rw [hv, e2]
        all_goals rfl
  have eb : acc.toList = (ks.map fun x => x.2.1).map Value.ref := by rw [ea, List.map_map]; all_goals rfl
  have hP := isKeys_pairs (isKeys_of pr) hkk
  generalize (ks.map fun x => x.2.1) = bs0 at eb hP
  have hbl : bs0.length = ks.length := by
    have e := congrArg List.length eb
    rw [List.length_map, Array.length_toList, it.1] at e
    omega
  rw [eb]
  have hzz : (bs0.map Value.ref).length ≤ sizeLine := by rw [List.length_map]; omega
  have I1 : Inv X pins σ H { s with heap := h', toks := tk } := I.kept hk
  refine wpAny_bind (wpAny_newList ?_ hzz)
  have hoL : (h'.push (seqObj "list" (bs0.map Value.ref).toArray 0)).get? h'.objs.size = some (seqObj "list" (bs0.map Value.ref).toArray 0) := Heap.get?_push_size _ rfl
  show wpAny _ _ _ _ _ { s with heap := h'.push (seqObj "list" (bs0.map Value.ref).toArray 0), toks := tk }
  refine wpAny_bind (wpAny_holding (wpAny_call_entry PyProof.Rows.slot_list_sort ⟨_, hoL, rfl⟩ PyProof.Rows.entry_list_sort
    (SrtO.list_sort_ord (s := { s with heap := h'.push (seqObj "list" (bs0.map Value.ref).toArray 0), toks := tk }) (SrtO.swo_lex (kOf H)) hoL hzz (fun h2 => SrtO.pairs_sortableO (by omega) (fun v hv => ?_) (fun o e => ?_)) fun out hs2 hb2 => ⟨_, rfl, ?_⟩)
    (PyProof.Rows.args_list_sort _)))
  · obtain ⟨b, hb, rfl⟩ := List.mem_map.mp hv
    obtain ⟨j, hj⟩ := List.getElem?_of_mem hb
    obtain ⟨k, _, hk2⟩ := pairedL hP hj
    have e1 := kOf_at hk2
    rw [e1]
    obtain ⟨_, its2, r2, o2, ho2, hc2, n2, hd2⟩ := I1.hok _ _ hk2
    obtain ⟨u1, u2, rfl, ri, rj⟩ := vals2 r2
    obtain ⟨t1, rfl⟩ := ri
    obtain ⟨t2, rfl⟩ := rj
    exact ⟨b, o2, t1, t2, n2, rfl, Heap.get?_push_of_some _ ho2, hc2, hd2⟩
  · have e' : some o = some (seqObj "list" (bs0.map Value.ref).toArray 0) := e.symm.trans hoL
    cases e'
    intro c
    exact absurd (Value.type.inj c) (by decide)
  · obtain ⟨e', he'⟩ := PyProof.Rows.sortedHeap_at (vs := bs0.map Value.ref) (out := out.toArray) hoL
    have h3 : ∀ u ∈ out, ∃ a, u = Value.ref a := fun u hu => by
      obtain ⟨b, _, e⟩ := List.mem_map.mp (hb2.perm.mem_iff.mp hu)
      exact ⟨b, e.symm⟩
    obtain ⟨bs, rfl⟩ : ∃ bs : List Addr, out = bs.map Value.ref := by
      clear hs2 hb2 he'
      induction out with
      | nil => exact ⟨[], rfl⟩
      | cons u out ih =>
        obtain ⟨a, rfl⟩ := h3 u List.mem_cons_self
        obtain ⟨bs, rfl⟩ := ih fun v hv => h3 v (List.mem_cons_of_mem _ hv)
        exact ⟨a :: bs, rfl⟩
    have hperm : bs.Perm bs0 := by
      have := hb2.perm.map (fun v : Value => match v with | .ref a => a | _ => 0)
      simpa [List.map_map, Function.comp_def] using this
    obtain ⟨ys, hyp, hyP⟩ := paired_perm hperm hP
    have hlen : (bs.map V.ref).length ≤ sizeLine := by
      rw [List.length_map, hperm.length_eq]
      omega
    refine wpAny_pure ⟨_, rfl, .ref h'.objs.size, upd H h'.objs.size (.lst (bs.map V.ref)), I1.laid (t' := tk) (fun b u e => ?_) (Nat.le_refl _)
      (show ObjOk X.prog X.w _ _ _ (.lst (bs.map V.ref)) from ⟨hlen, bs.map Value.ref, e', vals_refs _, he'⟩), rfl, q ys bs _ hyp (pairs_sorted hyP hs2) hyP (I1.hok.fresh (Nat.le_refl _))⟩
    have hb : b < h'.objs.size := Heap.lt_size e
    rw [PyProof.Rows.sortedHeap_old (Nat.ne_of_lt hb) (by rw [size_push']; exact Nat.lt_succ_of_lt hb)]
    exact Heap.get?_push_of_some _ e
end Sw

end

section
set_option maxRecDepth 100000
set_option maxHeartbeats 4000000
/-! the law's own: the lines of a plan -/
namespace Sw
open PySem PySem.Spec PyProof.Rows L2 SwA
theorem sx_app (a b : Cs) : sx a ++ sx b = sx (a ++ b) := by
  have e : (sx a).cps ++ (sx b).cps = (sx (a ++ b)).cps := by simp [sx]
  exact congrArg Str.mk e
theorem sx_len (a : Cs) : (sx a).length = a.length := by simp [sx, Str.length]
theorem words_join : ∀ ws : List Cs, wordsOf ws = TL.joinL [32] ws
  | [] => rfl
  | [w] => rfl
  | w :: v :: r => by
    show w ++ 32 :: wordsOf (v :: r) = w ++ ([32] ++ TL.joinL [32] (v :: r))
    rw [words_join (v :: r)]
    rfl
theorem join_sx (a : Cs) (ys : List Cs) : Txt.join (sx a) (ys.map sx) = sx (TL.joinL a ys) := SX.join_S a ys
theorem str_dec {n : Nat} (h : n < 100) : (toString (n : Int) : Str) = sx (dec n) := by
  have : ∀ m < 100, (toString ((m : Nat) : Int) : Str) = sx (dec m) := by decide +kernel
  exact this n h
theorem log_small {n : Nat} (h : n < 100) : ((n : Nat) : Int).natAbs.log2 < 1920 := by
  rw [Int.natAbs_natCast]
  by_cases h0 : n = 0
  · subst h0; decide
  · have : n.log2 < 7 := (Nat.log2_lt h0).mpr (by omega)
    omega
theorem joinL_len (S : Cs) : ∀ ws : List Cs, (TL.joinL S ws).length ≤ (ws.map (·.length)).sum + ws.length * S.length
  | [] => by simp [TL.joinL]
  | [w] => by simp [TL.joinL]
  | w :: v :: r => by
    have ih := joinL_len S (v :: r)
    show (w ++ (S ++ TL.joinL S (v :: r))).length ≤ _
    rw [List.length_append, List.length_append]
    rw [List.map_cons, List.sum_cons, List.length_cons (a := w), Nat.add_mul, Nat.one_mul]
    omega
theorem sum_le {ws : List Cs} {b : Nat} (h : ∀ w ∈ ws, w.length ≤ b) : (ws.map (·.length)).sum ≤ ws.length * b := by
  induction ws with
  | nil => simp
  | cons w r ih =>
    have h1 := h w List.mem_cons_self
    have h2 := ih fun v hv => h v (List.mem_cons_of_mem _ hv)
    rw [List.map_cons, List.sum_cons, List.length_cons, Nat.add_mul, Nat.one_mul]
    omega
theorem lens_sx (ws : List Cs) : ((ws.map sx).map (·.length)) = ws.map (·.length) := by
  rw [List.map_map]
  exact List.map_congr_left fun w _ => sx_len w
theorem names_len {ws : List Cs} (h : NamesOk ws) : ∀ w ∈ ws, w.length ≤ 8 := fun w hw => (h.ok w hw).1.2.2
theorem dec_len (n : Nat) : (dec n).length ≤ 2 := by unfold dec; split <;> simp
abbrev lnV (ws : List Cs) : V := sV (lineOf ws)
theorem map_sV (ws : List Cs) : ws.map sV = (ws.map sx).map V.str := by rw [List.map_map]; rfl
theorem lenS {a b : Cs} (hl : a.length + b.length ≤ 10000) : (sx a).length + (sx b).length ≤ sizeLine := by rw [sx_len, sx_len, sizeLine_eq]; omega
theorem lenJ {a : Cs} {ys : List Cs} (hl : (ys.map (·.length)).sum + ys.length * a.length ≤ 100000) : ((ys.map sx).map (·.length)).sum + (ys.map sx).length * (sx a).length ≤ 16777216 := by rw [lens_sx, List.length_map, sx_len]; omega
theorem sqJ {K : PySem.W.Frag} {H : Hp} {p : Addr} {ys : List Cs} (h : SqL K H p (ys.map sV) ∨ SqT K H p (ys.map sV)) : SqL K H p ((ys.map sx).map V.str) ∨ SqT K H p ((ys.map sx).map V.str) := by rw [← map_sV]; exact h
theorem LeP.antisymm {a b : Nat × Nat} (h1 : LeP a b) (h2 : LeP b a) : a = b := by
  unfold LeP at h1 h2
  exact Prod.ext (by omega) (by omega)
theorem perm_sorted : ∀ {ys ks : List (Nat × Nat)}, ys.Perm ks → ys.Pairwise LeP → ks.Pairwise LeP → ys = ks
  | [], ks, hp, _, _ => (List.nil_perm.mp hp).symm
  | y :: ys, [], hp, _, _ => absurd (List.perm_nil.mp hp) (by simp)
  | y :: ys, k :: ks, hp, h1, h2 => by
    obtain ⟨a1, a2⟩ := List.pairwise_cons.mp h1
    obtain ⟨b1, b2⟩ := List.pairwise_cons.mp h2
    have e : y = k := by
      rcases List.mem_cons.mp (hp.mem_iff.mp List.mem_cons_self) with z | z
      · exact z
      · rcases List.mem_cons.mp (hp.mem_iff.mpr (List.mem_cons_self (a := k) (l := ks))) with q | q
        · exact q.symm
        · exact LeP.antisymm (a1 k q) (b1 y z)
    subst e
    rw [perm_sorted (hp.cons_inv) a2 b2]
theorem SortedR.le {rules : List ((Nat × Nat) × Rule)} (h : SortedR rules) : (rules.map (·.1)).Pairwise LeP := List.Pairwise.imp (fun {a b} q => by unfold LeP; omega) h
theorem head_lines {n : Nat} {signs moods : List Cs} (h1 : signs ≠ []) (h2 : moods ≠ []) :
    [V.str (sx (wCorridor ++ [32] ++ dec n ++ [59])), V.str (sx (wSigns ++ [32] ++ TL.joinL [32] signs ++ [59])), V.str (sx (wMoods ++ [32] ++ TL.joinL [32] moods ++ [59]))] = (headW n signs moods).map lnV := by
  obtain ⟨s0, sr, rfl⟩ := List.exists_cons_of_ne_nil h1
  obtain ⟨m0, mr, rfl⟩ := List.exists_cons_of_ne_nil h2
  show _ = [lnV [wCorridor, dec n], lnV (wSigns :: s0 :: sr), lnV (wMoods :: m0 :: mr)]
  unfold lnV lineOf
  rw [words_join, words_join, words_join]
  simp [TL.joinL]
theorem put_range {floor : List Nat} {i : Nat} : (List.range (i + 1)).filterMap (fun t => if 0 < floor.getD t 0 then some (t, floor.getD t 0) else none) = (List.range i).filterMap (fun t => if 0 < floor.getD t 0 then some (t, floor.getD t 0) else none) ++ (if 0 < floor.getD i 0 then [(i, floor.getD i 0)] else []) := by
  rw [List.range_succ, List.filterMap_append]
  congr 1
  by_cases h : 0 < floor.getD i 0
  · simp only [List.filterMap_cons, List.filterMap_nil, if_pos h]
  · simp only [List.filterMap_cons, List.filterMap_nil, if_neg h]
theorem snoc_ln {A B : List (List Cs)} {x : List Cs} {v : V} (h : lnV x = v) : (A ++ B).map lnV ++ [v] = (A ++ (B ++ [x])).map lnV := by
  rw [← h]
  simp
theorem snoc_lf {α : Type} {A : List (List Cs)} {L : List α} {f : α → List Cs} {q : α} {v : V} (h : lnV (f q) = v) : (A ++ L.map f).map lnV ++ [v] = (A ++ (L ++ [q]).map f).map lnV := by
  rw [← h]
  simp
theorem inc_len {n : Nat} : ∀ {l : List Nat} {lo : Nat}, l.Pairwise (· < ·) → (∀ x ∈ l, lo ≤ x ∧ x < n) → l.length ≤ n - lo
  | [], _, _, _ => Nat.zero_le _
  | x :: r, lo, hp, h => by
    obtain ⟨h1, h2⟩ := List.pairwise_cons.mp hp
    have hx := h x List.mem_cons_self
    have ih := inc_len (lo := x + 1) h2 fun y hy => ⟨h1 y hy, (h y (List.mem_cons_of_mem _ hy)).2⟩
    rw [List.length_cons]
    omega
theorem rules_few {pl : Plan} (wf : WfP pl) (so : SortedR pl.rules) : pl.rules.length ≤ 24 := by
  have h4 := wf.s4
  have h6 := wf.m6
  have := inc_len (n := 24) (lo := 0) (l := pl.rules.map fun kv => kv.1.1 * 4 + kv.1.2) ?_ ?_
  · rw [List.length_map] at this
    exact this
  · rw [List.pairwise_map]
    unfold SortedR at so
    rw [List.pairwise_map] at so
    refine List.Pairwise.imp_of_mem (fun {a b} ha hb q => ?_) so
    have := (wf.ru a ha).k2
    have := (wf.ru b hb).k2
    omega
  · intro x hx
    obtain ⟨kv, hk, rfl⟩ := List.mem_map.mp hx
    have := (wf.ru kv hk).k2
    have := (wf.ru kv hk).k1
    omega
theorem rules_keys {H : Hp} : ∀ {rs : List ((Nat × Nat) × Rule)} {kvs : List (List Key × V)}, Paired (RuleAt H) rs kvs → kvs.map (·.1) = (rs.map (·.1)).map keyT
  | _, _, .nil => rfl
  | _, _, .cons h t => by rw [List.map_cons, List.map_cons, List.map_cons, rules_keys t, h.1]
theorem nm_get {ws : List Cs} {g : Nat} (h : g < ws.length) : (ws.map sV)[g]? = some (sV (ws.getD g [])) := by
  rw [List.getElem?_map, List.getD_eq_getElem?_getD, List.getElem?_eq_getElem h]
  rfl
theorem line_len {pl : Plan} (wf : WfP pl) : ∀ ws ∈ linesW pl, (lineOf ws).length ≤ 100 := by
  have key : ∀ (ws : List Cs), ws.length ≤ 7 → (∀ w ∈ ws, w.length ≤ 8) → (lineOf ws).length ≤ 100 := by
    intro ws h7 h8
    have h1 := joinL_len [32] ws
    have h2 := sum_le h8
    have h3 : ws.length * 8 ≤ 7 * 8 := Nat.mul_le_mul_right 8 h7
    simp only [List.length_singleton, Nat.mul_one] at h1
    unfold lineOf
    rw [words_join, List.length_append, List.length_singleton]
    omega
  have h4 := wf.s4
  have h6 := wf.m6
  intro ws hws
  rcases List.mem_append.mp hws with h | h
  · simp only [headW, List.mem_cons, List.not_mem_nil, or_false] at h
    rcases h with z | z | z <;> rw [z]
    · refine key _ (by simp) fun w hw => ?_
      simp only [List.mem_cons, List.not_mem_nil, or_false] at hw
      rcases hw with q | q <;> rw [q]
      · decide
      · exact Nat.le_trans (dec_len _) (by decide)
    · refine key _ (by simp; omega) fun w hw => ?_
      rcases List.mem_cons.mp hw with q | q
      · rw [q]; decide
      · exact names_len wf.sN w q
    · refine key _ (by simp; omega) fun w hw => ?_
      rcases List.mem_cons.mp hw with q | q
      · rw [q]; decide
      · exact names_len wf.mN w q
  · obtain ⟨st, hst, rfl⟩ := List.mem_map.mp h
    obtain ⟨_, hw⟩ := stm_words wf st hst
    refine key _ (by cases st <;> simp [stmW]) fun w hw2 => ?_
    rcases hw w hw2 with q | q
    · exact q.2.2
    · exact Nat.le_trans q.2.2.1 (by decide)
theorem lines_few {pl : Plan} (wf : WfP pl) (so : SortedR pl.rules) : (linesW pl).length ≤ 50 := by
  have h1 := rules_few wf so
  have h2 := List.length_filterMap_le (fun t => if 0 < pl.floor.getD t 0 then some (t, pl.floor.getD t 0) else none) (List.range pl.floor.length)
  rw [List.length_range] at h2
  have h3 := wf.r3
  have h4 := wf.n16
  unfold linesW stmsOf putsL
  simp only [List.length_append, List.length_map, headW, List.length_cons, List.length_nil]
  omega
theorem text_len {pl : Plan} (wf : WfP pl) (so : SortedR pl.rules) : (((linesW pl).map lineOf).map (·.length)).sum + (linesW pl).length ≤ 5100 ∧ (textOf pl).length ≤ 6000 := by
  have h1 : (((linesW pl).map lineOf).map (·.length)).sum ≤ ((linesW pl).map lineOf).length * 100 := sum_le fun w hw => by
    obtain ⟨ws, h, rfl⟩ := List.mem_map.mp hw
    exact line_len wf ws h
  have h2 := lines_few wf so
  have h3 := joinL_len [10] ((linesW pl).map lineOf)
  rw [List.length_map] at h1 h3
  simp only [List.length_singleton] at h3
  unfold textOf
  omega
structure LinT (K : PySem.W.Frag) (mg : Str → Option Value) : Prop where
  p : PlaT K mg
  str : mg "str" = none
  sorted : mg "sorted" = none
  lines : DeT K mg "_law_lines" s__law_lines
  text : DeT K mg "_law_text" s__law_text
section
variable {P : Program} {w : World} {K : PySem.W.Frag} {mg : Str → Option Value} {base : Heap}
/-- the rules' dict may have another order -/
def spLinesP : Sp := fun vs H Q _ => ∃ (a : Addr) (pl : Plan) (rs : List ((Nat × Nat) × Rule)), vs = [.ref a] ∧ PlanV H a { pl with rules := rs } ∧ rs.Perm pl.rules ∧ WfP pl ∧ SortedR pl.rules ∧
  ∀ (l : Addr) (H' : Hp), H l = none → Same H H' → H' l = some (.lst ((linesW pl).map lnV)) → Q (.ref l) H'
def spLines : Sp := fun vs H Q _ => ∃ (a : Addr) (pl : Plan), vs = [.ref a] ∧ PlanV H a pl ∧ WfP pl ∧ SortedR pl.rules ∧
  ∀ (l : Addr) (H' : Hp), H l = none → Same H H' → H' l = some (.lst ((linesW pl).map lnV)) → Q (.ref l) H'
abbrev liN : List Str := ["_law_plan_here", "_law_signs", "_law_moods", "_law_floor", "_law_robots", "_law_rules", "_law_lines_here", "_law_tile", "_law_is_right", "_law_mood", "_law_sign", "_law_left", "_law_move", "_law_later", "_law_words"]
theorem sc_lines : FnScope liN ["_law_plan_here"] (defScope s__law_lines) := ⟨rfl, rfl, rfl, by decide +kernel, rfl, by decide +kernel, by decide +kernel⟩
theorem ok_linesP (T : LinT K mg) : FnE P w K mg base CX0 1 ("_law_lines", none) ["_law_plan_here"] spLinesP := by
  obtain ⟨fd, F⟩ := T.lines.d
  refine ⟨fd, F.ok sc_lines (fun vs H Q E h => ?_) (fun cdv A outer s H vs Q E hr h => ?_), F.bindsN fun _ _ _ _ _ _ us hl => match us, hl with | [_], _ => rfl, F.kp⟩
  · obtain ⟨a, pl, rs, rfl, _⟩ := h
    rfl
  · obtain ⟨a, pl, rs, rfl, hP, hpm, wf, so, k⟩ := h
    have hu := hu_of hr
    refine ⟨_, PSs.nox (pss_cons (ps_asg (pv 0)
        (pg_tup rfl (pgs_cons (pg_name (i := 1) sc_lines.nd rfl (.inl rfl)) (pgs_cons (pg_name (i := 2) sc_lines.nd rfl (.inl rfl)) (pgs_cons (pg_name (i := 3) sc_lines.nd rfl (.inl rfl)) (pgs_cons (pg_name (i := 4) sc_lines.nd rfl (.inl rfl)) (pgs_cons (pg_name (i := 5) sc_lines.nd rfl (.inl rfl)) pgs_nil)))))))
      (pss_cons (ps_set (i := 6) sc_lines.nd rfl (.inl rfl) (pe_lst (pa_cons (pe_op op_add_str (pe_op op_add_str pe_str (pe_callTy call_str_int (by rfl) T.str (by decide +kernel) (pa_cons (pe_callB call_len_seq (by rfl) T.p.s.l.len boot_len (pa_cons (pv 3) pa_nil)) pa_nil))) pe_str) (pa_cons (pe_op op_add_str (pe_op op_add_str pe_str (pe_join pe_str (pv 1))) pe_str) (pa_cons (pe_op op_add_str (pe_op op_add_str pe_str (pe_join pe_str (pv 2))) pe_str) pa_nil)))))
      (pss_cons (ps_for PassesOwn.never rfl (pi_tup (pv 4)) (pg_tup rfl (pgs_cons (pg_name (i := 7) sc_lines.nd rfl (.inl rfl)) (pgs_cons (pg_name (i := 8) sc_lines.nd rfl (.inl rfl)) pgs_nil)))
        (pss_one (ps_expr (pe_bm PySem.F.plainAttrs_list PySem.F.slot_list_append PySem.F.type_list_append mt_append (pv 6) (pa_cons (pe_op op_add_str (pe_op op_add_str pe_str (pe_callTy call_str_int (by rfl) T.str (by decide +kernel) (pa_cons (pv 7) pa_nil))) (pe_ifExp (pt_val (pv 8)) pe_str pe_str)) pa_nil)))))
      (pss_cons (ps_for PassesOwn.never rfl (pi_range1 (by rfl) T.p.s.l.range (pa_cons (pe_callB call_len_seq (by rfl) T.p.s.l.len boot_len (pa_cons (pv 3) pa_nil)) pa_nil)) (pg_name (i := 7) sc_lines.nd rfl (.inl rfl))
        (pss_one (ps_if (pt_cmpR op_gt (pe_ix ix_tup (pv 3) (pv 7) (fun _ _ => rfl)) pe_int (nomark _))
          (pss_one (ps_expr (pe_bm PySem.F.plainAttrs_list PySem.F.slot_list_append PySem.F.type_list_append mt_append (pv 6) (pa_cons (pe_op op_add_str (pe_op op_add_str (pe_op op_add_str (pe_op op_add_str pe_str (pe_ix ix_tup (pv 1) (pe_ix ix_tup (pv 3) (pv 7) (fun _ _ => rfl)) (fun _ _ => rfl))) pe_str) (pe_callTy call_str_int (by rfl) T.str (by decide +kernel) (pa_cons (pv 7) pa_nil))) pe_str) pa_nil)))) pss_nil)))
      (pss_cons (ps_for PassesOwn.never rfl (pi_list (pe_callB (cr_sortedDT rfl) (by rfl) T.sorted (by decide +kernel) (pa_cons (pv 5) pa_nil))) (pg_tup rfl (pgs_cons (pg_name (i := 9) sc_lines.nd rfl (.inl rfl)) (pgs_cons (pg_name (i := 10) sc_lines.nd rfl (.inl rfl)) pgs_nil)))
        (pss_cons (ps_asg (pe_dget hu (pv 5) (pe_tup (pa_cons (pv 9) (pa_cons (pv 10) pa_nil))) (fun _ _ => rfl))
          (pg_tup rfl (pgs_cons (pg_name (i := 11) sc_lines.nd rfl (.inl rfl)) (pgs_cons (pg_name (i := 12) sc_lines.nd rfl (.inl rfl)) (pgs_cons (pg_name (i := 13) sc_lines.nd rfl (.inl rfl)) pgs_nil)))))
        (pss_cons (ps_set (i := 14) sc_lines.nd rfl (.inl rfl) (pe_lst (pa_cons pe_str (pa_cons (pe_ix ix_tup (pv 2) (pv 9) (fun _ _ => rfl)) (pa_cons (pe_ix ix_tup (pv 1) (pv 10) (fun _ _ => rfl)) (pa_cons pe_str (pa_cons (pe_ix ix_tup (pv 1) (pv 11) (fun _ _ => rfl)) (pa_cons (pv 12) (pa_cons (pe_ix ix_tup (pv 2) (pv 13) (fun _ _ => rfl)) pa_nil)))))))))
        (pss_one (ps_expr (pe_bm PySem.F.plainAttrs_list PySem.F.slot_list_append PySem.F.type_list_append mt_append (pv 6) (pa_cons (pe_op op_add_str (pe_join pe_str (pv 14)) pe_str) pa_nil)))))))
      (pss_one (ps_ret (pv 6)))))))), ?_⟩
    obtain ⟨sa, ma, fa, ra, rd, ras, e0, e1, e2, e3, e4, e5, kvs, e6, e7⟩ := hP
    replace e1 : TupN H sa (pl.signs.map sV) := e1
    replace e2 : TupN H ma (pl.moods.map sV) := e2
    replace e3 : H fa = some (.tup (pl.floor.map fun n : Nat => V.int n)) := e3
    replace e5 : Paired (RobAt H) ras pl.robots := e5
    replace e7 : Paired (RuleAt H) rs kvs := e7
    refine ⟨_, rfl, a, _, rfl, SqT.of e0, rfl, _, _, rfl, _, _, rfl, _, _, rfl, _, _, rfl, _, _, rfl, rfl, ?_⟩
    have h16 := wf.n16
    have hdn := dec_len pl.floor.length
    have hsl : (pl.signs.map (·.length)).sum ≤ 4 * 8 := Nat.le_trans (sum_le (names_len wf.sN)) (Nat.mul_le_mul_right 8 wf.s4)
    have hml : (pl.moods.map (·.length)).sum ≤ 6 * 8 := Nat.le_trans (sum_le (names_len wf.mN)) (Nat.mul_le_mul_right 8 wf.m6)
    have hs4 := wf.s4
    have hm6 := wf.m6
    refine ⟨_, rfl, fa, _, rfl, .inr (SqT.of e3), _, rfl, ?_⟩
    rw [List.length_map]
    refine ⟨log_small (by omega), ?_⟩
    rw [str_dec (show pl.floor.length < 100 by omega)]
    refine ⟨sx (wCorridor ++ [32]), sx (dec pl.floor.length), (by kernel_rfl), rfl, lenS (by simp [wCorridor]; omega), ?_⟩
    rw [sx_app]
    refine ⟨sx (wCorridor ++ [32] ++ dec pl.floor.length), sx ([59]), rfl, (by kernel_rfl), lenS (by simp [wCorridor]; omega), ?_⟩
    rw [sx_app]
    have lj1 := joinL_len [32] pl.signs
    have lj2 := joinL_len [32] pl.moods
    simp only [List.length_singleton, Nat.mul_one] at lj1 lj2
    refine ⟨⟨_, rfl⟩, _, rfl, sx [32], _, (pl.signs).map sx, (by kernel_rfl), rfl, sqJ (.inr e1.sq), lenJ (by simp only [List.length_singleton]; omega), ?_⟩
    rw [join_sx]
    refine ⟨sx (wSigns ++ [32]), sx (TL.joinL [32] pl.signs), (by kernel_rfl), rfl, lenS (by simp [wSigns]; omega), ?_⟩
    rw [sx_app]
    refine ⟨sx (wSigns ++ [32] ++ TL.joinL [32] pl.signs), sx ([59]), rfl, (by kernel_rfl), lenS (by simp [wSigns]; omega), ?_⟩
    rw [sx_app]
    refine ⟨⟨_, rfl⟩, _, rfl, sx [32], _, (pl.moods).map sx, (by kernel_rfl), rfl, sqJ (.inr e2.sq), lenJ (by simp only [List.length_singleton]; omega), ?_⟩
    rw [join_sx]
    refine ⟨sx (wMoods ++ [32]), sx (TL.joinL [32] pl.moods), (by kernel_rfl), rfl, lenS (by simp [wMoods]; omega), ?_⟩
    rw [sx_app]
    refine ⟨sx (wMoods ++ [32] ++ TL.joinL [32] pl.moods), sx ([59]), rfl, (by kernel_rfl), lenS (by simp [wMoods]; omega), ?_⟩
    rw [sx_app]
    refine ⟨(by show 3 ≤ sizeLine; decide), fun l nl => ?_⟩
    have s1 : Same H (upd H l (.lst ((headW pl.floor.length pl.signs pl.moods).map lnV))) := sameUpd (Same.refl H) nl
    rw [head_lines wf.s1 wf.m1]
    have hl1 := @upd_same H l (.lst ((headW pl.floor.length pl.signs pl.moods).map lnV))
    generalize upd H l (.lst ((headW pl.floor.length pl.signs pl.moods).map lnV)) = H1 at *
    -- robots
    refine ⟨_, rfl, ra, rfl, ⟨_, SqT.of (s1 _ _ e4)⟩, ?_⟩
    refine for_tup (K := K) (a := ra) (xs := ras.map V.ref) (fun i σ H2 => ∃ o7 o8 : Option V, σ = [some (.ref a), some (.ref sa), some (.ref ma), some (.ref fa), some (.ref ra), some (.ref rd), some (.ref l), o7, o8, none, none, none, none, none, none] ∧ Same H H2 ∧
      H2 l = some (.lst ((headW pl.floor.length pl.signs pl.moods ++ (pl.robots.take i).map fun r => stmW pl.signs pl.moods (robS r)).map lnV))) ⟨none, none, rfl, s1, by rw [List.take_zero, List.map_nil, List.append_nil]; exact hl1⟩ (fun i σ H2 _ ⟨_, _, _, sm, _⟩ => SqT.of (sm _ _ e4)) ?_ ?_
    · rintro i x σ H2 hx ⟨o7, o8, rfl, sm, hl2⟩
      rw [List.getElem?_map] at hx
      cases hra : ras[i]? with
      | none => rw [hra] at hx; cases hx
      | some rai =>
        rw [hra] at hx
        cases hx
        obtain ⟨r, hr', hrob⟩ := pairedL e5 hra
        have hrt := wf.rt r (List.mem_of_getElem? hr')
        have hir : i < pl.robots.length := (List.getElem?_eq_some_iff.mp hr').1
        have hr3 := wf.r3
        have dl := dec_len r.1
        refine ⟨rai, _, rfl, SqT.of (sm _ _ hrob), rfl, _, _, rfl, _, _, rfl, rfl, ?_⟩
        refine ⟨_, rfl, .inl ⟨rfl, _, SqL.of hl2⟩, _, rfl, _, rfl, log_small (by omega), ?_⟩
        rw [str_dec (show r.1 < 100 by omega)]
        refine ⟨sx (wRobot ++ [32]), sx (dec r.1), (by kernel_rfl), rfl, lenS (by simp [wRobot]; omega), ?_⟩
        rw [sx_app]
        have et : (pl.robots.take (i + 1)).map (fun r => stmW pl.signs pl.moods (robS r)) = (pl.robots.take i).map (fun r => stmW pl.signs pl.moods (robS r)) ++ [stmW pl.signs pl.moods (robS r)] := by
          rw [List.take_succ, hr', List.map_append]
          rfl
        have hll : ((headW pl.floor.length pl.signs pl.moods ++ (pl.robots.take i).map fun r => stmW pl.signs pl.moods (robS r)).map lnV).length < sizeLine := by
          rw [List.length_map, List.length_append, List.length_map, List.length_take, sizeLine_eq]
          simp [headW]
          omega
        refine ⟨_, rfl, _, rfl, ?_⟩
        cases hb : r.2 with
        | true =>
          refine ⟨sx (wRobot ++ [32] ++ dec r.1), sx (32 :: wRight ++ [59]), rfl, (by kernel_rfl), lenS (by simp [wRobot, wRight]; omega), ?_⟩
          rw [sx_app]
          refine ⟨l, _, _, rfl, rfl, hl2, hll, _, _, rfl, sameUpd sm nl, ?_⟩
          rw [upd_same, et]
          have : lnV (stmW pl.signs pl.moods (robS r)) = V.str (sx (wRobot ++ [32] ++ dec r.1 ++ (32 :: wRight ++ [59]))) := by
            unfold lnV lineOf robS
            rw [words_join, hb]
            simp [stmW, TL.joinL, wayOf]
          rw [snoc_ln this]
        | false =>
          refine ⟨sx (wRobot ++ [32] ++ dec r.1), sx (32 :: wLeft ++ [59]), rfl, (by kernel_rfl), lenS (by simp [wRobot, wLeft]; omega), ?_⟩
          rw [sx_app]
          refine ⟨l, _, _, rfl, rfl, hl2, hll, _, _, rfl, sameUpd sm nl, ?_⟩
          rw [upd_same, et]
          have : lnV (stmW pl.signs pl.moods (robS r)) = V.str (sx (wRobot ++ [32] ++ dec r.1 ++ (32 :: wLeft ++ [59]))) := by
            unfold lnV lineOf robS
            rw [words_join, hb]
            simp [stmW, TL.joinL, wayOf]
          rw [snoc_ln this]
    rintro σ H2 ⟨o7, o8, rfl, s2, hl2⟩
    rw [List.length_map, e5.length, List.take_length] at hl2
    generalize hA : headW pl.floor.length pl.signs pl.moods ++ pl.robots.map (fun r => stmW pl.signs pl.moods (robS r)) = LA at hl2
    have hLA : LA.length ≤ 6 := by
      rw [← hA, List.length_append, List.length_map]
      have := wf.r3
      simp [headW]
      omega
    -- puts
    refine ⟨_, rfl, fa, _, rfl, .inr (SqT.of (s2 _ _ e3)), ?_⟩
    refine ⟨_, rfl, by rw [List.length_map]; omega, by rw [List.length_map]; omega, ?_⟩
    refine for_range (lo := 0) (n := ((pl.floor.map fun n : Nat => V.int n).length : Int).toNat) (fun i σ H3 => ∃ o7 : Option V, σ = [some (.ref a), some (.ref sa), some (.ref ma), some (.ref fa), some (.ref ra), some (.ref rd), some (.ref l), o7, o8, none, none, none, none, none, none] ∧ Same H H3 ∧
      H3 l = some (.lst ((LA ++ ((List.range i).filterMap (fun t => if 0 < pl.floor.getD t 0 then some (t, pl.floor.getD t 0) else none)).map fun q => stmW pl.signs pl.moods (putS q)).map lnV))) ⟨o7, rfl, s2, by rw [List.range_zero, List.filterMap_nil, List.map_nil, List.append_nil]; exact hl2⟩ ?_ ?_
    · rintro i σ H3 hi ⟨o7, rfl, sm, hl3⟩
      rw [Int.toNat_natCast, List.length_map] at hi
      have hg : (pl.floor.map fun n : Nat => V.int n)[i]? = some (.int (pl.floor.getD i 0 : Nat)) := by
        rw [List.getElem?_map, List.getD_eq_getElem?_getD, List.getElem?_eq_getElem hi]
        rfl
      have hgs : pl.floor.getD i 0 < pl.signs.length := by
        rw [List.getD_eq_getElem?_getD, List.getElem?_eq_getElem hi]
        exact wf.fl _ (List.getElem_mem hi)
      have ez : (0 : Int) + (i : Nat) = (i : Nat) := by omega
      rw [ez]
      refine ⟨_, rfl, _, rfl, fa, _, _, _, rfl, rfl, SqT.of (sm _ _ e3), atI_nat hg, _, _, rfl, rfl, _, rfl, ?_⟩
      refine ite2 (fun h => ?_) (fun h => ?_)
      · have h0 : 0 < pl.floor.getD i 0 := by
          have := of_decide_eq_true h
          omega
        have hsg : (pl.signs.map sV)[pl.floor.getD i 0]? = some (sV (pl.signs.getD (pl.floor.getD i 0) [])) := by
          rw [List.getElem?_map, List.getD_eq_getElem?_getD (l := pl.signs), List.getElem?_eq_getElem hgs]
          rfl
        have hs8 : (pl.signs.getD (pl.floor.getD i 0) []).length ≤ 8 := names_len wf.sN _ (getD_in hgs)
        have hsa := e1.mono (fun o z => sm _ _ z)
        have dl := dec_len i
        refine ⟨_, rfl, .inl ⟨rfl, _, SqL.of hl3⟩, _, rfl, _, rfl, _, rfl, fa, _, _, _, rfl, rfl, SqT.of (sm _ _ e3), atI_nat hg, sa, _, _, _, rfl, rfl, hsa.sq, atI_nat hsg, ?_⟩
        generalize hgg : pl.floor.getD i 0 = g at *
        refine ⟨sx (wPut ++ [32]), sx (pl.signs.getD g []), (by kernel_rfl), rfl, lenS (by simp [wPut] at hs8 ⊢; omega), ?_⟩
        rw [sx_app]
        refine ⟨sx (wPut ++ [32] ++ pl.signs.getD g []), sx [32], rfl, (by kernel_rfl), lenS (by simp [wPut] at hs8 ⊢; omega), ?_⟩
        rw [sx_app]
        refine ⟨_, rfl, _, rfl, log_small (by omega), ?_⟩
        rw [str_dec (show i < 100 by omega)]
        refine ⟨sx (wPut ++ [32] ++ pl.signs.getD g [] ++ [32]), sx (dec i), rfl, rfl, lenS (by simp [wPut] at hs8 ⊢; omega), ?_⟩
        rw [sx_app]
        refine ⟨sx (wPut ++ [32] ++ pl.signs.getD g [] ++ [32] ++ dec i), sx [59], rfl, (by kernel_rfl), lenS (by simp [wPut] at hs8 ⊢; omega), ?_⟩
        rw [sx_app]
        have hfl := List.length_filterMap_le (fun t => if 0 < pl.floor.getD t 0 then some (t, pl.floor.getD t 0) else none) (List.range i)
        rw [List.length_range] at hfl
        refine ⟨l, _, _, rfl, rfl, hl3, ?_, _, rfl, sameUpd sm nl, ?_⟩
        · rw [List.length_map, List.length_append, List.length_map, sizeLine_eq]
          omega
        · have : lnV (stmW pl.signs pl.moods (putS (i, g))) = V.str (sx (wPut ++ [32] ++ pl.signs.getD g [] ++ [32] ++ dec i ++ [59])) := by
            unfold lnV lineOf putS
            rw [words_join]
            simp [stmW, TL.joinL]
          rw [upd_same, put_range, hgg, if_pos h0, snoc_lf (f := fun q => stmW pl.signs pl.moods (putS q)) this]
      · have h0 : ¬ 0 < pl.floor.getD i 0 := by
          have := of_decide_eq_false (Bool.eq_false_iff.mpr h)
          omega
        refine ⟨_, rfl, sm, ?_⟩
        rw [put_range, if_neg h0, List.append_nil]
        exact hl3
    rintro σ H3 ⟨o7', rfl, s3, hl3⟩
    rw [Int.toNat_natCast, List.length_map] at hl3
    have hLB : (LA ++ (putsL pl.floor).map fun q => stmW pl.signs pl.moods (putS q)).length ≤ 30 := by
      have hfl := List.length_filterMap_le (fun t => if 0 < pl.floor.getD t 0 then some (t, pl.floor.getD t 0) else none) (List.range pl.floor.length)
      rw [List.length_range] at hfl
      rw [List.length_append, List.length_map]
      unfold putsL
      omega
    replace hl3 : H3 l = some (.lst ((LA ++ (putsL pl.floor).map fun q => stmW pl.signs pl.moods (putS q)).map lnV)) := hl3
    generalize hB : LA ++ (putsL pl.floor).map (fun q => stmW pl.signs pl.moods (putS q)) = LB at hl3 hLB
    -- rules
    have hru := rules_few wf so
    refine ⟨_, rfl, rd, kvs, rs.map (·.1), rfl, Rd.of (s3 _ _ e6), rules_keys e7, fun ys bs p hperm hso hpair np => ?_⟩
    obtain rfl := perm_sorted (hperm.trans (hpm.map _)) hso so.le
    have s4 := sameUpd (o := .lst (bs.map V.ref)) (Same.refl H3) np
    have hp4 := @upd_same H3 p (.lst (bs.map V.ref))
    have hpl : p ≠ l := fun z => by rw [z, hl3] at np; cases np
    replace hl3 := s4 _ _ hl3
    have np0 : H p = none := s3.free np
    replace s3 := s3.trans s4
    have hpair : Paired (PairAt (upd H3 p (.lst (bs.map V.ref)))) bs (pl.rules.map (·.1)) := Paired.mapP hpair fun _ _ q => s4 _ _ q
    generalize upd H3 p (.lst (bs.map V.ref)) = H4 at *
    refine ⟨p, rfl, ⟨_, SqL.of hp4⟩, ?_⟩
    refine for_list (K := K) (a := p) (xs := bs.map V.ref) (fun i σ H5 => ∃ o9 o10 o11 o12 o13 o14 : Option V, σ = [some (.ref a), some (.ref sa), some (.ref ma), some (.ref fa), some (.ref ra), some (.ref rd), some (.ref l), o7', o8, o9, o10, o11, o12, o13, o14] ∧ Same (cutH H4 [l]) H5 ∧
      H5 l = some (.lst ((LB ++ (pl.rules.take i).map fun r => stmW pl.signs pl.moods (rulS r)).map lnV))) ⟨none, none, none, none, none, none, rfl, cutH_same, by rw [List.take_zero, List.map_nil, List.append_nil]; exact hl3⟩
      (fun i σ H5 _ ⟨_, _, _, _, _, _, _, sm, _⟩ => SqL.of (sm _ _ (by rw [cutH_out (by simpa using hpl)]; exact hp4))) ?_ ?_
    · rintro i x σ H5 hx ⟨o9, o10, o11, o12, o13, o14, rfl, sm, hl5⟩
      have up : ∀ b o, b ≠ l → H4 b = some o → H5 b = some o := fun b o hb e => sm _ _ (by rw [cutH_out (by simpa using hb)]; exact e)
      rw [List.getElem?_map] at hx
      cases hbi : bs[i]? with
      | none => rw [hbi] at hx; cases hx
      | some bi =>
        rw [hbi] at hx
        cases hx
        obtain ⟨ky, hky, hpr⟩ := pairedL hpair hbi
        rw [List.getElem?_map] at hky
        cases hri : pl.rules[i]? with
        | none => rw [hri] at hky; cases hky
        | some kv =>
          rw [hri] at hky
          cases hky
          have hmem := List.mem_of_getElem? hri
          have rk := wf.ru kv hmem
          have hir : i < pl.rules.length := (List.getElem?_eq_some_iff.mp hri).1
          have nel : ∀ {b : Addr} {o : HO}, H b = some o → b ≠ l := fun e z => by rw [z, nl] at e; cases e
          have bil : bi ≠ l := fun z => by
            have q : H4 bi = _ := hpr
            rw [z, hl3] at q
            cases q
          refine ⟨bi, _, rfl, SqT.of (up _ _ bil hpr), rfl, _, _, rfl, _, _, rfl, rfl, ?_⟩
          refine ⟨_, rfl, _, rfl, _, rfl, (by show 2 ≤ sizeLine; decide), fun t nt => ?_⟩
          have s6 := sameUpd (o := .tup [.int kv.1.1, .int kv.1.2]) (Same.refl H5) nt
          have ht := @upd_same H5 t (.tup [.int kv.1.1, .int kv.1.2])
          have sm6 := sm.trans s6
          replace hl5 := s6 _ _ hl5
          replace up : ∀ b o, b ≠ l → H4 b = some o → (upd H5 t (.tup [.int kv.1.1, .int kv.1.2])) b = some o := fun b o hb e => s6 _ _ (up b o hb e)
          generalize upd H5 t (.tup [.int kv.1.1, .int kv.1.2]) = H6 at *
          have e7' : Paired (RuleAt H6) rs kvs := Paired.mapP e7 fun _ _ q => q.mono fun b xs z => up _ _ (nel z) (s3 _ _ z)
          obtain ⟨tv, hv1, hv2⟩ := (rules_get (k := kv.1) e7').2 kv.2 (getA_mem ((hpm.map _).nodup_iff.mpr wf.rn) (hpm.mem_iff.mpr hmem))
          refine ⟨rd, .ref tv, rfl, by rw [← hv1]; exact DGet.t (k := keyT kv.1) (up _ _ (nel e6) (s3 _ _ e6)) ht, ?_⟩
          refine ⟨tv, _, rfl, SqT.of hv2, rfl, _, _, rfl, _, _, rfl, _, _, rfl, rfl, ?_⟩
          have hma : TupN H6 ma (pl.moods.map sV) := e2.mono fun o z => up _ _ (nel z) (s3 _ _ z)
          have hsa : TupN H6 sa (pl.signs.map sV) := e1.mono fun o z => up _ _ (nel z) (s3 _ _ z)
          refine ⟨_, rfl, _, rfl, ma, _, _, _, rfl, rfl, hma.sq, atI_nat (nm_get rk.k1), _, rfl, _, rfl, sa, _, _, _, rfl, rfl, hsa.sq, atI_nat (nm_get rk.k2), _, rfl, _, rfl, sa, _, _, _, rfl, rfl, hsa.sq, atI_nat (nm_get rk.l), _, rfl, _, rfl, _, rfl, ma, _, _, _, rfl, rfl, hma.sq, atI_nat (nm_get rk.la), ?_⟩
          refine ⟨(by show 7 ≤ sizeLine; decide), fun wl nwl => ?_⟩
          have e8 : [V.str (Str.ofString "when"), sV (pl.moods.getD kv.1.1 []), sV (pl.signs.getD kv.1.2 []), V.str (Str.ofString "leave"), sV (pl.signs.getD kv.2.left []), sV kv.2.move, sV (pl.moods.getD kv.2.later [])] = (stmW pl.signs pl.moods (rulS kv)).map sV := by
            show _ = [sV wWhen, sV (pl.moods.getD kv.1.1 []), sV (pl.signs.getD kv.1.2 []), sV wLeave, sV (pl.signs.getD kv.2.left []), sV kv.2.move, sV (pl.moods.getD kv.2.later [])]
            congr 1
          rw [e8]
          have s7 := sameUpd (o := .lst ((stmW pl.signs pl.moods (rulS kv)).map sV)) (Same.refl H6) nwl
          have hwl := @upd_same H6 wl (.lst ((stmW pl.signs pl.moods (rulS kv)).map sV))
          have sm7 := sm6.trans s7
          replace hl5 := s7 _ _ hl5
          generalize upd H6 wl (.lst ((stmW pl.signs pl.moods (rulS kv)).map sV)) = H7 at *
          have l8 : ∀ w ∈ stmW pl.signs pl.moods (rulS kv), w.length ≤ 8 := by
            have hmv : ∀ m ∈ moves, m.length ≤ 8 := by decide +kernel
            intro w hw
            have hw' : w = wWhen ∨ w = pl.moods.getD kv.1.1 [] ∨ w = pl.signs.getD kv.1.2 [] ∨ w = wLeave ∨ w = pl.signs.getD kv.2.left [] ∨ w = kv.2.move ∨ w = pl.moods.getD kv.2.later [] := by simpa [rulS, stmW] using hw
            rcases hw' with z | z | z | z | z | z | z <;> rw [z]
            · decide
            · exact names_len wf.mN _ (getD_in rk.k1)
            · exact names_len wf.sN _ (getD_in rk.k2)
            · decide
            · exact names_len wf.sN _ (getD_in rk.l)
            · exact hmv _ rk.mv
            · exact names_len wf.mN _ (getD_in rk.la)
          have ls := sum_le l8
          have l7 : (stmW pl.signs pl.moods (rulS kv)).length = 7 := rfl
          rw [l7] at ls
          have lj := joinL_len [32] (stmW pl.signs pl.moods (rulS kv))
          rw [l7] at lj
          simp only [List.length_singleton] at lj
          refine ⟨_, rfl, .inl ⟨rfl, _, SqL.of hl5⟩, ⟨_, rfl⟩, _, rfl, sx [32], wl, (stmW pl.signs pl.moods (rulS kv)).map sx, (by kernel_rfl), rfl, sqJ (.inl (SqL.of hwl)), lenJ (by rw [l7]; simp only [List.length_singleton]; omega), ?_⟩
          rw [join_sx]
          refine ⟨sx (TL.joinL [32] (stmW pl.signs pl.moods (rulS kv))), sx [59], rfl, (by kernel_rfl), lenS (by simp only [List.length_singleton]; omega), ?_⟩
          rw [sx_app]
          refine ⟨l, _, _, rfl, rfl, hl5, ?_, _, _, _, _, _, _, rfl, cutS sm7 (by simp), ?_⟩
          · rw [List.length_map, List.length_append, List.length_map, List.length_take, sizeLine_eq]
            omega
          · have : lnV (stmW pl.signs pl.moods (rulS kv)) = V.str (sx (TL.joinL [32] (stmW pl.signs pl.moods (rulS kv)) ++ [59])) := by
              unfold lnV lineOf
              rw [words_join]
            have et : (pl.rules.take (i + 1)) = pl.rules.take i ++ [kv] := by
              rw [List.take_succ, hri]
              rfl
            rw [upd_same, et, snoc_lf (f := fun r => stmW pl.signs pl.moods (rulS r)) this]
    rintro σ H5 ⟨o9, o10, o11, o12, o13, o14, rfl, sm, hl5⟩
    have hbl : bs.length = pl.rules.length := by rw [hpair.length, List.length_map]
    rw [List.length_map, hbl, List.take_length] at hl5
    refine ⟨_, rfl, k l H5 nl (fun b o e => sm _ _ ?_) ?_⟩
    · rw [cutH_out]
      · exact s3 _ _ e
      · intro z
        rw [List.mem_singleton.mp z, nl] at e
        cases e
    · rw [hl5, ← hB, ← hA]
      unfold linesW stmsOf
      simp [List.append_assoc, Function.comp_def]
/-! ### _law_text -/
theorem ok_lines (T : LinT K mg) : FnE P w K mg base CX0 1 ("_law_lines", none) ["_law_plan_here"] spLines := by
  obtain ⟨fd, G, b, k⟩ := ok_linesP (P := P) (w := w) (base := base) T
  exact ⟨fd, G.imp fun vs H Q E ⟨a, pl, e, hP, wf, so, k⟩ => ⟨a, pl, pl.rules, e, hP, .refl _, wf, so, k⟩, b, k⟩
def spTextP : Sp := fun vs H Q _ => ∃ (a : Addr) (pl : Plan) (rs : List ((Nat × Nat) × Rule)), vs = [.ref a] ∧ PlanV H a { pl with rules := rs } ∧ rs.Perm pl.rules ∧ WfP pl ∧ SortedR pl.rules ∧ ∀ H' : Hp, Same H H' → Q (sV (textOf pl)) H'
def spText : Sp := fun vs H Q _ => ∃ (a : Addr) (pl : Plan), vs = [.ref a] ∧ PlanV H a pl ∧ WfP pl ∧ SortedR pl.rules ∧ ∀ H' : Hp, Same H H' → Q (sV (textOf pl)) H'
theorem sc_text : FnScope ["_law_plan_here"] ["_law_plan_here"] (defScope s__law_text) := ⟨rfl, rfl, rfl, by decide +kernel, rfl, by decide +kernel, by decide +kernel⟩
theorem ok_textP (T : LinT K mg) : FnE P w K mg base CX0 2 ("_law_text", none) ["_law_plan_here"] spTextP := by
  obtain ⟨fd, F⟩ := T.text.d
  obtain ⟨fdL, GL, bL, kL⟩ := ok_linesP (P := P) (w := w) (base := base) T
  refine ⟨fd, F.ok sc_text (fun vs H Q E h => ?_) (fun cdv A outer s H vs Q E hr h => ?_), F.bindsN fun _ _ _ _ _ _ us hl => match us, hl with | [_], _ => rfl, F.kp⟩
  · obtain ⟨a, pl, rs, rfl, _⟩ := h
    rfl
  · obtain ⟨a, pl, rs, rfl, hP, hpm, wf, so, k⟩ := h
    refine ⟨_, PSs.nox (pss_one (ps_ret (pe_join pe_str (pe_call GL hr rfl T.lines.g kL bL .nil pass0 (pa_cons (pv 0) pa_nil))))), ?_⟩
    obtain ⟨t1, t2⟩ := text_len wf so
    refine ⟨⟨_, rfl⟩, _, rfl, a, pl, rs, rfl, hP, hpm, wf, so, fun l H' nl sm hl => ?_⟩
    have e : (linesW pl).map lnV = (((linesW pl).map lineOf).map sx).map V.str := by rw [List.map_map, List.map_map]; rfl
    rw [e] at hl
    refine ⟨sx [10], l, ((linesW pl).map lineOf).map sx, (by kernel_rfl), rfl, .inl (SqL.of hl), lenJ (by rw [List.length_map]; simp only [List.length_singleton]; omega), ?_⟩
    rw [join_sx]
    exact k H' sm
theorem ok_text (T : LinT K mg) : FnE P w K mg base CX0 2 ("_law_text", none) ["_law_plan_here"] spText := by
  obtain ⟨fd, G, b, k⟩ := ok_textP (P := P) (w := w) (base := base) T
  exact ⟨fd, G.imp fun vs H Q E ⟨a, pl, e, hP, wf, so, k⟩ => ⟨a, pl, pl.rules, e, hP, .refl _, wf, so, k⟩, b, k⟩
end
end Sw

end

section
set_option maxRecDepth 100000
set_option maxHeartbeats 4000000
/-! data: what may be compared -/
namespace Sw
open PySem PySem.Spec PyProof.Rows L2 SwA
def ShD (n : Nat) (d : PyData) : Prop := d.canLay0 = true ∧ d.depth ≤ n
theorem ShD.mono {n m : Nat} {d : PyData} (h : ShD n d) (hl : n ≤ m) : ShD m d := ⟨h.1, Nat.le_trans h.2 hl⟩
theorem shd_all {n : Nat} : ∀ {ds : List PyData}, (∀ d ∈ ds, ShD n d) → PyData.canLayAll0 ds = true ∧ PyData.depthAll ds ≤ n
  | [], _ => ⟨rfl, by simp [PyData.depthAll]⟩
  | d :: ds, h => by
    have h1 := h d List.mem_cons_self
    have h2 := shd_all (ds := ds) fun x hx => h x (List.mem_cons_of_mem _ hx)
    refine ⟨?_, ?_⟩
    · rw [PyData.canLayAll0, h1.1, h2.1]; rfl
    · rw [PyData.depthAll]
      have := h1.2
      have := h2.2
      omega
theorem shd_list {n : Nat} {ds : List PyData} (h : ∀ d ∈ ds, ShD n d) : ShD (n + 1) (.list ds) := by
  have h2 := shd_all h
  refine ⟨by rw [PyData.canLay0]; exact h2.1, ?_⟩
  rw [PyData.depth]
  have := h2.2
  omega
theorem shd_tuple {n : Nat} {ds : List PyData} (h : ∀ d ∈ ds, ShD n d) : ShD (n + 1) (.tuple ds) := by
  have h2 := shd_all h
  refine ⟨by rw [PyData.canLay0]; exact h2.1, ?_⟩
  rw [PyData.depth]
  have := h2.2
  omega
theorem shd_int (i : Int) : ShD 1 (.int i) := ⟨by rw [PyData.canLay0], by rw [PyData.depth]; decide⟩
theorem shd_bool (i : Bool) : ShD 1 (.bool i) := ⟨by rw [PyData.canLay0], by rw [PyData.depth]; decide⟩
theorem shd_none : ShD 1 .none := ⟨by rw [PyData.canLay0], by rw [PyData.depth]; decide⟩
theorem shd_str {x : Str} (h : x.cps.all (· < 0x110000) = true) : ShD 1 (.str x) := ⟨by rw [PyData.canLay0]; exact h, by rw [PyData.depth]; decide⟩
theorem shd_sx {cs : Cs} (h : ∀ c ∈ cs, c < 0x110000) : ShD 1 (.str (sx cs)) := shd_str (by
  rw [← Array.all_toList]
  simpa [sx] using h)
theorem shd_nm {cs : Cs} (h : ∀ c ∈ cs, isL c = true) : ShD 1 (.str (sx cs)) := shd_sx fun c hc => by
  have := h c hc
  unfold isL at this
  rw [Bool.and_eq_true, Nat.ble_eq, Nat.ble_eq] at this
  omega
theorem ShD.shaped {n : Nat} {d : PyData} (h : ShD n d) (hn : n ≤ 64) : SeqAt.shaped d = true := Bool.and_eq_true_iff.mpr ⟨h.1, decide_eq_true (Nat.le_trans h.2 hn)⟩
theorem ShD.eqv {n : Nat} {d : PyData} (h : ShD n d) : PyData.eqv d d = true := SeqAt.eqv_refl _ h.1
end Sw

end

section
set_option maxRecDepth 100000
set_option maxHeartbeats 4000000
/-! tuples and lists of numbers and of names, as data -/
namespace Sw
open PySem PySem.Spec PyProof.Rows L2 SwA
/-- a number or None -/
abbrev oV (r : Option Nat) : V := match r with
  | some u => .int u
  | none => .non
abbrev natsD (l : List Nat) : List PyData := l.map fun n : Nat => PyData.int n
abbrev strsD (l : List Cs) : List PyData := l.map fun z => PyData.str (sx z)
theorem dpa_nats {K : PySem.W.Frag} {H : Hp} : ∀ l : List Nat, DpAll K H (l.map fun n : Nat => V.int n) (natsD l)
  | [] => .nil
  | _ :: l => .cons (.int _) (dpa_nats l)
theorem dpa_strs {K : PySem.W.Frag} {H : Hp} : ∀ l : List Cs, DpAll K H (l.map sV) (strsD l)
  | [] => .nil
  | _ :: l => .cons (.str _) (dpa_strs l)
theorem sh_nats (l : List Nat) : ShD 2 (.tuple (natsD l)) := shd_tuple fun d hd => by
  obtain ⟨n, _, rfl⟩ := List.mem_map.mp hd
  exact shd_int _
theorem sh_natsL (l : List Nat) : ShD 2 (.list (natsD l)) := shd_list fun d hd => by
  obtain ⟨n, _, rfl⟩ := List.mem_map.mp hd
  exact shd_int _
theorem eqvA_nats : ∀ xs ys : List Nat, PyData.eqvAll (natsD xs) (natsD ys) = decide (xs = ys)
  | [], [] => by simp [PyData.eqvAll]
  | [], _ :: _ => by simp [PyData.eqvAll]
  | _ :: _, [] => by simp [PyData.eqvAll]
  | x :: xs, y :: ys => by
    have ih := eqvA_nats xs ys
    simp only [List.map_cons, PyData.eqvAll, PyData.eqv] at ih ⊢
    rw [ih]
    by_cases h : x = y
    · subst h
      by_cases h2 : xs = ys
      · simp [h2]
      · simp [h2]
    · have : ((x : Int) == (y : Int)) = false := by simp; omega
      simp [this, h]
theorem eqv_nats (xs ys : List Nat) : PyData.eqv (.tuple (natsD xs)) (.tuple (natsD ys)) = decide (xs = ys) := by
  rw [PyData.eqv]
  exact eqvA_nats xs ys
theorem eqv_natsL (xs ys : List Nat) : PyData.eqv (.list (natsD xs)) (.list (natsD ys)) = decide (xs = ys) := by
  rw [PyData.eqv]
  exact eqvA_nats xs ys
end Sw

end

section
set_option maxRecDepth 100000
set_option maxHeartbeats 4000000
/-! plain things and tuples of plain things, as data -/
namespace Sw
open PySem PySem.Spec PyProof.Rows L2 SwA
inductive FlD : V → PyData → Prop
  | non : FlD .non .none
  | bl (b : Bool) : FlD (.bl b) (.bool b)
  | int (i : Int) : FlD (.int i) (.int i)
  | str (x : Str) : FlD (.str x) (.str x)
theorem FlD.dp {K : PySem.W.Frag} {H : Hp} {v : V} {d : PyData} (h : FlD v d) : Dp K H v d := by
  cases h
  · exact .non
  · exact .bl _
  · exact .int _
  · exact .str _
/-- a plain thing, or a tuple of such -/
def ElD (H : Hp) (v : V) (d : PyData) : Prop := FlD v d ∨ ∃ (a : Addr) (xs : List V) (ds : List PyData), v = .ref a ∧ H a = some (.tup xs) ∧ d = .tuple ds ∧ Paired FlD xs ds
theorem ElD.keep {H H' : Hp} (s : ∀ a xs, H a = some (.tup xs) → H' a = some (.tup xs)) {v : V} {d : PyData} (h : ElD H v d) : ElD H' v d := h.elim .inl fun ⟨a, xs, ds, e1, e2, e3, e4⟩ => .inr ⟨a, xs, ds, e1, s _ _ e2, e3, e4⟩
theorem dpa_fl {K : PySem.W.Frag} {H : Hp} : ∀ {vs : List V} {ds : List PyData}, Paired FlD vs ds → DpAll K H vs ds
  | _, _, .nil => .nil
  | _, _, .cons h t => .cons h.dp (dpa_fl t)
theorem ElD.dp {K : PySem.W.Frag} {H : Hp} {v : V} {d : PyData} (h : ElD H v d) : Dp K H v d := by
  rcases h with h | ⟨a, xs, ds, rfl, e2, rfl, e4⟩
  · exact h.dp
  · exact .tup (SqT.of e2) (dpa_fl e4)
theorem dpa_el {K : PySem.W.Frag} {H : Hp} : ∀ {vs : List V} {ds : List PyData}, Paired (ElD H) vs ds → DpAll K H vs ds
  | _, _, .nil => .nil
  | _, _, .cons h t => .cons h.dp (dpa_el t)
theorem el_nats {H : Hp} : ∀ l : List Nat, Paired (ElD H) (l.map fun n : Nat => V.int n) (natsD l)
  | [] => .nil
  | _ :: l => .cons (.inl (.int _)) (el_nats l)
theorem el_strs {H : Hp} : ∀ l : List Cs, Paired (ElD H) (l.map sV) (strsD l)
  | [] => .nil
  | _ :: l => .cons (.inl (.str _)) (el_strs l)
theorem el_app {H : Hp} : ∀ {a : List V} {b : List PyData} {c : List V} {d : List PyData}, Paired (ElD H) a b → Paired (ElD H) c d → Paired (ElD H) (a ++ c) (b ++ d)
  | _, _, _, _, .nil, h => h
  | _, _, _, _, .cons x t, h => .cons x (el_app t h)
abbrev oD (r : Option Nat) : PyData := match r with
  | some u => .int u
  | none => .none
theorem fl_oV (r : Option Nat) : FlD (oV r) (oD r) := by
  cases r
  · exact .non
  · exact .int _
end Sw

end

section
set_option maxRecDepth 100000
set_option maxHeartbeats 4000000
/-! sorted(d), sorted(l) of tuples of plain things, as data -/
namespace Sw
open PySem PySem.Spec PyProof.Rows L2 SwA
abbrev tupE (enc : Addr → List PyData) : Addr → PyData := fun a => .tuple (enc a)
/-- the order of data -/
abbrev srtD (enc : Addr → List PyData) (xs : List Addr) : List Addr := xs.mergeSort (PySem.W.dataLe false (tupE enc))
/-- tuples at these places, all of one form -/
def TupsD (H : Hp) (enc : Addr → List PyData) (bs : List Addr) : Prop := (∀ b ∈ bs, ∃ xs, H b = some (.tup xs) ∧ Paired FlD xs (enc b) ∧ (∃ x r, enc b = x :: r) ∧ (enc b).length ≤ 8) ∧ ∀ a ∈ bs, ∀ b ∈ bs, PySem.W.alikeAll (enc a) (enc b) = true
theorem srt_perm (enc : Addr → List PyData) (xs : List Addr) : (srtD enc xs).Perm xs := List.mergeSort_perm _ _
theorem srt_id {enc : Addr → List PyData} {xs : List Addr} (h : xs.Pairwise fun a b => PySem.W.dataLe false (tupE enc) a b = true) : srtD enc xs = xs := List.mergeSort_of_pairwise h
theorem read_fl {h : Heap} {v : V} {d : PyData} {u : Value} (hk : FlD v d) (r1 : RelV v u) : Reads h u d [] := by
  cases hk with
  | non => cases r1; exact .none
  | bl b => cases r1; exact .bool b
  | int i => obtain ⟨t, rfl⟩ := r1; exact .int i t
  | str x => obtain ⟨t, rfl⟩ := r1; exact .str x t
theorem reads_fl {h : Heap} : ∀ {xs : List V} {ds : List PyData} {us : List Value}, Paired FlD xs ds → Vals xs us → ReadsAll h us ds []
  | _, _, _, .nil, r => by cases r; exact .nil
  | _, _, _, .cons hk t, r => by
    cases r with
    | cons r1 r2 => exact ReadsAll.cons (read_fl hk r1) (reads_fl (h := h) t r2)
theorem reads_tup {X : Cx} {pins : List (Addr × Obj)} {σ : L2.St} {H : Hp} {s : Shared} (I : Inv X pins σ H s) {b : Addr} {xs : List V} {ds : List PyData} (hb : H b = some (.tup xs)) (hx : Paired FlD xs ds) : Reads s.heap (.ref b) (.tuple ds) [] := by
  obtain ⟨_, its, rl, o, h1, h2, n, h3⟩ := (show ObjOk X.prog X.w H s.heap b (.tup xs) from I.hok b _ hb)
  exact .tuple h1 h2 h3 (by simpa using reads_fl hx rl)
theorem each_ref : ∀ bs : List Addr, PySem.W.EachIs (fun (v : Value) (b : Addr) => v = Value.ref b) (bs.map Value.ref) bs
  | [] => .nil
  | _ :: bs => .cons rfl (each_ref bs)
theorem each_of_all {R : Value → Addr → Prop} : ∀ {bs : List Addr}, (∀ b ∈ bs, R (Value.ref b) b) → PySem.W.EachIs R (bs.map Value.ref) bs
  | [], _ => .nil
  | b :: bs, h => .cons (h b List.mem_cons_self) (each_of_all fun c hc => h c (List.mem_cons_of_mem _ hc))
theorem out_ref : ∀ {out : List Value} {bs : List Addr}, PySem.W.EachIs (fun (v : Value) (b : Addr) => v = Value.ref b) out bs → out = bs.map Value.ref
  | _, _, .nil => rfl
  | _, _, .cons h t => by rw [h, out_ref t]; rfl
theorem depth_fl : ∀ {xs : List V} {ds : List PyData}, Paired FlD xs ds → PyData.depthAll ds ≤ 1
  | _, _, .nil => by simp [PyData.depthAll]
  | _, _, .cons h t => by
    have := depth_fl t
    rw [PyData.depthAll]
    have h1 : ∀ {v : V} {d : PyData}, FlD v d → d.depth ≤ 1 := fun h => by cases h <;> simp [PyData.depth]
    have := h1 h
    omega
theorem TupsD.al {H : Hp} {enc : Addr → List PyData} {bs : List Addr} (h : TupsD H enc bs) : PySem.W.AllAlike (bs.map (tupE enc)) := by
  intro d hd d' hd'
  obtain ⟨b, hb, rfl⟩ := List.mem_map.mp hd
  obtain ⟨b', hb', rfl⟩ := List.mem_map.mp hd'
  exact h.2 b hb b' hb'
theorem TupsD.so {H : Hp} {enc : Addr → List PyData} {bs : List Addr} (h : TupsD H enc bs) : PySem.W.Sortable (bs.map (tupE enc)) := .inl fun d hd => by
  obtain ⟨b, hb, rfl⟩ := List.mem_map.mp hd
  obtain ⟨_, _, _, ⟨x, r, e⟩, _⟩ := h.1 b hb
  exact ⟨x, r, by show PyData.tuple (enc b) = _; rw [e]⟩
theorem TupsD.dep {H : Hp} {enc : Addr → List PyData} {bs : List Addr} (h : TupsD H enc bs) : ∀ b ∈ bs, (tupE enc b).depth ≤ 2 := fun b hb => by
  obtain ⟨_, _, hx, _⟩ := h.1 b hb
  have := depth_fl hx
  show (PyData.tuple (enc b)).depth ≤ 2
  rw [PyData.depth]
  omega
def rSortedDN (P : Program) (w : World) : List V → Hp → VK → Prop := fun vs H Q => ∃ (d : Addr) (kvs : List KvN) (enc : Addr → List PyData), vs = [.ref d] ∧ DictN P w H d kvs ∧ TupsD H enc (kvs.map (·.2.1)) ∧
  ∀ (p : Addr), H p = none → Q (.ref p) (upd H p (.lst ((srtD enc (kvs.map (·.2.1))).map V.ref)))
theorem relN_keys : ∀ {kvs : List KvN} {xs : List (NestedKey × Addr × Value)}, RelN kvs xs → xs.map (fun x => x.2.1) = kvs.map (fun x => x.2.1)
  | _, _, .nil => rfl
  | _, _, .cons h t => by rw [List.map_cons, List.map_cons, relN_keys t, h.2.1]
theorem cr_sortedDN {X : Cx} {P : Program} {w : World} (hP : X.prog = P) (hw : X.w = w) (hc : X.calm = true) (hu : X.A.units + 20 < cLine) : CallR X (.builtin "sorted") (rSortedDN P w) := by
  subst hP hw
  intro pins s σ H xs us Q I r h
  obtain ⟨d, kvs, enc, rfl, dn, hT, q⟩ := h
  obtain ⟨u, rfl, rx⟩ := r.one
  cases rx
  obtain ⟨⟨z, hs, ks, rel, o, es, ep, ho, hx, hdt, he, hn⟩, _⟩ := (show ObjOk X.prog X.w H s.heap d (DNo X.prog X.w d kvs) from I.hok d _ dn.1)
  have l1 : es.size = ks.length := size_of_entries he
  have l2 : kvs.length = ks.length := Paired.length rel
  refine Calls.call_function_entry PyProof.Rows.kind_sorted PyProof.Rows.plain_sorted PyProof.Rows.entry_sorted (PyProof.Rows.args_sorted1 _) ?_
  unfold Builtin.«sorted»
  refine wpAny_bind (m := checkCount "sorted" 1 1 _) (wpAny_pure ?_)
  refine wpAny_bind (PySem.W.kdu_collect (A := X.A.in1) (kdl_raw hs hx hdt) (I.ok.hd hc) ho (by omega) fun h' tk acc hk it => ?_)
  have ea : acc.toList = ks.map fun x => Value.ref x.2.1 := by
    have hl : acc.toList.length = ks.length := by rw [Array.length_toList, it.1]; exact l1
    apply List.ext_getElem?
    intro j
    rw [List.getElem?_map]
    cases hj : acc.toList[j]? with
    | none =>
      have h1 := List.getElem?_eq_none_iff.mp hj
      rw [List.getElem?_eq_none (by omega)]
      all_goals rfl
    | some v =>
      obtain ⟨en, hen, hv⟩ := it.2 j v (by rw [← Array.getElem?_toList]; exact hj)
      have qe := entry_at he j
      rw [hen] at qe
      cases hb : ks[j]? with
      | none =>
        rw [hb] at qe
        exact nomatch (show some en = none from qe)
      | some b =>
        rw [hb] at qe
        have e2 : en = entryOfKey (nestedKind X.prog X.w) b := Option.some.inj qe
        rw [hv, e2]
        all_goals rfl
  have eb : acc.toList = (kvs.map fun x => x.2.1).map Value.ref := by rw [ea, ← relN_keys rel, List.map_map]; all_goals rfl
  have hbl : (kvs.map fun x => x.2.1).length = ks.length := by rw [List.length_map, l2]
  generalize (kvs.map fun x => x.2.1) = bs0 at *
  rw [eb]
  have hzz : (bs0.map Value.ref).length ≤ sizeLine := by rw [List.length_map]; omega
  have I1 : Inv X pins σ H { s with heap := h', toks := tk } := I.kept hk
  refine wpAny_bind (wpAny_newList ?_ hzz)
  have hoL : (h'.push (seqObj "list" (bs0.map Value.ref).toArray 0)).get? h'.objs.size = some (seqObj "list" (bs0.map Value.ref).toArray 0) := Heap.get?_push_size _ rfl
  show wpAny _ _ _ _ _ { s with heap := h'.push (seqObj "list" (bs0.map Value.ref).toArray 0), toks := tk }
  have hu2 : X.A.in1.units = X.A.units + 1 := Around.in1_units _
  refine wpAny_bind (wpAny_holding (PySem.W.list_sort_data (β := Addr) (R := fun (v : Value) (b : Addr) => v = Value.ref b) (enc := tupE enc) (bs := bs0) (vs := bs0.map Value.ref) (s := { s with heap := h'.push (seqObj "list" (bs0.map Value.ref).toArray 0), toks := tk }) hoL (each_ref bs0)
    (each_of_all fun b hb => ?_) hT.al hT.so (by omega) (fun b hb => ?_) fun out hlen hout => ?_))
  · obtain ⟨xs, e1, e2, _⟩ := hT.1 b hb
    have rd := reads_tup I1 e1 e2
    exact ⟨[], PyProof.Rows.Reads.keeps (fun b o e => Heap.get?_push_of_some _ e) rd, by simp⟩
  · have := hT.dep b hb
    omega
  · obtain rfl := out_ref hout
    obtain ⟨e', he'⟩ := PyProof.Rows.sortedHeap_at (vs := bs0.map Value.ref) (out := ((srtD enc bs0).map Value.ref).toArray) hoL
    have hlen2 : ((srtD enc bs0).map V.ref).length ≤ sizeLine := by
      rw [List.length_map, (srt_perm enc bs0).length_eq]
      omega
    refine wpAny_pure ⟨_, rfl, .ref h'.objs.size, upd H h'.objs.size (.lst ((srtD enc bs0).map V.ref)), I1.laid (t' := tk) (fun b u e => ?_) (Nat.le_refl _)
      (show ObjOk X.prog X.w _ _ _ (.lst ((srtD enc bs0).map V.ref)) from ⟨hlen2, (srtD enc bs0).map Value.ref, e', vals_refs _, he'⟩), rfl, q _ (I1.hok.fresh (Nat.le_refl _))⟩
    have hb : b < h'.objs.size := Heap.lt_size e
    rw [PyProof.Rows.sortedHeap_old (Nat.ne_of_lt hb) (by rw [size_push']; exact Nat.lt_succ_of_lt hb)]
    exact Heap.get?_push_of_some _ e
def rSortedLD (K : PySem.W.Frag) : List V → Hp → VK → Prop := fun vs H Q => ∃ (l : Addr) (bs : List Addr) (enc : Addr → List PyData), vs = [.ref l] ∧ SqL K H l (bs.map V.ref) ∧ TupsD H enc bs ∧
  ∀ (p : Addr), H p = none → Q (.ref p) (upd H p (.lst ((srtD enc bs).map V.ref)))
end Sw

end

section
set_option maxRecDepth 100000
set_option maxHeartbeats 2000000
/-! SwSc: comprehensions of one and of two clauses over any new thing (a set of ints, a dict): the loops once, by what the new thing's step does. -/
namespace L2
open PySem PySem.Spec PyProof.Rows

/-- a comprehension that is no frame of its own -/
structure CoB (prog : Program) (w : World) (e : Expr) : Prop where
  loop : ∀ d it acc env, (model prog w).den (.compLoop e d it acc env) = (compTurn e d it acc env).onRaise (fun x => do noteFrame x env; theTreesLotGoes x)
  start : ∀ d it acc env, (model prog w).den (.compStart e d it acc env) = (compStart e d it acc env).onRaise (fun x => do noteFrame x env; standAt theWindowsPlace)
  lu : ∀ (A : Around) d it acc env, A.under (.compLoop e d it acc env) = A
  su : ∀ (A : Around) d it acc env, A.under (.compStart e d it acc env) = A
  lq : ∀ d it acc env, (Code.compLoop e d it acc env).quiet = true
/-- its last clause's turn -/
def LastC (e : Expr) (d : Nat) (t i : Expr) (ifs : List Expr) (tail : Value → Env → Sem Unit) : Prop := ∀ it acc env,
  compTurn e d it acc env = (do
      standAt i.pos
      match ← pyNext it with
      | none => pure (.done .next)
      | some v =>
        letOwnedTupleGo t it v
        assign t env v
        let mut ok := true
        for c in ifs do
          if ok then ok ← isTrue c env (eval c env)
        if ok then tail acc env
        again (.compLoop e d it acc env))
/-- a clause's turn with one more behind it -/
def MoreC (e : Expr) (t i : Expr) (ifs : List Expr) (i1 : Expr) : Prop := ∀ it acc env,
  compTurn e 0 it acc env = (do
      standAt i.pos
      match ← pyNext it with
      | none => pure (.done .next)
      | some v =>
        letOwnedTupleGo t it v
        assign t env v
        let mut ok := true
        for c in ifs do
          if ok then ok ← isTrue c env (eval c env)
        if ok then
          let y ← eval i1 env
          standAt i1.pos
          let y ← foldedSetIterable i1 env y
          let _ ← runOwn (.compStart e 1 (← holding [y] (pyIter y)) acc env) env
        again (.compLoop e 0 it acc env))

section
variable {prog : Program} {w : World} {A : Around} {R : Result → Shared → Prop} {s : Shared} {e t i i1 : Expr} {ifs : List Expr} {it acc : Value} {env : Env} {tail : Value → Env → Sem Unit} {d : Nat}
/-- what a test of a clause comes to -/
abbrev testsOf (ifs : List Expr) (env : Env) : Sem Bool := forIn ifs true fun c r => if r = true then do let ok ← isTrue c env (eval c env); pure (ForInStep.yield ok) else pure (ForInStep.yield r)
theorem co_last (B : CoB prog w e) (L : LastC e d t i ifs tail) (I : Nat → Shared → Prop)
    (turn : ∀ n s, I n s → wpAny (model prog w) A (pyNext it) (fun r s₁ => match r with
      | none => R (.ok .next) s₁
      | some v => wpAny (model prog w) A (letOwnedTupleGo t it v) (fun _ s₁' => wpAny (model prog w) A (assign t env v) (fun _ s₂ =>
          wpAny (model prog w) A (testsOf ifs env) (fun ok s₃ =>
            if ok = true then wpAny (model prog w) A (tail acc env) (fun _ s₅ => ∃ m, m < n ∧ I m s₅) (notedBy (model prog w) A env fun e s' => R (.error e) s') s₃
            else ∃ m, m < n ∧ I m s₃) (notedBy (model prog w) A env fun e s' => R (.error e) s') s₂) (notedBy (model prog w) A env fun e s' => R (.error e) s') s₁') (notedBy (model prog w) A env fun e s' => R (.error e) s') s₁) (notedBy (model prog w) A env fun e s' => R (.error e) s') s)
    (n : Nat) (h : I n s) : codeAny (model prog w) A (.compLoop e d it acc env) R s := by
  refine codeAny_loop (B.lq _ _ _ _) I (fun n s hI => ?_) n h
  rw [B.lu, B.loop]
  refine wpAny_noted ?_
  rw [L]
  refine wpAny_bind (wpAny_standAt (wpAny_bind (wpAny_mono (turn n s hI) (fun r s₁ h₁ => ?_) fun _ _ h' => h')))
  cases r with
  | none => exact wpAny_pure h₁
  | some v =>
    refine wpAny_bind (wpAny_mono h₁ (fun _ s₁' h₁' => ?_) fun _ _ h' => h')
    refine wpAny_bind (wpAny_mono h₁' (fun _ s₂ h₂ => wpAny_bind (wpAny_mono h₂ (fun ok s₃ h₃ => ?_) fun _ _ h' => h')) fun _ _ h' => h')
    cases ok with
    | false => exact wpAny_pure ⟨rfl, h₃⟩
    | true => exact wpAny_bind (wpAny_mono h₃ (fun _ s₅ h₅ => wpAny_pure ⟨rfl, h₅⟩) fun _ _ h' => h')
theorem co_more (B : CoB prog w e) (L : MoreC e t i ifs i1) (hs : ∀ x, foldedSetIterable i1 env x = pure x) (I : Nat → Shared → Prop)
    (turn : ∀ n s, I n s → wpAny (model prog w) A (pyNext it) (fun r s₁ => match r with
      | none => R (.ok .next) s₁
      | some v => wpAny (model prog w) A (letOwnedTupleGo t it v) (fun _ s₁' => wpAny (model prog w) A (assign t env v) (fun _ s₂ =>
          wpAny (model prog w) A (testsOf ifs env) (fun ok s₃ =>
            if ok = true then wpAny (model prog w) A (eval i1 env) (fun y s₄ => wpAny (model prog w) A (pyIter y) (fun it1 s₅ =>
              codeAny (model prog w) A (.compStart e 1 it1 acc env) (fun r s' => match r with
                | .ok _ => ∃ m, m < n ∧ I m s'
                | .error _ => False) s₅) (notedBy (model prog w) A env fun e s' => R (.error e) s') s₄) (notedBy (model prog w) A env fun e s' => R (.error e) s') s₃
            else ∃ m, m < n ∧ I m s₃) (notedBy (model prog w) A env fun e s' => R (.error e) s') s₂) (notedBy (model prog w) A env fun e s' => R (.error e) s') s₁') (notedBy (model prog w) A env fun e s' => R (.error e) s') s₁) (notedBy (model prog w) A env fun e s' => R (.error e) s') s)
    (n : Nat) (h : I n s) : codeAny (model prog w) A (.compLoop e 0 it acc env) R s := by
  refine codeAny_loop (B.lq _ _ _ _) I (fun n s hI => ?_) n h
  rw [B.lu, B.loop]
  refine wpAny_noted ?_
  rw [L]
  refine wpAny_bind (wpAny_standAt (wpAny_bind (wpAny_mono (turn n s hI) (fun r s₁ h₁ => ?_) fun _ _ h' => h')))
  cases r with
  | none => exact wpAny_pure h₁
  | some v =>
    refine wpAny_bind (wpAny_mono h₁ (fun _ s₁' h₁' => ?_) fun _ _ h' => h')
    refine wpAny_bind (wpAny_mono h₁' (fun _ s₂ h₂ => wpAny_bind (wpAny_mono h₂ (fun ok s₃ h₃ => ?_) fun _ _ h' => h')) fun _ _ h' => h')
    cases ok with
    | false => exact wpAny_pure ⟨rfl, h₃⟩
    | true =>
      refine wpAny_bind (wpAny_mono h₃ (fun y s₄ h₄ => ?_) fun _ _ h' => h')
      refine wpAny_bind (wpAny_standAt (wpAny_bind (wpAny_of_eq (hs y) (wpAny_bind (wpAny_holding (wpAny_mono h₄ (fun it1 s₅ h₅ => ?_) fun _ _ h' => h'))))))
      refine wpAny_bind (wpAny_runOwn ?_)
      rw [Around.mark_none]
      refine codeAny_mono h₅ fun r s' hr => ?_
      cases r with
      | ok f =>
        first
          | exact wpAny_pure ⟨rfl, hr⟩
          | exact wpAny_bind (wpAny_pure (wpAny_pure ⟨rfl, hr⟩))
      | error e => exact hr.elim
/-- a clause's start -/
theorem co_start {g : Comprehension} (B : CoB prog w e) (hg : (clausesOf e)[d]? = some g) (h2 : g.is_async = 0)
    (h0 : codeAny (model prog w) A (.compLoop e d it acc env) R s)
    (h : wpAny (model prog w) A (pyIter it) (fun it' s' => codeAny (model prog w) A (.compLoop e d it' acc env) R s') (notedBy (model prog w) A env fun x s' => R (.error x) s') s) :
    codeAny (model prog w) A (.compStart e d it acc env) R s := by
  refine codeAny_of_tree ?_
  rw [B.su, B.start]
  refine wpAny_notedAt ?_
  unfold compStart
  rw [hg]
  have e2 : (Option.elim (some g) false fun x => x.is_async != 0) = false := by
    show (g.is_async != 0) = false
    rw [h2]
    rfl
  rw [e2]
  have q := B.lq d
  show wpAny _ _ (ask >>= _) _ _ s
  refine wpAny_bind (wpAny_askSetting (wpAny_ite ?_))
  split
  · first
      | exact wpAny_bind (wpAny_pure (wpAny_pure (And.intro (q _ _ _) h0)))
      | exact wpAny_pure (And.intro (q _ _ _) h0)
  · refine wpAny_bind (wpAny_rule ?_)
    show wpAny _ _ (standAt g.iter.pos >>= _) _ _ s
    first
      | exact wpAny_bind (wpAny_standAt (wpAny_bind (wpAny_mono h (fun it' s' h' => wpAny_pure (And.intro (q _ _ _) h')) fun _ _ x => x)))
      | exact wpAny_bind (wpAny_standAt (wpAny_mono h (fun it' s' h' => wpAny_pure (And.intro (q _ _ _) h')) fun _ _ x => x))
end

/-- the new thing and the step: what `tail` does to the thing at D in the block, read as tl -/
def TailR := Addr → St → Hp → (Hp → Prop) → Prop
structure PTl (X : Cx) (tail : Value → Env → Sem Unit) (tl : TailR) : Prop where
  run : ∀ pins s σ H D (Nx : Hp → Prop), Inv X pins σ H s → tl D σ H Nx → wpAny (model X.prog X.w) X.A (tail (.ref D) X.env) (fun _ s' => ∃ H', Inv X pins σ H' s' ∧ Nx H') X.xe s
/-- the new thing -/
structure NewO (X : Cx) (fresh : Sem Value) (O0 : Addr → HO) : Prop where
  run : ∀ pins s σ H (Q : Value → Shared → Prop), Inv X pins σ H s →
    (∀ o0 : Obj, (let s3 : Shared := { s with heap := s.heap.push o0 }; Inv X pins σ (upd H s.heap.objs.size (O0 s.heap.objs.size)) s3 → Q (.ref s.heap.objs.size) s3)) → wpAny (model X.prog X.w) X.A fresh Q X.xe s

section
variable {X : Cx}
/-- one clause -/
def tC1 (O0 : Addr → HO) (wi : TI) (g : TG) (tt : TT) (tl : TailR) (vs : List Nat) : TE := fun σ H Q => wi σ H fun J H1 => ∀ D, H1 D = none → ∃ W : Nat → Nat → Hp → Prop, (∃ m, W 0 m (upd H1 D (O0 D))) ∧ ∀ i m H, W i m H →
  (J.stop i H ∧ Q (.ref D) H) ∨ (J.go i H ∧ ∃ Nx : Hp → Prop, (∀ H', Nx H' → ∃ m', m' < m ∧ W (i + 1) m' H') ∧ ∀ x H', J.yld i H x H' → g x (wipe σ vs) H' fun σ2 H2 => wipe σ2 vs = wipe σ vs ∧ tt σ2 H2 fun b H3 =>
    if b = true then tl D σ2 H3 Nx else Nx H3)
/-- two clauses -/
def tC2 (O0 : Addr → HO) (wi : TI) (g : TG) (tt : TT) (wi1 : TI) (g1 : TG) (tt1 : TT) (tl : TailR) (vs vs1 : List Nat) : TE := fun σ H Q => wi σ H fun J H1 => ∀ D, H1 D = none → ∃ W : Nat → Nat → Hp → Prop, (∃ m, W 0 m (upd H1 D (O0 D))) ∧ ∀ i m H, W i m H →
  (J.stop i H ∧ Q (.ref D) H) ∨ (J.go i H ∧ ∃ Nx : Hp → Prop, (∀ H', Nx H' → ∃ m', m' < m ∧ W (i + 1) m' H') ∧ ∀ x H', J.yld i H x H' → g x (wipe σ vs) H' fun σ2 H2 => wipe σ2 vs = wipe σ vs ∧ tt σ2 H2 fun b H3 =>
    if b = true then wi1 σ2 H3 fun J1 H4 => ∃ W1 : Nat → Nat → Hp → Prop, (∃ m, W1 0 m H4) ∧ ∀ j k H, W1 j k H →
      (J1.stop j H ∧ Nx H) ∨ (J1.go j H ∧ ∃ Nx1 : Hp → Prop, (∀ H', Nx1 H' → ∃ k', k' < k ∧ W1 (j + 1) k' H') ∧ ∀ x H', J1.yld j H x H' → g1 x (wipe σ2 vs1) H' fun σ3 H5 => wipe σ3 vs1 = wipe σ2 vs1 ∧ tt1 σ3 H5 fun b H6 =>
        if b = true then tl D σ3 H6 Nx1 else Nx1 H6)
    else Nx H3)

/-- the common part: from the first source to the block's first loop -/
theorem co_core {pins : List (Addr × Obj)} {s : Shared} {σ : St} {H : Hp} {Q : VK} {e tg iter : Expr} {ifs : List Expr} {gs : List Comprehension} {scope : Scope} {own : List (Str × Nat)} {pos' : Pos} {wi : TI} {g : TG} {tt : TT} {fresh : Sem Value} {O0 : Addr → HO} {use : Option (Value → Sem Unit)} {Qf : Value → Shared → Prop}
    {body : Addr → St → Hp → (Hp → Prop) → Prop}
    (hc : X.calm = true) (hN : X.N.Nodup) (I : Inv X pins σ H s) (hi : PI X tg iter wi) (ok : BlkOk X.N X.env.scope scope own) (B : CoB X.prog X.w e) (hcl : clausesOf e = ⟨tg, iter, ifs, 0⟩ :: gs) (F : NewO X fresh O0)
    (hg : ∀ (s : Shared) (H : Hp) (C : Addr) (cl : List (Str × Addr)) (fp : List Addr), PG (X.blk s H scope (compEnvC scope cl C X.env) fp) tg g) (ht : ∀ (s : Shared) (H : Hp) (C : Addr) (cl : List (Str × Addr)) (fp : List Addr), PTs (X.blk s H scope (compEnvC scope cl C X.env) fp) ifs tt)
    (hs : ∀ x, foldedSetIterable iter X.env x = pure x)
    -- what the turn's body does, whatever the block
    (hb : ∀ (sb : Shared) (Hb : Hp) (C : Addr) (cl : List (Str × Addr)) (fp : List Addr) (D it : Addr), ∀ R : Result → Shared → Prop, ∀ I0 : Nat → Shared → Prop,
      (∀ n s', I0 n s' → wpAny (model X.prog X.w) X.A (pyNext (.ref it)) (fun r s₁ => match r with
        | none => R (.ok .next) s₁
        | some v => wpAny (model X.prog X.w) X.A (letOwnedTupleGo tg (.ref it) v) (fun _ s₂ => wpAny (model X.prog X.w) X.A (assign tg (compEnvC scope cl C X.env) v) (fun _ s₃ =>
            wpAny (model X.prog X.w) X.A (testsOf ifs (compEnvC scope cl C X.env)) (fun okb s₄ => if okb = true then
              (∃ pins' σ' H' Nx, Inv (X.blk sb Hb scope (compEnvC scope cl C X.env) fp) pins' σ' H' s₄ ∧ body D σ' H' Nx ∧
                ∀ σ9 s9 H9, Inv (X.blk sb Hb scope (compEnvC scope cl C X.env) fp) pins' σ9 H9 s9 → σ9.length = σ'.length → (∀ (j : Nat) v, j ∉ own.map (·.2) → σ'[j]? = some (some v) → σ9[j]? = some (some v)) → Nx H9 → ∃ m, m < n ∧ I0 m s9)
              else ∃ m, m < n ∧ I0 m s₄) (fun _ _ => False) s₃) (fun _ _ => False) s₂) (fun _ _ => False) s₁) (fun _ _ => False) s') →
      ∀ n s', I0 n s' → codeAny (model X.prog X.w) X.A (.compLoop e 0 (.ref it) (.ref D) (compEnvC scope cl C X.env)) R s')
    (h : wi σ H fun J H1 => ∀ D, H1 D = none → ∃ W : Nat → Nat → Hp → Prop, (∃ m, W 0 m (upd H1 D (O0 D))) ∧ ∀ i m H, W i m H →
      (J.stop i H ∧ Q (.ref D) H) ∨ (J.go i H ∧ ∃ Nx : Hp → Prop, (∀ H', Nx H' → ∃ m', m' < m ∧ W (i + 1) m' H') ∧ ∀ x H', J.yld i H x H' → g x (wipe σ (own.map (·.2))) H' fun σ2 H2 => wipe σ2 (own.map (·.2)) = wipe σ (own.map (·.2)) ∧ tt σ2 H2 fun b H3 =>
        if b = true then body D σ2 H3 Nx else Nx H3))
    (hRR : ∀ D C s' m H', Inv X pins σ H' s' → Q (.ref D) H' → s'.heap.Ns C m → FpOk X pins H' C → compPost (model X.prog X.w) X.A X.xe use Qf (.ref D) C (.ok .next) s') :
    wpAny (model X.prog X.w) X.A (comprehension e scope X.env pos' fresh false (eval iter X.env) use) Qf X.xe s := by
  have hfree : ∀ y ∈ scope.names, y.2 = .free → ∃ c, X.env.cells.lookup y.1 = some c := fun y hy e => by
    rcases ok.free y hy e with k | k
    · exact I.ok.has _ (.inl k)
    · exact I.ok.has _ (.inr k)
  refine wpAny_comprehension_free (use := use) hcl hs (closure_ok hfree) ok.kind (fun y hy e => by rw [ok.uniq y hy, e])
    (thn (hi.run pins s σ H _ I h) fun xv s1 hx => thn hx fun itv s2 h2 => ?_)
  obtain ⟨it, fp, tn, J, H2, e1, I2, T, st2, f2, q⟩ := h2
  subst e1
  refine F.run pins s2 σ H2 _ I2 fun o0 I3 => ?_
  refine newEnv_comp ?_
  generalize hD : s2.heap.objs.size = D at I3 ⊢
  have hDn : H2 D = none := I2.hok.fresh (Nat.le_of_eq hD)
  obtain ⟨W, ⟨m0, w0⟩, turn⟩ := q D hDn
  generalize hs3 : ({ s2 with heap := s2.heap.push o0 } : Shared) = s3 at I3
  have h3 : s3.heap = s2.heap.push o0 := by rw [← hs3]
  have sz : ∀ b ∈ fp, b < s2.heap.objs.size := fun b hb => by
    obtain ⟨o, e, _⟩ := T.obj _ _ st2 b hb
    exact Heap.lt_size e
  have f3 : ∀ b ∈ fp, FpOk X pins (upd H2 D (O0 D)) b ∧ b < s3.heap.objs.size := fun b hb => by
    have hlt := sz b hb
    refine ⟨⟨?_, (f2 b hb).2⟩, by rw [h3, Heap.size_push]; exact Nat.lt_succ_of_lt hlt⟩
    rw [upd_ne (by rw [← hD]; exact Nat.ne_of_lt hlt)]
    exact (f2 b hb).1
  have st3 : tn 0 s3.heap := T.keep _ _ _ st2 fun b _ o e => by rw [h3]; exact Heap.get?_push_of_some _ e
  have I4 := block_start I3 ok hN f3
  have pg := hg s3 (upd H2 D (O0 D)) s3.heap.objs.size (cellsFrom (s3.heap.objs.size + 1) scope.names (cloFrom X.env.cells scope.names [])) fp
  have pt := ht s3 (upd H2 D (O0 D)) s3.heap.objs.size (cellsFrom (s3.heap.objs.size + 1) scope.names (cloFrom X.env.cells scope.names [])) fp
  have pb := hb s3 (upd H2 D (O0 D)) s3.heap.objs.size (cellsFrom (s3.heap.objs.size + 1) scope.names (cloFrom X.env.cells scope.names [])) fp D it
  show codeAny _ _ (.compStart e 0 (.ref it) (.ref D) (compEnvC scope (cellsFrom (s3.heap.objs.size + 1) scope.names (cloFrom X.env.cells scope.names [])) s3.heap.objs.size X.env)) (compPost (model X.prog X.w) X.A X.xe use Qf (.ref D) s3.heap.objs.size) { s3 with heap := pushCells (s3.heap.push { cls := .type "dict", data := .dict #[] }) scope.names }
  have nfp : ∀ b ∈ fp, (upd H2 D (O0 D)) b = none := fun b hb => (f3 b hb).1.1
  generalize hce : compEnvC scope (cellsFrom (s3.heap.objs.size + 1) scope.names (cloFrom X.env.cells scope.names [])) s3.heap.objs.size X.env = ce at I4 pg pt pb ⊢
  have cL : ce.locals = s3.heap.objs.size := by subst hce; rfl
  generalize hH3 : upd H2 D (O0 D) = H3 at I3 I4 pg pt pb w0 nfp f3
  generalize hs4 : ({ s3 with heap := pushCells (s3.heap.push { cls := .type "dict", data := .dict #[] }) scope.names } : Shared) = s4 at I4 ⊢
  have st4 : tn 0 s4.heap := T.keep _ _ _ st3 fun b _ o e => by rw [← hs4]; exact pushCells_keeps _ _ _ _ (Heap.get?_push_of_some _ e)
  have stat : ∀ {σ' : St} {H' : Hp} {s' : Shared}, Inv (X.blk s3 H3 scope ce fp) [] σ' H' s' → (∀ b ∈ fp, H' b = none) → ∀ b ∈ fp, FpOk (X.blk s3 H3 scope ce fp) [] H' b := fun {σ' H' s'} I' hn b hb =>
    ⟨hn b hb, (I'.ok.exf b hb).1, I'.ok.exfs b hb, .inl hb, fun x c e => (I'.ok.exf b hb).2 x c e, fun p hp => absurd (show p ∈ ([] : List (Addr × Obj)) ++ [] from hp) (by simp)⟩
  have loop : codeAny (model X.prog X.w) X.A (.compLoop e 0 (.ref it) (.ref D) ce) (compPost (model X.prog X.w) X.A X.xe use Qf (.ref D) s3.heap.objs.size) s4 := by
    refine pb _ (fun n s' => ∃ i H', Inv (X.blk s3 H3 scope ce fp) [] (wipe σ (own.map (·.2))) H' s' ∧ tn i s'.heap ∧ (∀ b ∈ fp, H' b = none) ∧ W i n H') ?_ m0 s4 ⟨0, H3, I4, st4, nfp, w0⟩
    rintro n s5 ⟨i, H5, I5, st5, n5, w5⟩
    rcases turn i n H5 w5 with ⟨stop, qq⟩ | ⟨go, Nx, hNx, step⟩
    · have td := T.done (X.blk s3 H3 scope ce fp) rfl rfl rfl hc i [] s5 _ H5 (fun _ _ => False) I5 (stat I5 n5) st5 stop
      refine thnF td fun r s6 ⟨hr, I6⟩ => ?_
      subst hr
      have I7 : Inv X pins σ H5 s6 := I3.call' (ch := fp) I6.os I6.base I6.hok I6.bare fun b hb => ⟨(f3 b hb).1.2.2.2.1, (f3 b hb).1.2.1, (f3 b hb).1.2.2.2.2.1, (f3 b hb).1.2.2.2.2.2⟩
      have nC : H5 s3.heap.objs.size = none := by
        have z : H5 ce.locals = none := I6.free
        rw [cL] at z
        exact z
      obtain ⟨m, hn, _⟩ := I6.loc
      have hn : s6.heap.Ns ce.locals m := hn
      rw [cL] at hn
      exact hRR D s3.heap.objs.size s6 m H5 I7 qq hn (I3.fpOk (Nat.le_refl _) nC)
    · have ti := T.item (X.blk s3 H3 scope ce fp) rfl rfl rfl hc i [] s5 _ H5 (fun _ _ => False) I5 (stat I5 n5) st5 go
      refine thnF ti fun r s6 ⟨u, hr, h6⟩ => ?_
      subst hr
      refine thnF h6 fun _ s7 ⟨x, H7, I7, r7, y7, st7, n7⟩ => ?_
      have I7' := I7.pinned (stat I7 n7) (T.obj _ _ st7)
      refine thnF (pg.run _ s7 _ H7 x u _ I7' r7 (step x H7 y7)) fun _ s8 ⟨σ8, H8, I8, hw8, q8⟩ => ?_
      refine thnF (pt.run _ s8 σ8 H8 _ I8 q8) fun b s9 ⟨H9, I9, q9⟩ => ?_
      have hl8 : (wipe σ (own.map (·.2))).length = σ8.length := by rw [← hw8, wipe_length]
      have fin : ∀ {σ9 : St} {s' : Shared} {H' : Hp}, Inv (X.blk s3 H3 scope ce fp) ([] ++ pinsAt fp s7.heap) σ9 H' s' → σ9.length = σ8.length → (∀ (j : Nat) v, j ∉ own.map (·.2) → σ8[j]? = some (some v) → σ9[j]? = some (some v)) → Nx H' →
          ∃ m, m < n ∧ ∃ i H', Inv (X.blk s3 H3 scope ce fp) [] (wipe σ (own.map (·.2))) H' s' ∧ tn i s'.heap ∧ (∀ b ∈ fp, H' b = none) ∧ W i m H' := fun {σ9 s' H'} I' hl hk nx => by
        obtain ⟨m', hm, w'⟩ := hNx H' nx
        have pin' : ∀ b ∈ fp, ∀ o, s7.heap.get? b = some o → s'.heap.get? b = some o ∧ H' b = none := fun b hb o e =>
          let z := I'.pin (b, o) (List.mem_append_right _ (List.mem_append_right _ (mem_pinsAt hb e)))
          ⟨z.1, z.2.1⟩
        refine ⟨m', hm, i + 1, H', (I'.unpinned (pins := [])).weak (hl8.trans hl.symm) (fun j v e => ?_), T.keep _ _ _ st7 fun b hb o e => (pin' b hb o e).1, fun b hb => ?_, w'⟩
        · rw [← hw8] at e
          have z := wipe_some e
          exact hk j v z.2 z.1
        · obtain ⟨o, e, _⟩ := T.obj _ _ st7 b hb
          exact (pin' b hb o e).2
      cases b with
      | false =>
        simp only [Bool.false_eq_true, if_false] at q9 ⊢
        exact fin I9 rfl (fun j v _ e => e) q9
      | true =>
        simp only [if_true] at q9 ⊢
        exact ⟨_, σ8, H9, Nx, I9, q9, fun σ9 s9 H9 I' hl hk nx => fin I' hl hk nx⟩
  exact co_start B (d := 0) (g := ⟨tg, iter, ifs, 0⟩) (by rw [hcl]; rfl) rfl loop (T.self X.A 0 _ _ _ st4 loop)

/-- one clause, whatever the new thing -/
theorem co1 {pins : List (Addr × Obj)} {s : Shared} {σ : St} {H : Hp} {Q : VK} {e tg iter : Expr} {ifs : List Expr} {scope : Scope} {own : List (Str × Nat)} {pos' : Pos} {wi : TI} {g : TG} {tt : TT} {tl : TailR} {tail : Value → Env → Sem Unit} {fresh : Sem Value} {O0 : Addr → HO} {use : Option (Value → Sem Unit)} {Qf : Value → Shared → Prop}
    (hc : X.calm = true) (hN : X.N.Nodup) (I : Inv X pins σ H s) (hi : PI X tg iter wi) (ok : BlkOk X.N X.env.scope scope own) (B : CoB X.prog X.w e) (hcl : clausesOf e = [⟨tg, iter, ifs, 0⟩]) (L : LastC e 0 tg iter ifs tail) (F : NewO X fresh O0)
    (hg : ∀ (s : Shared) (H : Hp) (C : Addr) (cl : List (Str × Addr)) (fp : List Addr), PG (X.blk s H scope (compEnvC scope cl C X.env) fp) tg g) (ht : ∀ (s : Shared) (H : Hp) (C : Addr) (cl : List (Str × Addr)) (fp : List Addr), PTs (X.blk s H scope (compEnvC scope cl C X.env) fp) ifs tt)
    (htl : ∀ (s : Shared) (H : Hp) (C : Addr) (cl : List (Str × Addr)) (fp : List Addr), PTl (X.blk s H scope (compEnvC scope cl C X.env) fp) tail tl)
    (hs : ∀ x, foldedSetIterable iter X.env x = pure x)
    (h : tC1 O0 wi g tt tl (own.map (·.2)) σ H Q)
    (hRR : ∀ D C s' m H', Inv X pins σ H' s' → Q (.ref D) H' → s'.heap.Ns C m → FpOk X pins H' C → compPost (model X.prog X.w) X.A X.xe use Qf (.ref D) C (.ok .next) s') :
    wpAny (model X.prog X.w) X.A (comprehension e scope X.env pos' fresh false (eval iter X.env) use) Qf X.xe s := by
  refine co_core (body := tl) hc hN I hi ok B hcl F hg ht hs ?_ h hRR
  intro sb Hb C cl fp D it R I0 turn n s' hI
  refine co_last B L I0 (fun n s1 h1 => thnF (turn n s1 h1) fun r s2 h2 => ?_) n hI
  cases r with
  | none => exact h2
  | some v =>
    dsimp only at h2 ⊢
    refine thnF h2 fun _ s3 h3 => thnF h3 fun _ s4 h4 => thnF h4 fun okb s5 h5 => ?_
    cases okb with
    | false => exact h5
    | true =>
      simp only [if_true] at h5 ⊢
      obtain ⟨pins', σ', H', Nx, I', b', fin⟩ := h5
      exact thnF ((htl sb Hb C cl fp).run pins' s5 σ' H' D Nx I' b') fun _ s6 ⟨H6, I6, q6⟩ => fin σ' s6 H6 I6 rfl (fun j v _ e => e) q6
/-- two clauses, whatever the new thing -/
theorem co2 {pins : List (Addr × Obj)} {s : Shared} {σ : St} {H : Hp} {Q : VK} {e tg iter tg1 iter1 : Expr} {ifs ifs1 : List Expr} {scope : Scope} {own : List (Str × Nat)} {vs1 : List Nat} {pos' : Pos} {wi wi1 : TI} {g g1 : TG} {tt tt1 : TT} {tl : TailR} {tail : Value → Env → Sem Unit} {fresh : Sem Value} {O0 : Addr → HO} {use : Option (Value → Sem Unit)} {Qf : Value → Shared → Prop}
    (hc : X.calm = true) (hN : X.N.Nodup) (I : Inv X pins σ H s) (hi : PI X tg iter wi) (ok : BlkOk X.N X.env.scope scope own) (hv : ∀ i ∈ vs1, i ∈ own.map (·.2)) (B : CoB X.prog X.w e) (hcl : clausesOf e = [⟨tg, iter, ifs, 0⟩, ⟨tg1, iter1, ifs1, 0⟩])
    (M : MoreC e tg iter ifs iter1) (L : LastC e 1 tg1 iter1 ifs1 tail) (F : NewO X fresh O0)
    (hg : ∀ (s : Shared) (H : Hp) (C : Addr) (cl : List (Str × Addr)) (fp : List Addr), PG (X.blk s H scope (compEnvC scope cl C X.env) fp) tg g) (ht : ∀ (s : Shared) (H : Hp) (C : Addr) (cl : List (Str × Addr)) (fp : List Addr), PTs (X.blk s H scope (compEnvC scope cl C X.env) fp) ifs tt)
    (hi1 : ∀ (s : Shared) (H : Hp) (C : Addr) (cl : List (Str × Addr)) (fp : List Addr), PI (X.blk s H scope (compEnvC scope cl C X.env) fp) tg1 iter1 wi1)
    (hg1 : ∀ (s : Shared) (H : Hp) (C : Addr) (cl : List (Str × Addr)) (fp : List Addr), PG (X.blk s H scope (compEnvC scope cl C X.env) fp) tg1 g1) (ht1 : ∀ (s : Shared) (H : Hp) (C : Addr) (cl : List (Str × Addr)) (fp : List Addr), PTs (X.blk s H scope (compEnvC scope cl C X.env) fp) ifs1 tt1)
    (htl : ∀ (s : Shared) (H : Hp) (C : Addr) (cl : List (Str × Addr)) (fp : List Addr), PTl (X.blk s H scope (compEnvC scope cl C X.env) fp) tail tl)
    (hs : ∀ x, foldedSetIterable iter X.env x = pure x) (hs1 : ∀ env x, foldedSetIterable iter1 env x = pure x)
    (h : tC2 O0 wi g tt wi1 g1 tt1 tl (own.map (·.2)) vs1 σ H Q)
    (hRR : ∀ D C s' m H', Inv X pins σ H' s' → Q (.ref D) H' → s'.heap.Ns C m → FpOk X pins H' C → compPost (model X.prog X.w) X.A X.xe use Qf (.ref D) C (.ok .next) s') :
    wpAny (model X.prog X.w) X.A (comprehension e scope X.env pos' fresh false (eval iter X.env) use) Qf X.xe s := by
  refine co_core (body := fun D σ2 H3 Nx => wi1 σ2 H3 fun J1 H4 => ∃ W1 : Nat → Nat → Hp → Prop, (∃ m, W1 0 m H4) ∧ ∀ j k H, W1 j k H →
      (J1.stop j H ∧ Nx H) ∨ (J1.go j H ∧ ∃ Nx1 : Hp → Prop, (∀ H', Nx1 H' → ∃ k', k' < k ∧ W1 (j + 1) k' H') ∧ ∀ x H', J1.yld j H x H' → g1 x (wipe σ2 vs1) H' fun σ3 H5 => wipe σ3 vs1 = wipe σ2 vs1 ∧ tt1 σ3 H5 fun b H6 =>
        if b = true then tl D σ3 H6 Nx1 else Nx1 H6)) hc hN I hi ok B hcl F hg ht hs ?_ h hRR
  intro sb Hb C cl fp D it R I0 turn n s' hI
  refine co_more B M (hs1 _) I0 (fun n s1 h1 => thnF (turn n s1 h1) fun r s2 h2 => ?_) n hI
  cases r with
  | none => exact h2
  | some v =>
    dsimp only at h2 ⊢
    refine thnF h2 fun _ s3 h3 => thnF h3 fun _ s4 h4 => thnF h4 fun okb s9 h5 => ?_
    cases okb with
    | false => exact h5
    | true =>
      simp only [if_true] at h5 ⊢
      obtain ⟨pins', σ8, H9, Nx, I9, q9, fin⟩ := h5
      refine thnF ((hi1 sb Hb C cl fp).run pins' s9 σ8 H9 _ I9 q9) fun xv s10 hx => thnF hx fun itv s11 h11 => ?_
      obtain ⟨it1, fp1, tn1, J1, H11, e1, I11, T1, st11, f11, W1, ⟨m1, w1⟩, turn1⟩ := h11
      subst e1
      have stat1 : ∀ {H' : Hp}, (∀ b ∈ fp1, H' b = none) → ∀ b ∈ fp1, FpOk (X.blk sb Hb scope (compEnvC scope cl C X.env) fp) pins' H' b := fun hn b hb => ⟨hn b hb, (f11 b hb).2⟩
      have loop1 : codeAny (model X.prog X.w) X.A (.compLoop e 1 (.ref it1) (.ref D) (compEnvC scope cl C X.env))
          (fun r s' => match r with
            | .ok _ => ∃ m, m < n ∧ I0 m s'
            | .error _ => False) s11 := by
        refine co_last B L (fun k s' => ∃ j H', Inv (X.blk sb Hb scope (compEnvC scope cl C X.env) fp) pins' (wipe σ8 vs1) H' s' ∧ tn1 j s'.heap ∧ (∀ b ∈ fp1, H' b = none) ∧ W1 j k H') ?_ m1 ⟨0, H11, I11.weak (wipe_length _ _) (fun j v e => (wipe_some e).1), st11, fun b hb => (f11 b hb).1, w1⟩
        rintro k s12 ⟨j, H12, I12, st12, n12, w12⟩
        rcases turn1 j k H12 w12 with ⟨stop1, nx1⟩ | ⟨go1, Nx1, hNx1, step1⟩
        · refine thnF (T1.done (X.blk sb Hb scope (compEnvC scope cl C X.env) fp) rfl rfl rfl hc j _ s12 (wipe σ8 vs1) H12 (fun _ _ => False) I12 (stat1 n12) st12 stop1) fun r s13 ⟨hr, I13⟩ => ?_
          subst hr
          exact fin _ s13 _ I13 (wipe_length σ8 vs1) (fun j v hj e => by rw [wipe_out fun z => hj (hv j z)]; exact e) nx1
        · refine thnF (T1.item (X.blk sb Hb scope (compEnvC scope cl C X.env) fp) rfl rfl rfl hc j _ s12 (wipe σ8 vs1) H12 (fun _ _ => False) I12 (stat1 n12) st12 go1) fun r s13 ⟨u1, hr, h13⟩ => ?_
          subst hr
          refine thnF h13 fun _ s14 ⟨x1, H14, I14, r14, y14, st14, n14⟩ => ?_
          have I14' := I14.pinned (stat1 n14) (T1.obj _ _ st14)
          refine thnF ((hg1 sb Hb C cl fp).run _ s14 (wipe σ8 vs1) H14 x1 u1 _ I14' r14 (step1 x1 H14 y14)) fun _ s15 ⟨σ15, H15, I15, hw15, q15⟩ => ?_
          refine thnF ((ht1 sb Hb C cl fp).run _ s15 σ15 H15 _ I15 q15) fun b1 s16 ⟨H16, I16, q16⟩ => ?_
          have fin1 : ∀ {s' : Shared} {H' : Hp}, Inv (X.blk sb Hb scope (compEnvC scope cl C X.env) fp) (pins' ++ pinsAt fp1 s14.heap) σ15 H' s' → Nx1 H' → ∃ m, m < k ∧ ∃ j H', Inv (X.blk sb Hb scope (compEnvC scope cl C X.env) fp) pins' (wipe σ8 vs1) H' s' ∧ tn1 j s'.heap ∧ (∀ b ∈ fp1, H' b = none) ∧ W1 j m H' := fun {s' H'} I' nx => by
            obtain ⟨m', hm, w'⟩ := hNx1 H' nx
            have pin' : ∀ b ∈ fp1, ∀ o, s14.heap.get? b = some o → s'.heap.get? b = some o ∧ H' b = none := fun b hb o e =>
              let z := I'.pin (b, o) (List.mem_append_right _ (List.mem_append_right _ (mem_pinsAt hb e)))
              ⟨z.1, z.2.1⟩
            refine ⟨m', hm, j + 1, H', I'.unpinned.weak (by rw [← hw15, wipe_length]) (fun j v e => by rw [← hw15] at e; exact (wipe_some e).1), T1.keep _ _ _ st14 fun b hb o e => (pin' b hb o e).1, fun b hb => ?_, w'⟩
            obtain ⟨o, e, _⟩ := T1.obj _ _ st14 b hb
            exact (pin' b hb o e).2
          cases b1 with
          | false =>
            simp only [Bool.false_eq_true, if_false] at q16 ⊢
            exact fin1 I16 q16
          | true =>
            simp only [if_true] at q16 ⊢
            exact thnF ((htl sb Hb C cl fp).run _ s16 σ15 H16 D Nx1 I16 q16) fun _ s17 ⟨H17, I17, q17⟩ => fin1 I17 q17
      exact co_start B (d := 1) (g := ⟨tg1, iter1, ifs1, 0⟩) (by rw [hcl]; rfl) rfl loop1 (T1.self X.A 0 _ _ _ st11 loop1)
/-- as a value -/
theorem co_val {pins : List (Addr × Obj)} {σ : St} {Q : VK} (D C : Addr) (s' : Shared) (m : Str → Option Value) (H' : Hp) (I' : Inv X pins σ H' s') (q : Q (.ref D) H') (hn : s'.heap.Ns C m) (f : FpOk X pins H' C) :
    compPost (model X.prog X.w) X.A X.xe none (EP X pins σ Q) (.ref D) C (.ok .next) s' := by
  refine ⟨m, hn, fun h'' sb => ?_⟩
  obtain ⟨f0, f1, f2, f3, f4, f5⟩ := f
  exact ⟨.ref D, H', I'.turned (t' := s'.toks) (fun b o hb e => (sb.2 b hb).trans e) f0 f1 f3 f4 f5, rfl, q⟩
end

/-! ### sets of ints -/
theorem cob_set {prog : Program} {w : World} (elt : Expr) (gs : List Comprehension) (scope : Scope) (pos : Pos) : CoB prog w (.SetComp elt gs scope pos) :=
  ⟨fun _ _ _ _ => rfl, fun _ _ _ _ => rfl, fun _ _ _ _ _ => rfl, fun _ _ _ _ _ => rfl, fun _ _ _ _ => rfl⟩
theorem cob_dict {prog : Program} {w : World} (kx vx : Expr) (gs : List Comprehension) (scope : Scope) (pos : Pos) : CoB prog w (.DictComp kx vx gs scope pos) :=
  ⟨fun _ _ _ _ => rfl, fun _ _ _ _ => rfl, fun _ _ _ _ _ => rfl, fun _ _ _ _ _ => rfl, fun _ _ _ _ => rfl⟩
def tailS (elt : Expr) : Value → Env → Sem Unit := fun acc env => do let v ← eval elt env; standAt elt.pos; let _ ← call (.builtin "set.add") [acc, v]
def tailD (kx vx : Expr) : Value → Env → Sem Unit := fun acc env => do
  let kv ← eval kx env
  let vv ← holding [kv] (eval vx env)
  match acc with
  | .ref d => do
    standAt { kx.pos with endLine := vx.pos.endLine, endCol := vx.pos.endCol }
    holding [kv, vv] (dictSet d kv vv)
  | _ => unsupported "internal:dictcomp"
section
variable {X : Cx}
/-- the step: a number goes into the set -/
def tlS (w : World) (te : TE) : TailR := fun D σ H Nx => te σ H fun y H4 => ∃ (c : Int) (S : Int → Bool) (n : Nat), y = .int c ∧ H4 D = some (SetO w D S n) ∧ n + 1 < scanBound ∧ Nx (upd H4 D (SetO w D (fun j => S j || decide (j = c)) (if S c = true then n else n + 1)))
theorem ptl_set {elt : Expr} {te : TE} (he : PE X elt te) : PTl X (tailS elt) (tlS X.w te) := ⟨fun pins s σ H D Nx I h => by
  unfold tailS
  refine wpAny_bind (thn (he.run pins s σ H _ I h) fun v s1 ⟨x, H1, I1, r1, c, S, n, ex, hD, room, q⟩ => ?_)
  subst ex
  obtain ⟨tk, rfl⟩ := r1
  refine wpAny_bind (wpAny_standAt (wpAny_bind ?_))
  refine setR_add (setO_get I1 hD) room fun h' sb new => ?_
  have hx : ∃ u, h'.get? D = some u := by
    have ⟨o, _, _, _, ho, _⟩ := new
    exact ⟨o, ho⟩
  exact wpAny_pure ⟨_, I1.write (e := D) (t' := s1.toks + 1) (by rw [hD]; trivial) (.inl rfl) (fun b u hb hu => (sb.2 b hb).trans hu) hx (setO_new new), q⟩⟩
theorem newo_set : NewO X (newSet (.type "set")) (fun D => SetO X.w D (fun _ => false) 0) := ⟨fun pins s σ H Q I h => by
  refine PpSet.newSet_ok (h _ ?_)
  exact I.laid (t' := s.toks) (fun b o e => Heap.get?_push_of_some _ e) (Nat.le_refl _) (setO_new (setR_fresh X.w))⟩
/-- the step: a key of ints or texts gets its value -/
def tlD (tk tv : TE) : TailR := fun D σ H Nx => tk σ H fun y H4 => tv σ H4 fun z H5 => ∃ kvs k, y = kV k ∧ H5 D = some (.dK kvs) ∧ kvs.length < sizeLine ∧ Nx (upd H5 D (.dK (putK kvs k z)))
theorem ptl_dict {kx vx : Expr} {tk tv : TE} (hk : PE X kx tk) (he : PE X vx tv) : PTl X (tailD kx vx) (tlD tk tv) := ⟨fun pins s σ H D Nx I h => by
  unfold tailD
  refine wpAny_bind (thn (hk.run pins s σ H _ I h) fun v s1 ⟨x, H1, I1, r1, q1⟩ => ?_)
  refine wpAny_bind (wpAny_holding (thn (he.run pins s1 σ H1 _ I1 q1) fun v2 s2 ⟨x2, H2, I2, r2, kvs, k, ek, hD, hz, q2⟩ => ?_))
  subst ek
  refine wpAny_bind (wpAny_standAt (wpAny_holding ?_))
  exact d_dictSet I2 hD hz r1 r2 fun s3 I3 => ⟨_, I3, q2⟩⟩
theorem newo_dict : NewO X newDict (fun _ => .dK []) := ⟨fun pins s σ H Q I h => by
  refine wpAny_newObj_type (h _ ?_)
  exact I.laid (t' := s.toks) (fun b o e => Heap.get?_push_of_some _ e) (Nat.le_refl _) (dk_empty s.heap I.big)⟩
variable {elt kx vx tg iter tg1 iter1 : Expr} {ifs ifs1 : List Expr} {scope : Scope} {own : List (Str × Nat)} {vs1 : List Nat} {pos : Pos} {wi wi1 : TI} {g g1 : TG} {tt tt1 : TT} {te tk tv : TE}
theorem pe_set1 (hc : X.calm = true) (hN : X.N.Nodup) (hi : PI X tg iter wi) (ok : BlkOk X.N X.env.scope scope own)
    (hg : ∀ (s : Shared) (H : Hp) (C : Addr) (cl : List (Str × Addr)) (fp : List Addr), PG (X.blk s H scope (compEnvC scope cl C X.env) fp) tg g) (ht : ∀ (s : Shared) (H : Hp) (C : Addr) (cl : List (Str × Addr)) (fp : List Addr), PTs (X.blk s H scope (compEnvC scope cl C X.env) fp) ifs tt)
    (he : ∀ (s : Shared) (H : Hp) (C : Addr) (cl : List (Str × Addr)) (fp : List Addr), PE (X.blk s H scope (compEnvC scope cl C X.env) fp) elt te) (hs : ∀ x, foldedSetIterable iter X.env x = pure x := by intro _; rfl) :
    PE X (.SetComp elt [⟨tg, iter, ifs, 0⟩] scope pos) (tC1 (fun D => SetO X.w D (fun _ => false) 0) wi g tt (tlS X.w te) (own.map (·.2))) := ⟨fun pins s σ H Q I h => by
  rw [PpSet.eval_SetComp]
  exact co1 (tail := tailS elt) (tl := tlS X.w te) hc hN I hi ok (cob_set _ _ _ _) rfl (fun _ _ _ => rfl) newo_set hg ht (fun s H C cl fp => ptl_set (he s H C cl fp)) hs h co_val⟩
theorem pe_set2 (hc : X.calm = true) (hN : X.N.Nodup) (hi : PI X tg iter wi) (ok : BlkOk X.N X.env.scope scope own) (hv : ∀ i ∈ vs1, i ∈ own.map (·.2))
    (hg : ∀ (s : Shared) (H : Hp) (C : Addr) (cl : List (Str × Addr)) (fp : List Addr), PG (X.blk s H scope (compEnvC scope cl C X.env) fp) tg g) (ht : ∀ (s : Shared) (H : Hp) (C : Addr) (cl : List (Str × Addr)) (fp : List Addr), PTs (X.blk s H scope (compEnvC scope cl C X.env) fp) ifs tt)
    (hi1 : ∀ (s : Shared) (H : Hp) (C : Addr) (cl : List (Str × Addr)) (fp : List Addr), PI (X.blk s H scope (compEnvC scope cl C X.env) fp) tg1 iter1 wi1)
    (hg1 : ∀ (s : Shared) (H : Hp) (C : Addr) (cl : List (Str × Addr)) (fp : List Addr), PG (X.blk s H scope (compEnvC scope cl C X.env) fp) tg1 g1) (ht1 : ∀ (s : Shared) (H : Hp) (C : Addr) (cl : List (Str × Addr)) (fp : List Addr), PTs (X.blk s H scope (compEnvC scope cl C X.env) fp) ifs1 tt1)
    (he : ∀ (s : Shared) (H : Hp) (C : Addr) (cl : List (Str × Addr)) (fp : List Addr), PE (X.blk s H scope (compEnvC scope cl C X.env) fp) elt te) (hs : ∀ x, foldedSetIterable iter X.env x = pure x := by intro _; rfl) (hs1 : ∀ env x, foldedSetIterable iter1 env x = pure x := by intro _ _; rfl) :
    PE X (.SetComp elt [⟨tg, iter, ifs, 0⟩, ⟨tg1, iter1, ifs1, 0⟩] scope pos) (tC2 (fun D => SetO X.w D (fun _ => false) 0) wi g tt wi1 g1 tt1 (tlS X.w te) (own.map (·.2)) vs1) := ⟨fun pins s σ H Q I h => by
  rw [PpSet.eval_SetComp]
  exact co2 (tail := tailS elt) (tl := tlS X.w te) hc hN I hi ok hv (cob_set _ _ _ _) rfl (fun _ _ _ => rfl) (fun _ _ _ => rfl) newo_set hg ht hi1 hg1 ht1 (fun s H C cl fp => ptl_set (he s H C cl fp)) hs hs1 h co_val⟩
theorem pe_dict2 (hc : X.calm = true) (hN : X.N.Nodup) (hi : PI X tg iter wi) (ok : BlkOk X.N X.env.scope scope own) (hv : ∀ i ∈ vs1, i ∈ own.map (·.2))
    (hg : ∀ (s : Shared) (H : Hp) (C : Addr) (cl : List (Str × Addr)) (fp : List Addr), PG (X.blk s H scope (compEnvC scope cl C X.env) fp) tg g) (ht : ∀ (s : Shared) (H : Hp) (C : Addr) (cl : List (Str × Addr)) (fp : List Addr), PTs (X.blk s H scope (compEnvC scope cl C X.env) fp) ifs tt)
    (hi1 : ∀ (s : Shared) (H : Hp) (C : Addr) (cl : List (Str × Addr)) (fp : List Addr), PI (X.blk s H scope (compEnvC scope cl C X.env) fp) tg1 iter1 wi1)
    (hg1 : ∀ (s : Shared) (H : Hp) (C : Addr) (cl : List (Str × Addr)) (fp : List Addr), PG (X.blk s H scope (compEnvC scope cl C X.env) fp) tg1 g1) (ht1 : ∀ (s : Shared) (H : Hp) (C : Addr) (cl : List (Str × Addr)) (fp : List Addr), PTs (X.blk s H scope (compEnvC scope cl C X.env) fp) ifs1 tt1)
    (hk : ∀ (s : Shared) (H : Hp) (C : Addr) (cl : List (Str × Addr)) (fp : List Addr), PE (X.blk s H scope (compEnvC scope cl C X.env) fp) kx tk)
    (he : ∀ (s : Shared) (H : Hp) (C : Addr) (cl : List (Str × Addr)) (fp : List Addr), PE (X.blk s H scope (compEnvC scope cl C X.env) fp) vx tv) (hs : ∀ x, foldedSetIterable iter X.env x = pure x := by intro _; rfl) (hs1 : ∀ env x, foldedSetIterable iter1 env x = pure x := by intro _ _; rfl) :
    PE X (.DictComp kx vx [⟨tg, iter, ifs, 0⟩, ⟨tg1, iter1, ifs1, 0⟩] scope pos) (tC2 (fun _ => .dK []) wi g tt wi1 g1 tt1 (tlD tk tv) (own.map (·.2)) vs1) := ⟨fun pins s σ H Q I h => by
  rw [arm_eval_DictComp]
  exact co2 (tail := tailD kx vx) (tl := tlD tk tv) hc hN I hi ok hv (cob_dict _ _ _ _ _) rfl (fun _ _ _ => rfl) (fun _ _ _ => rfl) newo_dict hg ht hi1 hg1 ht1 (fun s H C cl fp => ptl_dict (hk s H C cl fp) (he s H C cl fp)) hs hs1 h co_val⟩

/-- a name gets the dict -/
theorem ps_setDict2 {i : Nat} {y : Str} {py spos : Pos} (hc : X.calm = true) (hN : X.N.Nodup) (hy : X.N[i]? = some y) (hyl : X.env.scope.names.lookup y = some .local)
    (hsw : swapsWith (.DictComp kx vx [⟨tg, iter, ifs, 0⟩, ⟨tg1, iter1, ifs1, 0⟩] scope pos) (some (.Name y py)) spos.line X.env = pure true) (hi : PI X tg iter wi) (ok : BlkOk X.N X.env.scope scope own) (hv : ∀ i ∈ vs1, i ∈ own.map (·.2))
    (hg : ∀ (s : Shared) (H : Hp) (C : Addr) (cl : List (Str × Addr)) (fp : List Addr), PG (X.blk s H scope (compEnvC scope cl C X.env) fp) tg g) (ht : ∀ (s : Shared) (H : Hp) (C : Addr) (cl : List (Str × Addr)) (fp : List Addr), PTs (X.blk s H scope (compEnvC scope cl C X.env) fp) ifs tt)
    (hi1 : ∀ (s : Shared) (H : Hp) (C : Addr) (cl : List (Str × Addr)) (fp : List Addr), PI (X.blk s H scope (compEnvC scope cl C X.env) fp) tg1 iter1 wi1)
    (hg1 : ∀ (s : Shared) (H : Hp) (C : Addr) (cl : List (Str × Addr)) (fp : List Addr), PG (X.blk s H scope (compEnvC scope cl C X.env) fp) tg1 g1) (ht1 : ∀ (s : Shared) (H : Hp) (C : Addr) (cl : List (Str × Addr)) (fp : List Addr), PTs (X.blk s H scope (compEnvC scope cl C X.env) fp) ifs1 tt1)
    (hk : ∀ (s : Shared) (H : Hp) (C : Addr) (cl : List (Str × Addr)) (fp : List Addr), PE (X.blk s H scope (compEnvC scope cl C X.env) fp) kx tk)
    (he : ∀ (s : Shared) (H : Hp) (C : Addr) (cl : List (Str × Addr)) (fp : List Addr), PE (X.blk s H scope (compEnvC scope cl C X.env) fp) vx tv) (hs : ∀ x, foldedSetIterable iter X.env x = pure x := by intro _; rfl) (hs1 : ∀ env x, foldedSetIterable iter1 env x = pure x := by intro _ _; rfl) :
    PS X (.Assign [.Name y py] (.DictComp kx vx [⟨tg, iter, ifs, 0⟩, ⟨tg1, iter1, ifs1, 0⟩] scope pos) spos) (tAsg (tC2 (fun _ => .dK []) wi g tt wi1 g1 tt1 (tlD tk tv) (own.map (·.2)) vs1) (gName i)) := by
  refine ⟨fun pins s σ H D I h => ?_⟩
  rw [exec_Assign_Name_used _ _ _ _ hsw]
  refine wpAny_bind (wpAny_standAt (wpAny_bind ?_))
  show wpAny _ X.A (do let _ ← comprehension (.DictComp kx vx [⟨tg, iter, ifs, 0⟩, ⟨tg1, iter1, ifs1, 0⟩] scope pos) scope X.env (firstIterPos [⟨tg, iter, ifs, 0⟩, ⟨tg1, iter1, ifs1, 0⟩] pos) newDict false (eval iter X.env) (some (assign (.Name y py) X.env))) _ _ s
  have h : tC2 (fun _ => .dK []) wi g tt wi1 g1 tt1 (tlD tk tv) (own.map (·.2)) vs1 σ H (fun x H1 => gName i x σ H1 D.nx) := h
  refine wpAny_bind (thn (co2 (Qf := fun _ s' => SP X pins D .next s') (tail := tailD kx vx) (tl := tlD tk tv) hc hN I hi ok hv (cob_dict _ _ _ _ _) rfl (fun _ _ _ => rfl) (fun _ _ _ => rfl) newo_dict hg ht hi1 hg1 ht1 (fun s H C cl fp => ptl_dict (hk s H C cl fp) (he s H C cl fp)) hs hs1 h fun L C s' m H' I' q hn f => ?_) fun _ s' hq => wpAny_pure (wpAny_pure hq))
  show wpAny _ _ (assign (.Name y py) X.env (.ref L)) _ _ _
  refine wpAny_assign_Name (store_ok2 (v := V.ref L) I' hN hy (.inl hyl) rfl (fun s2 I2 ⟨a, sb, ha⟩ => ?_) (.inr hyl))
  obtain ⟨f0, f1, f2, f3, f4, f5⟩ := f
  have haC : C ≠ a := by
    rcases ha with z | z
    · rw [z]; exact f1
    · exact fun e => f4 y a z e.symm
  refine ⟨m, hn.sameBut sb haC, fun h3 sb3 => ?_⟩
  exact ⟨_, H', I2.turned (t' := s2.toks) (fun b o hb e => (sb3.2 b hb).trans e) f0 f1 f3 f4 f5, q⟩

theorem sw_d {y : Str} {py : Pos} {l : Nat} {env : Env} {gs : List Comprehension} (hk : env.scope.kind = .function) (hy : env.scope.names.lookup y = some .local) (hl : (py.line == pos.line) = true)
    (ha : (scope.names.any fun (n, k) => n == y && (k == .local || k == .cell)) = false) : swapsWith (.DictComp kx vx gs scope pos) (some (.Name y py)) l env = pure true := by
  have ky : env.kindOf y = some .local := hy
  have hb : env.blockKind = .function := by unfold Env.blockKind; rw [hk]; rfl
  unfold swapsWith
  simp only [hb, ky, ha, Expr.pos, hl]
  rfl
end
/-! ### the turns over lists and tuples that stay -/
theorem it_list {K : PySem.W.Frag} {a : Addr} {xs : List V} {H0 : Hp} {Qd : Hp → Prop} {B : V → Hp → (Hp → Prop) → Prop} (Pv : Nat → Hp → Prop) (h0 : Pv 0 H0) (hl : ∀ i H, i ≤ xs.length → Pv i H → SqL K H a xs)
    (hs : ∀ i x H, xs[i]? = some x → Pv i H → B x H (Pv (i + 1))) (hd : ∀ H, Pv xs.length H → Qd H) :
    ∃ W : Nat → Nat → Hp → Prop, (∃ m, W 0 m H0) ∧ ∀ i m H, W i m H →
      ((Itl K a).stop i H ∧ Qd H) ∨ ((Itl K a).go i H ∧ ∃ Nx : Hp → Prop, (∀ H', Nx H' → ∃ m', m' < m ∧ W (i + 1) m' H') ∧ ∀ x H', (Itl K a).yld i H x H' → B x H' Nx) := by
  refine ⟨fun i m H => m = xs.length - i ∧ i ≤ xs.length ∧ Pv i H, ⟨xs.length, rfl, Nat.zero_le _, h0⟩, ?_⟩
  rintro i m H ⟨rfl, hi, p⟩
  have q := hl i H hi p
  rcases Nat.lt_or_ge i xs.length with hlt | hge
  · refine .inr ⟨⟨xs, xs[i], q, by simp [hlt]⟩, Pv (i + 1), fun H' p' => ⟨xs.length - (i + 1), by omega, rfl, hlt, p'⟩, ?_⟩
    rintro x H' ⟨rfl, y⟩
    exact hs i x _ (y xs q) p
  · have z : i = xs.length := Nat.le_antisymm hi hge
    exact .inl ⟨⟨xs, q, hge⟩, hd H (z ▸ p)⟩
theorem it_tup {K : PySem.W.Frag} {a : Addr} {xs : List V} {H0 : Hp} {Qd : Hp → Prop} {B : V → Hp → (Hp → Prop) → Prop} (Pv : Nat → Hp → Prop) (h0 : Pv 0 H0) (hl : ∀ i H, i ≤ xs.length → Pv i H → SqT K H a xs)
    (hs : ∀ i x H, xs[i]? = some x → Pv i H → B x H (Pv (i + 1))) (hd : ∀ H, Pv xs.length H → Qd H) :
    ∃ W : Nat → Nat → Hp → Prop, (∃ m, W 0 m H0) ∧ ∀ i m H, W i m H →
      ((Itt K a).stop i H ∧ Qd H) ∨ ((Itt K a).go i H ∧ ∃ Nx : Hp → Prop, (∀ H', Nx H' → ∃ m', m' < m ∧ W (i + 1) m' H') ∧ ∀ x H', (Itt K a).yld i H x H' → B x H' Nx) := by
  refine ⟨fun i m H => m = xs.length - i ∧ i ≤ xs.length ∧ Pv i H, ⟨xs.length, rfl, Nat.zero_le _, h0⟩, ?_⟩
  rintro i m H ⟨rfl, hi, p⟩
  have q := hl i H hi p
  rcases Nat.lt_or_ge i xs.length with hlt | hge
  · refine .inr ⟨⟨xs, xs[i], q, by simp [hlt]⟩, Pv (i + 1), fun H' p' => ⟨xs.length - (i + 1), by omega, rfl, hlt, p'⟩, ?_⟩
    rintro x H' ⟨rfl, y⟩
    exact hs i x _ (y xs q) p
  · have z : i = xs.length := Nat.le_antisymm hi hge
    exact .inl ⟨⟨xs, q, hge⟩, hd H (z ▸ p)⟩
end L2

end

section
set_option maxRecDepth 100000
set_option maxHeartbeats 4000000
/-! set(list of ints) -/
namespace L2
open PySem PySem.Spec PyProof.Rows
section
variable {P : Program} {w : World} {A : Around} {E : Value → Shared → Prop} {s : Shared}
abbrev set0 (w : World) : Obj := { cls := .type "set", dict := none, data := .set #[] 0 (.fresh 0 0 (!w.params.followText "set-order")) }
set_option maxHeartbeats 3200000 in
theorem set_lstI {l : Addr} {items : Array Value} (ns : List Int) {Q : Value → Shared → Prop} (hh : A.handled = none) (hl : s.heap.IsList l items) (hit : IntsAre items.toList ns) (hb : ns.length + 1 < scanBound)
    (h : ∀ (h' : Heap) (tk c : Nat), SetR w h' s.heap.objs.size (fun j => decide (j ∈ ns)) c → c ≤ ns.length → (∀ b o, s.heap.get? b = some o → h'.get? b = some o) → Q (.ref s.heap.objs.size) { s with heap := h', toks := tk }) :
    wpAny (model P w) A (call (.type "set") [.ref l]) Q E s := by
  have hisz : items.size = ns.length := by rw [← Array.length_toList]; exact IntsAre.length hit
  obtain ⟨c, tl, hmro⟩ := F.called_set.mro
  have hmade := F.called_set.made
  have hsub := F.called_set.sub
  refine wpAny_call (codeAny_of_tree ?_)
  show wpAny _ _ (callAny (.type "set") _) _ _ _
  refine wpAny_pure ⟨Code.quiet_builtin _ (by decide +kernel), codeAny_builtin F.entry_type_call ?_⟩
  rw [Around.under_plain (weight_type_call_type "set" [.ref l] []) rfl]
  have h1 := F.called_set.notType
  have h2 := F.called_set.canCreate
  have hct := F.typeCall_set_1 (.ref l)
  repeat (any_goals (first | assumption | wp_step))
  refine codeAny_mono (code_set_led1 (.ref l) (E := E) (Q₁ := fun obj s₁ => obj = .ref s.heap.objs.size ∧ s₁ = { s with heap := s.heap.push (set0 w) }) ⟨rfl, rfl⟩) fun r s₁ hr => ?_
  cases r with
  | error e => exact hr
  | ok fl =>
    cases fl with
    | ret obj =>
      obtain ⟨rfl, rfl⟩ := hr
      have hS : (s.heap.push (set0 w)).get? s.heap.objs.size = some (set0 w) := Heap.get?_push_size _ rfl
      have hT : Shared.TypeIs { s with heap := s.heap.push (set0 w) } (.ref s.heap.objs.size) "set" := ⟨_, hS, rfl⟩
      have hli := F.called_set.init.lookup
      have hbi := F.called_set.init.bind (.ref s.heap.objs.size)
      repeat (any_goals (first | assumption | wp_step))
      refine codeAny_mono (codeAny_call_builtin (R := wants (fun r s₂ => r = .none ∧ ∃ h' tk c, s₂ = { s with heap := h', toks := tk } ∧ SetR w h' s.heap.objs.size (fun j => decide (j ∈ ns)) c ∧ c ≤ ns.length ∧ (∀ b o, s.heap.get? b = some o → h'.get? b = some o)) E)
        F.called_set.init.plain F.entry_set_init (check_set_init_1 hT ?_)) fun r₂ s₂ hr₂ => ?_
      · have hl1 : (s.heap.push (set0 w)).IsList l items := hl.push _
        have hlS : l < s.heap.objs.size := by
          obtain ⟨ol, hol, _⟩ := hl
          exact Heap.lt_size hol
        obtain ⟨ol, hol, hcl, nl, hdl⟩ := hl
        obtain ⟨ocls, odict, odata, oslots⟩ := ol
        simp only at hcl hdl
        subst hcl; subst hdl
        have hol' : (s.heap.push (set0 w)).get? l = some { cls := .type "list", dict := odict, data := .seq items nl, slots := oslots } := Heap.get?_push_of_some _ hol
        have hsls := F.sub_list_set
        have hslf := F.sub_list_frozenset
        have hne : (Value.type "list" == Value.type "dict") = false := by decide
        unfold Builtin.«set.__init__» noKeywords Builtin.Frozenset.updateFrom
        generalize hPI : pyIter = PI
        wp_walk
        subst hPI
        refine wpAny_pyIter_list hl1 ?_
        refine wpAny_bind (wpAny_runValue ?_)
        have hh3 : A.in1.in1.in1.handled = none := by simp [hh]
        have hz : (s.heap.push (set0 w)).objs.size = s.heap.objs.size + 1 := Heap.size_push ..
        have hneI : l ≠ (s.heap.push (set0 w)).objs.size := by rw [hz]; exact Nat.ne_of_lt (Nat.lt_succ_of_lt hlS)
        have hSf : s.heap.objs.size ∉ [(s.heap.push (set0 w)).objs.size, l] := fun z => by
          rcases List.mem_cons.mp z with z | z
          · exact absurd z (by rw [hz]; exact Nat.ne_of_lt (Nat.lt_succ_self _))
          · exact absurd (List.mem_singleton.mp z) (Nat.ne_of_gt hlS)
        have hval : ∀ (i : Nat) (v : Value), items[i]? = some v → ∃ k t, ns[i]? = some k ∧ v = .int k t := fun i v hv => by
          have hi : i < ns.length := by rw [← hisz]; exact (Array.getElem?_eq_some_iff.mp hv).1
          obtain ⟨t, e⟩ := PyProof.Rows.IntsAre.int_at hit i v (by rw [Array.getElem?_toList]; exact hv)
          exact ⟨ns[i], t, List.getElem?_eq_getElem hi, by rw [e, List.getD_eq_getElem?_getD, List.getElem?_eq_getElem hi] <;> rfl⟩
        refine set_update_ints ((Walks.list hh3 _ l hneI items).toS) s.heap.objs.size hSf ns hisz hb hval (items.size - 0) 0 _ (by omega) (Nat.zero_le _)
          ⟨⟨_, Heap.get?_push_size _ rfl, rfl, rfl⟩, (hl1.push _)⟩ ⟨0, Nat.le_refl 0, setR_new_at (Heap.get?_push_of_some _ hS)⟩ ?_
        intro s' c' hm hc' hS'
        obtain ⟨h', g2, d', tk', os'⟩ := s'
        have eg : g2 = s.gens := hm.gens
        have ed : d' = s.drawn := hm.drawn
        have eo : os' = s.os := hm.os
        subst eg ed eo
        show wpAny _ _ _ _ _ _
        refine wpAny_pure ?_
        show wpAny _ _ (ret Value.none) _ _ _
        refine wpAny_pure ⟨rfl, h', tk', c', rfl, hS', by omega, fun b o e => ?_⟩
        have hb0 : b < s.heap.objs.size := Heap.lt_size e
        exact hm.heap b o (fun z => by
          rcases List.mem_cons.mp z with z | z
          · exact absurd z (Nat.ne_of_lt hb0)
          · exact absurd (List.mem_singleton.mp z) (by rw [hz]; exact Nat.ne_of_lt (Nat.lt_succ_of_lt hb0))) (Heap.get?_push_of_some _ (Heap.get?_push_of_some _ e))
      · cases r₂ with
        | error e => exact hr₂
        | ok fl₂ =>
          cases fl₂ with
          | ret r =>
            obtain ⟨rfl, h', tk, c', rfl, hS', hc', hk'⟩ := hr₂
            repeat (any_goals (first | assumption | wp_step))
            exact h _ _ _ hS' hc' hk'
          | _ => exact hr₂.elim
    | _ => exact hr.elim
end
section
variable {X : Cx}
/-- set(xs), xs a list of ints -/
def rSetI (K : PySem.W.Frag) (w : World) : List V → Hp → VK → Prop := fun vs H Q => ∃ (l : Addr) (ns : List Int), vs = [V.ref l] ∧ SqL K H l (ns.map V.int) ∧ ns.length + 1 < scanBound ∧
  ∀ (p : Addr) (c : Nat), H p = none → c ≤ ns.length → (∃ ls : List Int, ls.Nodup ∧ ls.length = c ∧ ∀ k, k ∈ ls ↔ k ∈ ns) → Q (.ref p) (upd H p (SetO w p (fun j => decide (j ∈ ns)) c))
theorem cr_setI (hc : X.calm = true) : CallR X (.type "set") (rSetI X.K X.w) := by
  intro pins s σ H vs us Q I r h
  obtain ⟨l, ns, rfl, hl, hb, q⟩ := h
  rw [Vals.ref1 r]
  obtain ⟨its, rv, pl, hz⟩ := I.list hl
  refine set_lstI ns (I.ok.hd hc) pl.isList (by simpa using rv.ints) hb fun h' tk c hS hcl hk => ?_
  have hp : H s.heap.objs.size = none := I.hok.fresh (Nat.le_refl _)
  refine ⟨.ref s.heap.objs.size, _, I.laid (t' := tk) hk (Nat.le_refl _) (setO_new hS), rfl, q _ c hp hcl ?_⟩
  obtain ⟨o, es, ep, t, ho, hx, hd, g, nd, hm, hb2, hf, hn, _⟩ := hS
  exact ⟨es.toList.map keyOf, nd, by rw [List.length_map, Array.length_toList]; exact hn, fun k => by rw [← hm k, decide_eq_true_eq]⟩
end
end L2

end

section
set_option maxRecDepth 100000
set_option maxHeartbeats 4000000
/-! sets of texts: set(list of texts), {'text'}, == of a set with a set of one text -/
namespace Sw
open PySem PySem.Spec PyProof.Rows L2
section
variable {P : Program} {w : World} {A : Around} {E : Value → Shared → Prop} {s : Shared}
theorem entry_set_eqT : entryFor table "set.__eq__" = some Builtin.«frozenset.__eq__» := 
  entryFor_alias (id' := "frozenset.__eq__") (by kernel_rfl) rfl (by decide +kernel) (by kernel_rfl)
theorem wp_size {a : Addr} {S : Str → Bool} {n : Nat} {Q : Nat → Shared → Prop} (hS : s.heap.SetOf (strKind P w) a S n) (h : Q n s) : wpAny (model P w) A (Builtin.Frozenset.sizeOf a) Q E s := by
  obtain ⟨o, es, ep, t, ho, _, hd, _, _, _, hf, hn⟩ := hS
  unfold Builtin.Frozenset.sizeOf
  exact wpAny_bind (wpAny_setEntries_of ho hd hf (wpAny_pure (hn ▸ h)))
theorem one_of {es : Array (Int × Value)} (h : es.size = 1) : ∃ e, es = #[e] := by
  obtain ⟨l⟩ := es
  match l, h with
  | [e], _ => exact ⟨e, rfl⟩
theorem str_of {k : Str} {v : Value} (h : (strKind P w).is k v = true) : ∃ t, v = .str k t := Value.isStrOf_shape h
theorem one_key {h : Heap} {a : Addr} {S : Str → Bool} {k k' : Str} (hS : h.SetOf (strKind P w) a S 1) (h1 : S k = true) (h2 : S k' = true) : k' = k := by
  obtain ⟨o, es, ep, t, ho, _, hd, hel, hm, _, hf, hn⟩ := hS
  obtain ⟨⟨hx, x⟩, rfl⟩ := one_of hn
  obtain ⟨e, he, hk⟩ := (hm k).mp h1
  obtain ⟨e', he', hk'⟩ := (hm k').mp h2
  simp at he he'
  subst he he'
  exact (strKind P w).inj _ _ _ hk' hk
theorem wp_sub1 {a b : Addr} {S S' : Str → Bool} {nm : String} {Q : Bool → Shared → Prop} (hS : s.heap.SetOf (strKind P w) a S 1) (hS' : s.heap.SetOf (strKind P w) b S' 1)
    (h : ∀ k, S k = true → Q (S' k) s) : wpAny (model P w) A (Builtin.Frozenset.subsetOf nm a b) Q E s := by
  obtain ⟨o, es, ep, t, ho, _, hd, hel, hm, _, hf, hn⟩ := id hS
  obtain ⟨o', es', ep', t', ho', _, hd', hel', hm', _, hf', hn'⟩ := id hS'
  obtain ⟨⟨hx, x⟩, rfl⟩ := one_of hn
  obtain ⟨⟨hx', x'⟩, rfl⟩ := one_of hn'
  obtain ⟨⟨k, hk, hh⟩, hsc⟩ := hel (hx, x) (by simp)
  obtain ⟨⟨k', hk', hh'⟩, _⟩ := hel' (hx', x') (by simp)
  have hSk : S k = true := (hm k).mpr ⟨(hx, x), by simp, hk⟩
  obtain ⟨u, rfl⟩ := str_of hk
  obtain ⟨u', rfl⟩ := str_of hk'
  have hh : hx = (strKind P w).hash k := hh
  subst hh
  unfold Builtin.Frozenset.subsetOf
  refine wpAny_bind (wp_size hS (wpAny_bind (wp_size hS' ?_)))
  refine wp_if_neg (by simp) ?_
  refine wpAny_bind (m := pure _) (wpAny_pure ?_)
  refine wpAny_bind (m := setEpoch a) (wpAny_setEpoch_of ho hd hf ?_)
  refine wpAny_bind (m := Builtin.Frozenset.walkUnseen a b) ?_
  unfold Builtin.Frozenset.walkUnseen
  refine wpAny_bind (m := setEntries a) (wpAny_setEntries_of ho hd hf ?_)
  refine wpAny_bind (m := setEntries b) (wpAny_setEntries_of ho' hd' hf' ?_)
  simp only [List.forIn_cons, List.forIn_nil, List.cons_append, List.nil_append]
  refine wpAny_bind (wpAny_bind (wpAny_bind (m := Builtin.Frozenset.quietEq (.str k u)) (wpAny_pure (wp_if_neg (by simp) (wpAny_pure ?_)))))
  refine wpAny_bind (wpAny_bind (m := Builtin.Frozenset.quietEq (.str k' u')) (wpAny_pure (wp_if_neg (by simp) (wpAny_pure (wpAny_pure (wpAny_pure ?_))))))
  refine wpAny_bind ?_
  simp only [List.forIn_cons, List.forIn_nil]
  refine wpAny_bind (wpAny_bind (wpAny_holding (wpAny_setFind_of (knd := strKind P w) hk hsc hS' fun r hr => ?_)))
  by_cases z : r.isNone = true
  · refine wp_if_pos z (wpAny_pure (wpAny_pure (wpAny_pure ?_)))
    have e : S' k = false := by rw [← hr]; cases r <;> simp_all
    exact e ▸ h k hSk
  · refine wp_if_neg z (wpAny_bind ?_)
    unfold Builtin.Frozenset.unchanged
    refine wpAny_bind (wpAny_setEpoch_of ho hd hf (wp_if_neg (by simp) (wpAny_pure (wpAny_pure (wpAny_pure (wpAny_pure ?_))))))
    have e : S' k = true := by rw [← hr]; cases r <;> simp_all
    exact e ▸ h k hSk
theorem rc_set1 {a b : Addr} {S S' : Str → Bool} {n : Nat} {Q : Value → Shared → Prop} (hS : s.heap.SetOf (strKind P w) a S n) (hS' : s.heap.SetOf (strKind P w) b S' 1) (hu : A.units < cLine)
    (h : ∀ r : Bool, (n ≠ 1 → r = false) → (∀ k, n = 1 → S k = true → r = S' k) → Q (.bool r) s) : wpAny (model P w) A (compareOp .Eq (.ref a) (.ref b)) Q E s := by
  refine wpAny_richCompare_same_room (op := .Eq) hS.typeIs hS'.typeIs PySem.F.slot_set_eq (wpAny_call_entry PySem.F.slot_set_eq hS.typeIs entry_set_eqT ?_ (PySem.F.args_set_eq_2 _ _)) hu
  refine wpAny_bind (m := Builtin.Frozenset.slot1 "__eq__" _) (wpAny_bind (m := slotArgs "__eq__" 1 _) (wpAny_pure (wpAny_pure ?_)))
  refine wpAny_bind (m := Builtin.Frozenset.isAnySet (.ref b)) (wpAny_bind (m := isInstance _ _) (wpAny_isInstance hS'.typeIs PySem.F.sub_set_set (wpAny_pure ?_)))
  refine wpAny_bind (m := Builtin.Frozenset.addrOf (.ref a)) (wpAny_pure ?_)
  refine wpAny_bind (m := Builtin.Frozenset.addrOf (.ref b)) (wpAny_pure ?_)
  refine wpAny_bind (m := Builtin.Frozenset.sizeOf a) (wp_size hS ?_)
  refine wpAny_bind (m := Builtin.Frozenset.sizeOf b) (wp_size hS' ?_)
  by_cases hn : n = 1
  · subst hn
    refine wpAny_bind ?_
    refine wp_if_neg (by simp) ?_
    refine wpAny_bind (wpAny_bind (m := isInstance _ _) (wpAny_isInstance hS.typeIs PySem.F.sub_set_frozenset (wpAny_pure ?_)))
    refine wp_if_neg (by simp) ?_
    refine wp_sub1 hS hS' fun k hk => ?_
    exact wpAny_pure ⟨_, rfl, (fun z => nomatch z), h _ (fun z => absurd rfl z) fun k' _ hk' => by rw [one_key hS hk hk']⟩
  · refine wpAny_bind (wp_if_pos (by simp [hn]) (wpAny_pure ?_))
    exact wpAny_pure ⟨_, rfl, (fun z => nomatch z), h _ (fun _ => rfl) fun k z _ => absurd z hn⟩
end
/-! ### set(list of texts) -/
/-- m is the number of different ones among the first i, as far as it is asked -/
structure NumS (val : Nat → Str) (i m : Nat) : Prop where
  le : m ≤ i
  po : 1 ≤ i → 1 ≤ m
  al : m = 1 → ∀ j, j < i → val j = val 0
  ba : (∀ j, j < i → val j = val 0) → m ≤ 1
theorem NumS.zero (val : Nat → Str) : NumS val 0 0 := ⟨Nat.le_refl _, fun h => absurd h (by omega), fun h => absurd h (by omega), fun _ => Nat.zero_le _⟩
theorem NumS.old {val : Nat → Str} {i m : Nat} (h : NumS val i m) (o : val i ∈ (List.range i).map val) : NumS val (i + 1) m := by
  obtain ⟨j, hj, e⟩ := List.mem_map.mp o
  have hj := List.mem_range.mp hj
  refine ⟨by have := h.le; omega, fun _ => h.po (by omega), fun z k hk => ?_, fun z => h.ba fun k hk => z k (by omega)⟩
  rcases Nat.lt_or_ge k i with c | c
  · exact h.al z k c
  · have : k = i := by omega
    subst this
    rw [← e]
    exact h.al z j hj
theorem NumS.new {val : Nat → Str} {i m : Nat} (h : NumS val i m) (o : val i ∉ (List.range i).map val) : NumS val (i + 1) (m + 1) := by
  have hle := h.le
  refine ⟨by omega, fun _ => by omega, fun z k hk => ?_, fun z => ?_⟩
  · rcases Nat.eq_zero_or_pos i with c | c
    · have : k = 0 := by omega
      rw [this]
    · have := h.po c
      omega
  · rcases Nat.eq_zero_or_pos i with c | c
    · omega
    · exact absurd (List.mem_map.mpr ⟨0, List.mem_range.mpr c, (z i (by omega)).symm⟩) o
section
variable {prog : Program} {w : World} {A : Around} {R : Result → Shared → Prop} {I : Addr} {fp wr : List Addr} {G : Array GenState → Array GenState → Prop} {n : Nat} {P : Nat → Value → Prop} {St : Nat → Shared → Prop}
theorem upd_loopS (W : WalksS prog w A.in1 I fp wr G n P St) (S : Addr) (hSf : S ∉ fp) (val : Nat → Str) (hval : ∀ i v, P i v → ∃ t, v = .str (val i) t) (hb : n + 1 < scanBound) :
    ∀ (k i : Nat) (s : Shared) (m : Nat), n - i = k → i ≤ n → St i s → NumS val i m → s.heap.SetOf (strKind prog w) S (fun x => decide (x ∈ (List.range i).map val)) m →
      (∀ s' m', Moved (S :: wr) G s s' → NumS val n m' → s'.heap.SetOf (strKind prog w) S (fun x => decide (x ∈ (List.range n).map val)) m' → R (.ok (.ret .none)) s') →
      codeAny (model prog w) A (.builtin "set.update.loop" ⟨[.ref S, .ref I], []⟩) R s := by
  have hSw : S ∉ wr := fun h => hSf (W.sub _ h)
  have hsub : ∀ b ∈ wr, b ∈ S :: wr := fun b hb => List.mem_cons_of_mem _ hb
  intro k
  induction k with
  | zero =>
    intro i s m hk hi hst hN hS hR
    have hin : i = n := by omega
    subst hin
    refine codeAny_builtin PyProof.Rows.F.entry_set_update_loop ?_
    rw [Around.under_plainId PyProof.Rows.F.plain_set_update_loop _]
    show wpAny _ A.in1 (pyNext (.ref I) >>= _) _ _ s
    refine wpAny_bind (W.done s _ _ hst fun s' hm => ?_)
    show wpAny _ A.in1 (ret Value.none) _ _ s'
    exact wpAny_pure (hR s' m (hm.mono hsub) hN (by
      obtain ⟨o, es, ep, t, ho, rest⟩ := hS
      exact ⟨o, es, ep, t, hm.heap S _ hSw ho, rest⟩))
  | succ k ih =>
    intro i s m hk hi hst hN hS hR
    have hlt : i < n := by omega
    refine codeAny_builtin PyProof.Rows.F.entry_set_update_loop ?_
    rw [Around.under_plainId PyProof.Rows.F.plain_set_update_loop _]
    show wpAny _ A.in1 (pyNext (.ref I) >>= _) _ _ s
    refine wpAny_bind (W.item i s _ _ hlt hst fun v s' hP hst' hm => ?_)
    obtain ⟨t, rfl⟩ := hval i v hP
    have hS' : s'.heap.SetOf (strKind prog w) S (fun x => decide (x ∈ (List.range i).map val)) m := by
      obtain ⟨o, es, ep, tb, ho, rest⟩ := hS
      exact ⟨o, es, ep, tb, hm.heap S _ hSw ho, rest⟩
    show wpAny _ A.in1 (holding [Value.str (val i) t] (setAdd S (.str (val i) t)) >>= _) _ _ s'
    refine wpAny_bind (wpAny_holding ?_)
    unfold setAdd
    refine wpAny_holding ?_
    refine wpAny_bind ((strKind prog w).pyHash (k := val i) (strKind_is _ _ _ _) ?_)
    have hroom : m + 1 < scanBound := by have := hN.le; omega
    refine wpAny_setAddHashed_of (knd := strKind prog w) (s := { s' with toks := s'.toks + 1 }) (strKind_is _ _ _ _) rfl hS' hroom fun h' hsb hS2 => ?_
    have hN2 : NumS val (i + 1) (if decide (val i ∈ (List.range i).map val) = true then m else m + 1) := by
      by_cases z : val i ∈ (List.range i).map val
      · rw [if_pos (decide_eq_true z)]
        exact hN.old z
      · rw [if_neg (by simpa using z)]
        exact hN.new z
    have hSi := SetOf_congr hS2 (S' := fun x => decide (x ∈ (List.range (i + 1)).map val)) (fun x => by rw [List.range_succ, List.map_append]; simp only [List.mem_append, List.map_cons, List.map_nil, List.mem_singleton]; by_cases z : x ∈ (List.range i).map val <;> by_cases z2 : x = val i <;> simp [z, z2]) rfl
    refine wpAny_pure ⟨plainId_quiet PyProof.Rows.F.plain_set_update_loop _, ih (i + 1) _ _ (by omega) hlt (W.frame _ s' _ _ hst' (Nat.le_succ _) fun b hb o e => ?_) hN2 hSi fun s'' m'' hm'' hN'' hS'' => ?_⟩
    · rw [hsb.2 b (fun h : b = S => hSf (by rw [← h]; exact hb))]
      exact e
    · refine hR s'' m'' (Moved.trans W.gtrans ((hm.mono hsub).then_heap (Nat.le_succ _) fun b o hb e => ?_) hm'') hN'' hS''
      rw [hsb.2 b (fun h : b = S => hb (by rw [h]; exact List.mem_cons_self))]
      exact e
end
section
variable {P : Program} {w : World} {A : Around} {E : Value → Shared → Prop} {s : Shared}
set_option maxHeartbeats 3200000 in
theorem set_lstS {l : Addr} {items : Array Value} (xs : List Str) {Q : Value → Shared → Prop} (hh : A.handled = none) (hl : s.heap.IsList l items) (hit : StrsAre items.toList xs) (hb : xs.length + 1 < scanBound)
    (h : ∀ (h' : Heap) (tk c : Nat), h'.SetOf (strKind P w) s.heap.objs.size (fun x => decide (x ∈ (List.range xs.length).map fun i => xs.getD i Str.empty)) c → NumS (fun i => xs.getD i Str.empty) xs.length c → (∀ b o, s.heap.get? b = some o → h'.get? b = some o) → Q (.ref s.heap.objs.size) { s with heap := h', toks := tk }) :
    wpAny (model P w) A (call (.type "set") [.ref l]) Q E s := by
  have hisz : items.size = xs.length := by rw [← Array.length_toList]; exact StrsAre.length hit
  obtain ⟨c, tl, hmro⟩ := PySem.F.called_set.mro
  have hmade := PySem.F.called_set.made
  have hsub := PySem.F.called_set.sub
  refine wpAny_call (codeAny_of_tree ?_)
  show wpAny _ _ (callAny (.type "set") _) _ _ _
  refine wpAny_pure ⟨Code.quiet_builtin _ (by decide +kernel), codeAny_builtin PySem.F.entry_type_call ?_⟩
  rw [Around.under_plain (weight_type_call_type "set" [.ref l] []) rfl]
  have h1 := PySem.F.called_set.notType
  have h2 := PySem.F.called_set.canCreate
  have hct := PySem.F.typeCall_set_1 (.ref l)
  repeat (any_goals (first | assumption | wp_step))
  refine codeAny_mono (code_set_led1 (.ref l) (E := E) (Q₁ := fun obj s₁ => obj = .ref s.heap.objs.size ∧ s₁ = { s with heap := s.heap.push (L2.set0 w) }) ⟨rfl, rfl⟩) fun r s₁ hr => ?_
  cases r with
  | error e => exact hr
  | ok fl =>
    cases fl with
    | ret obj =>
      obtain ⟨rfl, rfl⟩ := hr
      have hS : (s.heap.push (L2.set0 w)).get? s.heap.objs.size = some (L2.set0 w) := Heap.get?_push_size _ rfl
      have hT : Shared.TypeIs { s with heap := s.heap.push (L2.set0 w) } (.ref s.heap.objs.size) "set" := ⟨_, hS, rfl⟩
      have hli := PySem.F.called_set.init.lookup
      have hbi := PySem.F.called_set.init.bind (.ref s.heap.objs.size)
      repeat (any_goals (first | assumption | wp_step))
      refine codeAny_mono (codeAny_call_builtin (R := wants (fun r s₂ => r = .none ∧ ∃ h' tk c, s₂ = { s with heap := h', toks := tk } ∧ h'.SetOf (strKind P w) s.heap.objs.size (fun x => decide (x ∈ (List.range xs.length).map fun i => xs.getD i Str.empty)) c ∧ NumS (fun i => xs.getD i Str.empty) xs.length c ∧ (∀ b o, s.heap.get? b = some o → h'.get? b = some o)) E)
        PySem.F.called_set.init.plain PySem.F.entry_set_init (check_set_init_1 hT ?_)) fun r₂ s₂ hr₂ => ?_
      · have hl1 : (s.heap.push (L2.set0 w)).IsList l items := hl.push _
        have hlS : l < s.heap.objs.size := by
          obtain ⟨ol, hol, _⟩ := hl
          exact Heap.lt_size hol
        obtain ⟨ol, hol, hcl, nl, hdl⟩ := hl
        obtain ⟨ocls, odict, odata, oslots⟩ := ol
        simp only at hcl hdl
        subst hcl; subst hdl
        have hol' : (s.heap.push (L2.set0 w)).get? l = some { cls := .type "list", dict := odict, data := .seq items nl, slots := oslots } := Heap.get?_push_of_some _ hol
        have hsls := PySem.F.sub_list_set
        have hslf := PySem.F.sub_list_frozenset
        have hne : (Value.type "list" == Value.type "dict") = false := by decide
        unfold Builtin.«set.__init__» noKeywords Builtin.Frozenset.updateFrom
        generalize hPI : pyIter = PI
        wp_walk
        subst hPI
        refine wpAny_pyIter_list hl1 ?_
        refine wpAny_bind (wpAny_runValue ?_)
        have hh3 : A.in1.in1.in1.handled = none := by simp [hh]
        have hz : (s.heap.push (L2.set0 w)).objs.size = s.heap.objs.size + 1 := Heap.size_push ..
        have hneI : l ≠ (s.heap.push (L2.set0 w)).objs.size := by rw [hz]; exact Nat.ne_of_lt (Nat.lt_succ_of_lt hlS)
        have hSf : s.heap.objs.size ∉ [(s.heap.push (L2.set0 w)).objs.size, l] := fun z => by
          rcases List.mem_cons.mp z with z | z
          · exact absurd z (by rw [hz]; exact Nat.ne_of_lt (Nat.lt_succ_self _))
          · exact absurd (List.mem_singleton.mp z) (Nat.ne_of_gt hlS)
        have hval : ∀ (i : Nat) (v : Value), items[i]? = some v → ∃ t, v = .str ((fun i => xs.getD i Str.empty) i) t := fun i v hv => SS.strs_at hit i v (by rw [Array.getElem?_toList]; exact hv)
        have hb' : items.size + 1 < scanBound := by rw [hisz]; exact hb
        refine upd_loopS ((Walks.list hh3 _ l hneI items).toS) s.heap.objs.size hSf (fun i => xs.getD i Str.empty) hval hb' (items.size - 0) 0 _ 0 (by omega) (Nat.zero_le _)
          ⟨⟨_, Heap.get?_push_size _ rfl, rfl, rfl⟩, (hl1.push _)⟩ (NumS.zero _) (SetOf_congr ((setObjOf_fresh (knd := strKind P w) _).setOf (Heap.get?_push_of_some _ hS) (by unfold scanBound; omega)) (fun x => by simp) rfl) ?_
        intro s' c' hm hc' hS'
        rw [hisz] at hc' hS'
        obtain ⟨h', g2, d', tk', os'⟩ := s'
        have eg : g2 = s.gens := hm.gens
        have ed : d' = s.drawn := hm.drawn
        have eo : os' = s.os := hm.os
        subst eg ed eo
        show wpAny _ _ _ _ _ _
        refine wpAny_pure ?_
        show wpAny _ _ (ret Value.none) _ _ _
        refine wpAny_pure ⟨rfl, h', tk', c', rfl, hS', hc', fun b o e => ?_⟩
        have hb0 : b < s.heap.objs.size := Heap.lt_size e
        exact hm.heap b o (fun z => by
          rcases List.mem_cons.mp z with z | z
          · exact absurd z (Nat.ne_of_lt hb0)
          · exact absurd (List.mem_singleton.mp z) (by rw [hz]; exact Nat.ne_of_lt (Nat.lt_succ_of_lt hb0))) (Heap.get?_push_of_some _ (Heap.get?_push_of_some _ e))
      · cases r₂ with
        | error e => exact hr₂
        | ok fl₂ =>
          cases fl₂ with
          | ret r =>
            obtain ⟨rfl, h', tk, c', rfl, hS', hc', hk'⟩ := hr₂
            repeat (any_goals (first | assumption | wp_step))
            exact h _ _ _ hS' hc' hk'
          | _ => exact hr₂.elim
    | _ => exact hr.elim
end
/-! ### as rules -/
/-- a set of texts, n in number -/
def SetS (P : Program) (w : World) (a : Addr) (S : Str → Bool) (n : Nat) : HO := .ext fun h => h.SetOf (strKind P w) a S n
section
variable {X : Cx}
theorem setS_at {P : Program} {w : World} {h h' : Heap} {a : Addr} {S : Str → Bool} {n : Nat} (R : h.SetOf (strKind P w) a S n) (k : ∀ o, h.get? a = some o → h'.get? a = some o) : h'.SetOf (strKind P w) a S n := by
  obtain ⟨o, es, ep, t, ho, r⟩ := R
  exact ⟨o, es, ep, t, k o ho, r⟩
theorem setS_new {w : World} {P : Program} {H : Hp} {h : Heap} {a : Addr} {S : Str → Bool} {n : Nat} (R : h.SetOf (strKind P w) a S n) : ObjOk P w H h a (SetS P w a S n) := by
  have ⟨o, _, _, _, ho, _⟩ := R
  exact ⟨R, ⟨o, ho⟩, fun h1 h2 p k => setS_at p k⟩
theorem setS_get {pins : List (Addr × Obj)} {σ : L2.St} {H : Hp} {s : Shared} {a : Addr} {S : Str → Bool} {n : Nat} (I : Inv X pins σ H s) (ha : H a = some (SetS X.prog X.w a S n)) : s.heap.SetOf (strKind X.prog X.w) a S n := (I.hok a _ ha).1
/-- set(xs), xs a list of texts -/
def rSetS (K : PySem.W.Frag) (P : Program) (w : World) : List V → Hp → VK → Prop := fun vs H Q => ∃ (l : Addr) (xs : List Str), vs = [V.ref l] ∧ SqL K H l (xs.map V.str) ∧ xs.length + 1 < scanBound ∧
  ∀ (p : Addr) (c : Nat), H p = none → NumS (fun i => xs.getD i Str.empty) xs.length c → Q (.ref p) (upd H p (SetS P w p (fun x => decide (x ∈ (List.range xs.length).map fun i => xs.getD i Str.empty)) c))
theorem cr_setS (hc : X.calm = true) : CallR X (.type "set") (rSetS X.K X.prog X.w) := by
  intro pins s σ H vs us Q I r h
  obtain ⟨l, xs, rfl, hl, hb, q⟩ := h
  rw [Vals.ref1 r]
  obtain ⟨its, rv, pl, hz⟩ := I.list hl
  refine set_lstS xs (I.ok.hd hc) pl.isList (by simpa using strsAre_of rv) hb fun h' tk c hS hcl hk => ?_
  have hp : H s.heap.objs.size = none := I.hok.fresh (Nat.le_refl _)
  exact ⟨.ref s.heap.objs.size, _, I.laid (t' := tk) hk (Nat.le_refl _) (setS_new hS), rfl, q _ c hp hcl⟩
/-- == of a set of texts with a set of one text -/
def rEqS1 (P : Program) (w : World) : R2 := fun x y H Q => ∃ (a b : Addr) (S S' : Str → Bool) (n : Nat), x = .ref a ∧ y = .ref b ∧ H a = some (SetS P w a S n) ∧ H b = some (SetS P w b S' 1) ∧
  ∀ r : Bool, (n ≠ 1 → r = false) → (∀ k, n = 1 → S k = true → r = S' k) → Q (.bl r) H
theorem op_eqS1 (hu : X.A.units < cLine) : OpR X (compareOp .Eq) (rEqS1 X.prog X.w) := by
  intro pins s σ H x y v u Q I rx ry h
  obtain ⟨a, b, S, S', n, rfl, rfl, ha, hb, q⟩ := h
  obtain rfl : v = Value.ref a := rx
  obtain rfl : u = Value.ref b := ry
  exact rc_set1 (setS_get I ha) (setS_get I hb) hu fun r h1 h2 => ⟨.bl r, H, I, rfl, q r h1 h2⟩
/-- {'text'} -/
def tSet1 (P : Program) (w : World) (y : Str) : TE := fun σ H Q => ∀ p, H p = none → Q (.ref p) (upd H p (SetS P w p (fun x => decide (x = y)) 1))
theorem pe_set1 {y : Str} {j : Nat} {p1 p2 : Pos} (hcd : PySem.W.kdsCode X.K X.env.code = true) : PE X (.Set [.Constant (.str y) j p1] 0 p2) (tSet1 X.prog X.w y) := by
  refine ⟨fun pins s σ H Q I h => ?_⟩
  rw [arm_eval_Set]
  refine wpAny_bind (wpAny_standAt ?_)
  refine wpAny_bind (PySem.W.kds_main I.kIn hcd fun b => ?_)
  have hs : StrEs [.Constant (.str y) j p1] [y] := .cons y j p1 .nil
  rw [PySem.W.kds_star _ hs.plain, List.map_map]
  refine PySem.W.kds_core (ts := (evalEach [.Constant (.str y) j p1] X.env).map fun t => do let v ← t; standAt p2; pure v) (road0 _) ?_ ?_ ?_ fun led => ?_
  · refine List.findIdx?_eq_none_iff.mpr fun x hx => ?_
    obtain ⟨t, _, rfl⟩ := List.mem_map.mp hx
    rfl
  · rw [List.length_map, PySem.W.kds_len]
    exact (by decide : 1 ≤ 30)
  · rw [List.map_map]
    try rfl
  · refine PySem.W.kds_all p2 _ _ _ (hs.run _ _ fun vs k r => ?_)
    obtain ⟨t, rfl⟩ : ∃ t, vs = [.str y t] := by
      cases r with
      | cons _ t r =>
        cases r
        exact ⟨t, rfl⟩
    refine PySem.W.kds_fill_cons ?_
    unfold setAdd
    refine wpAny_holding (wpAny_bind ((strKind X.prog X.w).pyHash (k := y) (strKind_is _ _ _ _) ?_))
    have h0 : (s.heap.push { cls := .type "set", dict := none, data := .set #[] 0 (.fresh 0 0 led) }).SetOf (strKind X.prog X.w) s.heap.objs.size (fun _ => false) 0 := (setObjOf_fresh (knd := strKind X.prog X.w) led).setOf (Heap.get?_push_size _ rfl) (by decide)
    refine wpAny_setAddHashed_of (knd := strKind X.prog X.w) (s := { s with heap := s.heap.push { cls := .type "set", dict := none, data := .set #[] 0 (.fresh 0 0 led) }, toks := k + 1 }) (strKind_is _ _ _ _) rfl h0 (by decide) fun h' sb hS' => ?_
    have hS2 : h'.SetOf (strKind X.prog X.w) s.heap.objs.size (fun x => decide (x = y)) 1 := SetOf_congr hS' (fun x => by simp) rfl
    have hk : ∀ b o, s.heap.get? b = some o → h'.get? b = some o := fun b o e => (sb.2 b (Nat.ne_of_lt (Heap.lt_size e))).trans (Heap.get?_push_of_some _ e)
    have fin : ∀ h2 : Heap, h2.SetOf (strKind X.prog X.w) s.heap.objs.size (fun x => decide (x = y)) 1 → (∀ b o, s.heap.get? b = some o → h2.get? b = some o) → EP X pins σ Q (.ref s.heap.objs.size) { s with heap := h2, toks := k + 1 } := fun h2 hS2 hk2 =>
      ⟨.ref _, upd H s.heap.objs.size (SetS X.prog X.w s.heap.objs.size (fun x => decide (x = y)) 1), I.laid (t' := k + 1) hk2 (Nat.le_refl _) (setS_new hS2), rfl, h _ (I.hok.fresh (Nat.le_refl _))⟩
    cases hu : (displayRoad 0 [Expr.Constant (.str y) j p1] == DisplayRoad.unsure) with
    | false => exact PySem.W.kds_fill_nil rfl (fin h' hS2 hk)
    | true => exact PySem.W.kds_fill_unled rfl (unledS (s := { s with heap := h', toks := k + 1 }) hS2 fun h2 hS3 sb2 => fin h2 hS3 fun b o e => sb2 b o (Nat.ne_of_lt (Heap.lt_size e)) (hk b o e))
end
end Sw

end

section
set_option maxRecDepth 100000
set_option maxHeartbeats 4000000
/-! the law's own: equal -/
namespace Sw
open PySem PySem.Spec PyProof.Rows L2 SwA
inductive Flat : V → String → Prop
  | non : Flat .non "NoneType"
  | bl (b : Bool) : Flat (.bl b) "bool"
  | int (i : Int) : Flat (.int i) "int"
  | str (z : Str) : Flat (.str z) "str"
def TupR (H : Hp) (a : Addr) (xs : List V) : Prop := H a = some (.tup xs) ∨ ∃ o, H a = some (.frz o (.tup xs))
/-- two values, equal and of one kind at every level, at most n levels deep -/
def EqD (H : Hp) : Nat → V → V → Prop
  | 0, x, y => x = y ∧ ∃ n, Flat x n
  | n + 1, x, y => (x = y ∧ ∃ n, Flat x n) ∨ ∃ a b xs ys, x = .ref a ∧ y = .ref b ∧ ((H a = some (.lst xs) ∧ H b = some (.lst ys)) ∨ (TupR H a xs ∧ TupR H b ys)) ∧ Paired (EqD H n) xs ys ∧ ys.length ≤ 100000
theorem TupR.same {H H' : Hp} (s : Same H H') {a : Addr} {xs : List V} (h : TupR H a xs) : TupR H' a xs := h.elim (fun e => .inl (s _ _ e)) fun ⟨o, e⟩ => .inr ⟨o, s _ _ e⟩
theorem TupR.sq {K : PySem.W.Frag} {H : Hp} {a : Addr} {xs : List V} (h : TupR H a xs) : SqT K H a xs := .inl h
theorem EqD.same {H H' : Hp} (s : Same H H') : ∀ {n : Nat} {x y : V}, EqD H n x y → EqD H' n x y
  | 0, _, _, h => h
  | n + 1, _, _, .inl h => .inl h
  | n + 1, _, _, .inr ⟨a, b, xs, ys, e1, e2, h, t, tl⟩ => .inr ⟨a, b, xs, ys, e1, e2, h.elim (fun q => .inl ⟨s _ _ q.1, s _ _ q.2⟩) (fun q => .inr ⟨q.1.same s, q.2.same s⟩), Paired.mapP t fun _ _ q => EqD.same s q, tl⟩
theorem EqD.up {H : Hp} : ∀ {n : Nat} {x y : V}, EqD H n x y → EqD H (n + 1) x y
  | 0, _, _, h => .inl h
  | n + 1, _, _, .inl h => .inl h
  | n + 1, _, _, .inr ⟨a, b, xs, ys, e1, e2, h, t, tl⟩ => .inr ⟨a, b, xs, ys, e1, e2, h, Paired.mapP t fun _ _ q => q.up, tl⟩
theorem Flat.ty {K : PySem.W.Frag} {H : Hp} {v : V} {n : String} (h : Flat v n) : TyX K H v (.type n) := by
  cases h with
  | int i => exact (ArN.int i).ty
  | bl b => exact (ArN.bl b).ty
  | non => exact ArN.non.ty
  | str z => exact (ArN.str z).ty
theorem TupR.ty {K : PySem.W.Frag} {H : Hp} {a : Addr} {xs : List V} (h : TupR H a xs) : TyX K H (.ref a) (.type "tuple") := h.elim (fun e => (ArN.tup e).ty) fun ⟨o, e⟩ => .fTuple e
theorem flats39 {H : Hp} {n : Nat} : ∀ {xs : List V}, (∀ x ∈ xs, ∃ t, Flat x t) → Paired (EqD H n) xs xs
  | [], _ => .nil
  | x :: xs, h => .cons (by
      have := h x List.mem_cons_self
      cases n with
      | zero => exact ⟨rfl, this⟩
      | succ n => exact .inl ⟨rfl, this⟩) (flats39 fun y hy => h y (List.mem_cons_of_mem _ hy))
structure EquT (K : PySem.W.Frag) (mg : Str → Option Value) : Prop where
  l : LawT K mg
  isinstance : mg "isinstance" = none
  bool : mg "bool" = none
  int : mg "int" = none
  str : mg "str" = none
  all : mg "all" = none
  equal : DeT K mg "_law_equal" s__law_equal
section
variable {P : Program} {w : World} {K : PySem.W.Frag} {mg : Str → Option Value} {base : Heap}
def spEq (n : Nat) : Sp := fun vs H Q _ => ∃ (x y : V), vs = [x, y] ∧ EqD H n x y ∧ ∀ H' : Hp, Same H H' → Q (.bl true) H'
def spNo : Sp := fun vs _ _ _ => vs.length = 2 ∧ False
theorem fn_no {k : Nat} {f : Addr} {fd : FuncData} {ps : List Str} (h : ps.length = 2) : FnOk P w K mg base CX0 k f fd ps spNo := ⟨fun vs H Q E q => by rw [q.1, h], fun A outer s H args us vs Q E _ _ _ _ q => q.2.elim⟩
abbrev eqN : List Str := ["_law_actual", "_law_expected", "_law_k"]
theorem sc_equal : FnScope eqN ["_law_actual", "_law_expected"] (defScope s__law_equal) := ⟨rfl, rfl, rfl, by decide +kernel, rfl, by decide +kernel, by decide +kernel⟩
theorem equal_step (T : EquT K mg) {n : Nat} {sp : Sp} {fd : FuncData} (F : FunD K "_law_equal" "_law_equal" (defArgs s__law_equal) (defBody s__law_equal) (defScope s__law_equal) [] [] (He.fAd K ("_law_equal", none)) fd)
    (GR : FnOk P w K mg base CX0 n (He.fAd K ("_law_equal", none)) fd ["_law_actual", "_law_expected"] sp) (R : Hp → V → V → Prop) (Rs : ∀ H H' x y, Same H H' → R H x y → R H' x y)
    (hsp : ∀ (x y : V) (H : Hp) (Q : VK) (E : XK), R H x y → (∀ H' : Hp, Same H H' → Q (.bl true) H') → sp [x, y] H Q E) :
    FnOk P w K mg base CX0 (n + 1) (He.fAd K ("_law_equal", none)) fd ["_law_actual", "_law_expected"] (fun vs H Q _ => ∃ (x y : V), vs = [x, y] ∧ ((x = y ∧ ∃ n, Flat x n) ∨ ∃ a b xs ys, x = .ref a ∧ y = .ref b ∧ ((H a = some (.lst xs) ∧ H b = some (.lst ys)) ∨ (TupR H a xs ∧ TupR H b ys)) ∧ Paired (R H) xs ys ∧ ys.length ≤ 100000) ∧ ∀ H' : Hp, Same H H' → Q (.bl true) H') := by
  have bR : Binds K fd ["_law_actual", "_law_expected"] [] := F.bindsN fun _ _ _ _ _ _ us hl => match us, hl with | [_, _], _ => rfl
  have kR := F.kp
  refine F.ok sc_equal (fun vs H Q E h => ?_) (fun cdv A outer s H vs Q E hr h => ?_)
  · obtain ⟨x, y, rfl, _⟩ := h
    rfl
  · obtain ⟨x, y, rfl, hxy, k⟩ := h
    refine ⟨_, PSs.nox (pss_cons (ps_if (pt_cmpR op_isN (pv 1) pe_non (nomark _))
        (pss_one (ps_ret (pe_cmpR op_isN (pv 0) pe_non (nomark _)))) pss_nil)
      (pss_cons (ps_if (pt_val (pe_callB call_isi (by rfl) T.isinstance (by decide +kernel) (pa_cons (pv 1) (pa_cons (pe_bltn (v := .ty "bool") (by rfl) T.bool (by decide +kernel) rfl) pa_nil))))
        (pss_one (ps_ret (pe_and (pe_callB call_isi (by rfl) T.isinstance (by decide +kernel) (pa_cons (pv 0) (pa_cons (pe_bltn (v := .ty "bool") (by rfl) T.bool (by decide +kernel) rfl) pa_nil))) (pe_one (pe_cmpR op_eq (pv 0) (pv 1) (nomark _)))))) pss_nil)
      (pss_cons (ps_if (pt_val (pe_callB call_isi (by rfl) T.isinstance (by decide +kernel) (pa_cons (pv 1) (pa_cons (pe_bltn (v := .ty "int") (by rfl) T.int (by decide +kernel) rfl) pa_nil))))
        (pss_one (ps_ret (pe_and (pe_callB call_isi (by rfl) T.isinstance (by decide +kernel) (pa_cons (pv 0) (pa_cons (pe_bltn (v := .ty "int") (by rfl) T.int (by decide +kernel) rfl) pa_nil))) (pe_and (pe_not (pe_callB call_isi (by rfl) T.isinstance (by decide +kernel) (pa_cons (pv 0) (pa_cons (pe_bltn (v := .ty "bool") (by rfl) T.bool (by decide +kernel) rfl) pa_nil)))) (pe_one (pe_cmpR op_eq (pv 0) (pv 1) (nomark _))))))) pss_nil)
      (pss_cons (ps_if (pt_val (pe_callB call_isi (by rfl) T.isinstance (by decide +kernel) (pa_cons (pv 1) (pa_cons (pe_bltn (v := .ty "str") (by rfl) T.str (by decide +kernel) rfl) pa_nil))))
        (pss_one (ps_ret (pe_and (pe_callB call_isi (by rfl) T.isinstance (by decide +kernel) (pa_cons (pv 0) (pa_cons (pe_bltn (v := .ty "str") (by rfl) T.str (by decide +kernel) rfl) pa_nil))) (pe_one (pe_cmpR op_eq (pv 0) (pv 1) (nomark _)))))) pss_nil)
      (pss_cons (ps_if (pt_cmpR op_ne (pe_callB call_isi (by rfl) T.isinstance (by decide +kernel) (pa_cons (pv 1) (pa_cons (pe_bltn (v := .ty "tuple") (by rfl) T.l.tuple (by decide +kernel) rfl) pa_nil))) (pe_callB call_isi (by rfl) T.isinstance (by decide +kernel) (pa_cons (pv 0) (pa_cons (pe_bltn (v := .ty "tuple") (by rfl) T.l.tuple (by decide +kernel) rfl) pa_nil))) (nomark _))
        (pss_one (ps_ret pe_bl)) pss_nil)
      (pss_cons (ps_if (pt_cmpR op_ne (pe_callB call_isi (by rfl) T.isinstance (by decide +kernel) (pa_cons (pv 1) (pa_cons (pe_bltn (v := .ty "list") (by rfl) T.l.list (by decide +kernel) rfl) pa_nil))) (pe_callB call_isi (by rfl) T.isinstance (by decide +kernel) (pa_cons (pv 0) (pa_cons (pe_bltn (v := .ty "list") (by rfl) T.l.list (by decide +kernel) rfl) pa_nil))) (nomark _))
        (pss_one (ps_ret pe_bl)) pss_nil)
      (pss_cons (ps_if (pt_cmpR op_ne (pe_callB call_len_seq (by rfl) T.l.len boot_len (pa_cons (pv 0) pa_nil)) (pe_callB call_len_seq (by rfl) T.l.len boot_len (pa_cons (pv 1) pa_nil)) (nomark _))
        (pss_one (ps_ret pe_bl)) pss_nil)
      (pss_one (ps_ret (pe_callB (cr_all rfl) (by rfl) T.all (by decide +kernel) (pa_cons (pe_lc (own := [("_law_k", 2)]) (g := (gName 2)) (tt := tYes) (te := tCall sp [] _ (tCons (tOp (rIx K) (tVar 0) (tVar 2)) (tCons (tOp (rIx K) (tVar 1) (tVar 2)) tNil))) rfl sc_equal.nd (pi_range1 (by rfl) T.l.range (pa_cons (pe_callB call_len_seq (by rfl) T.l.len boot_len (pa_cons (pv 1) pa_nil)) pa_nil)) (blkOk_by (own := [("_law_k", 2)]) (N := eqN) (sc := defScope s__law_equal) (by decide +kernel)) (fun _ _ _ _ _ => (pg_name (i := 2) sc_equal.nd rfl (.inl rfl))) (fun _ _ _ _ _ => pts_nil) (fun _ _ _ _ _ => (pe_call GR hr rfl T.equal.g kR bR .nil pass0 (pa_cons (pe_ix ix_seq (pv 0) (pv 2) (fun _ _ => rfl)) (pa_cons (pe_ix ix_seq (pv 1) (pv 2) (fun _ _ => rfl)) pa_nil))))) pa_nil))))))))))), ?_⟩
    rcases hxy with ⟨rfl, nn, hf⟩ | ⟨a, b, xs, ys, rfl, rfl, hab, hp, hyl⟩
    · cases hf with
      | non => exact ⟨_, rfl, rfl, _, rfl, _, rfl, rfl, k H (Same.refl H)⟩
      | bl b =>
        refine ⟨_, rfl, rfl, _, rfl, ?_⟩
        refine ⟨_, rfl, _, _, _, _, true, rfl, .ty _, (Flat.bl b).ty, kit_ty (by decide +kernel), _, rfl, ?_⟩
        refine ⟨_, rfl, _, _, _, _, true, rfl, .ty _, (Flat.bl b).ty, kit_ty (by decide +kernel), _, rfl, ?_⟩
        refine ⟨_, rfl, _, rfl, rfl, ?_⟩
        rw [decide_eq_true rfl]
        exact k H (Same.refl H)
      | int i =>
        refine ⟨_, rfl, rfl, _, rfl, ?_⟩
        refine ⟨_, rfl, _, _, _, _, false, rfl, .ty _, (Flat.int i).ty, kit_ty (by decide +kernel), _, rfl, ?_⟩
        refine ⟨_, rfl, _, _, _, _, true, rfl, .ty _, (Flat.int i).ty, kit_ty (by decide +kernel), _, rfl, ?_⟩
        refine ⟨_, rfl, _, _, _, _, true, rfl, .ty _, (Flat.int i).ty, kit_ty (by decide +kernel), _, rfl, ?_⟩
        refine ⟨_, rfl, _, _, _, _, false, rfl, .ty _, (Flat.int i).ty, kit_ty (by decide +kernel), _, rfl, _, rfl, ?_⟩
        refine ⟨_, rfl, _, rfl, rfl, ?_⟩
        rw [decide_eq_true rfl]
        exact k H (Same.refl H)
      | str z =>
        refine ⟨_, rfl, rfl, _, rfl, ?_⟩
        refine ⟨_, rfl, _, _, _, _, false, rfl, .ty _, (Flat.str z).ty, kit_ty (by decide +kernel), _, rfl, ?_⟩
        refine ⟨_, rfl, _, _, _, _, false, rfl, .ty _, (Flat.str z).ty, kit_ty (by decide +kernel), _, rfl, ?_⟩
        refine ⟨_, rfl, _, _, _, _, true, rfl, .ty _, (Flat.str z).ty, kit_ty (by decide +kernel), _, rfl, ?_⟩
        refine ⟨_, rfl, _, _, _, _, true, rfl, .ty _, (Flat.str z).ty, kit_ty (by decide +kernel), _, rfl, ?_⟩
        refine ⟨_, rfl, _, rfl, rfl, ?_⟩
        rw [decide_eq_true rfl]
        exact k H (Same.refl H)
    · have hlen := hp.length
      rcases hab with ⟨ha, hb⟩ | ⟨ha, hb⟩
      · refine ⟨_, rfl, rfl, _, rfl, ?_⟩
        refine ⟨_, rfl, _, _, _, _, false, rfl, .ty _, (ArN.lst hb).ty, kit_ty (by decide +kernel), _, rfl, ?_⟩
        refine ⟨_, rfl, _, _, _, _, false, rfl, .ty _, (ArN.lst hb).ty, kit_ty (by decide +kernel), _, rfl, ?_⟩
        refine ⟨_, rfl, _, _, _, _, false, rfl, .ty _, (ArN.lst hb).ty, kit_ty (by decide +kernel), _, rfl, ?_⟩
        refine ⟨_, rfl, _, _, _, _, false, rfl, .ty _, (ArN.lst hb).ty, kit_ty (by decide +kernel), _, rfl, _, _, _, _, false, rfl, .ty _, (ArN.lst ha).ty, kit_ty (by decide +kernel), rfl, _, rfl, ?_⟩
        refine ⟨_, rfl, _, _, _, _, true, rfl, .ty _, (ArN.lst hb).ty, kit_ty (by decide +kernel), _, rfl, _, _, _, _, true, rfl, .ty _, (ArN.lst ha).ty, kit_ty (by decide +kernel), rfl, _, rfl, ?_⟩
        refine ⟨_, rfl, a, _, rfl, .inl (SqL.of ha), _, rfl, b, _, rfl, .inl (SqL.of hb), rfl, _, rfl, ?_⟩
        rw [hlen]
        refine iteNS rfl ?_
        refine ⟨_, rfl, b, _, rfl, .inl (SqL.of hb), ?_⟩
        refine ⟨_, rfl, by omega, by omega, fun D nD => ?_⟩
        refine lc_range (lo := 0) (n := ((ys.length : Nat) : Int).toNat) (vs := [2]) (fun i H2 => H2 D = some (.lst ((List.replicate i true).map V.bl)) ∧ Same H H2) ⟨upd_same, sameUpd (Same.refl H) nD⟩ ?_ ?_
        · rintro i H2 hi ⟨hD, sm⟩
          rw [Int.toNat_natCast] at hi
          have ez : (0 : Int) + (i : Nat) = (i : Nat) := by omega
          rw [ez]
          have hx : xs[i]? = some xs[i] := List.getElem?_eq_getElem (by omega)
          obtain ⟨y, hy, hR⟩ := pairedL hp hx
          refine ⟨rfl, _, rfl, _, rfl, .inl ⟨a, _, _, _, rfl, rfl, (SqL.of (sm _ _ ha)), atI_nat hx, _, rfl, _, rfl, .inl ⟨b, _, _, _, rfl, rfl, (SqL.of (sm _ _ hb)), atI_nat hy, ?_⟩⟩⟩
          refine hsp _ _ _ _ _ (Rs _ _ _ _ sm hR) fun H3 s3 => ?_
          refine ⟨_, s3 _ _ hD, ?_, ?_, sameUpd (sm.trans s3) nD⟩
          · rw [List.length_map, List.length_replicate, sizeLine_eq]
            omega
          · rw [upd_same, List.replicate_succ', List.map_append]
            rfl
        · rintro H2 ⟨hD, sm⟩
          refine ⟨D, _, rfl, SqL.of hD, ?_⟩
          have : (List.replicate ((ys.length : Nat) : Int).toNat true).all id = true := by simp
          rw [this]
          exact k H2 sm
      · refine ⟨_, rfl, rfl, _, rfl, ?_⟩
        refine ⟨_, rfl, _, _, _, _, false, rfl, .ty _, hb.ty, kit_ty (by decide +kernel), _, rfl, ?_⟩
        refine ⟨_, rfl, _, _, _, _, false, rfl, .ty _, hb.ty, kit_ty (by decide +kernel), _, rfl, ?_⟩
        refine ⟨_, rfl, _, _, _, _, false, rfl, .ty _, hb.ty, kit_ty (by decide +kernel), _, rfl, ?_⟩
        refine ⟨_, rfl, _, _, _, _, true, rfl, .ty _, hb.ty, kit_ty (by decide +kernel), _, rfl, _, _, _, _, true, rfl, .ty _, ha.ty, kit_ty (by decide +kernel), rfl, _, rfl, ?_⟩
        refine ⟨_, rfl, _, _, _, _, false, rfl, .ty _, hb.ty, kit_ty (by decide +kernel), _, rfl, _, _, _, _, false, rfl, .ty _, ha.ty, kit_ty (by decide +kernel), rfl, _, rfl, ?_⟩
        refine ⟨_, rfl, a, _, rfl, .inr ha.sq, _, rfl, b, _, rfl, .inr hb.sq, rfl, _, rfl, ?_⟩
        rw [hlen]
        refine iteNS rfl ?_
        refine ⟨_, rfl, b, _, rfl, .inr hb.sq, ?_⟩
        refine ⟨_, rfl, by omega, by omega, fun D nD => ?_⟩
        refine lc_range (lo := 0) (n := ((ys.length : Nat) : Int).toNat) (vs := [2]) (fun i H2 => H2 D = some (.lst ((List.replicate i true).map V.bl)) ∧ Same H H2) ⟨upd_same, sameUpd (Same.refl H) nD⟩ ?_ ?_
        · rintro i H2 hi ⟨hD, sm⟩
          rw [Int.toNat_natCast] at hi
          have ez : (0 : Int) + (i : Nat) = (i : Nat) := by omega
          rw [ez]
          have hx : xs[i]? = some xs[i] := List.getElem?_eq_getElem (by omega)
          obtain ⟨y, hy, hR⟩ := pairedL hp hx
          refine ⟨rfl, _, rfl, _, rfl, .inr (.inl ⟨a, _, _, _, rfl, rfl, (ha.same sm).sq, atI_nat hx, _, rfl, _, rfl, .inr (.inl ⟨b, _, _, _, rfl, rfl, (hb.same sm).sq, atI_nat hy, ?_⟩)⟩)⟩
          refine hsp _ _ _ _ _ (Rs _ _ _ _ sm hR) fun H3 s3 => ?_
          refine ⟨_, s3 _ _ hD, ?_, ?_, sameUpd (sm.trans s3) nD⟩
          · rw [List.length_map, List.length_replicate, sizeLine_eq]
            omega
          · rw [upd_same, List.replicate_succ', List.map_append]
            rfl
        · rintro H2 ⟨hD, sm⟩
          refine ⟨D, _, rfl, SqL.of hD, ?_⟩
          have : (List.replicate ((ys.length : Nat) : Int).toNat true).all id = true := by simp
          rw [this]
          exact k H2 sm
theorem ok_equal0 (T : EquT K mg) : FnE P w K mg base CX0 1 ("_law_equal", none) ["_law_actual", "_law_expected"] (spEq 0) := by
  obtain ⟨fd, F⟩ := T.equal.d
  have h := equal_step (n := 0) T F (fn_no (P := P) (w := w) (K := K) (mg := mg) (base := base) rfl) (fun _ _ _ => False) (fun _ _ _ _ _ q => q) (fun _ _ _ _ _ q => q.elim)
  refine ⟨fd, h.imp fun vs H Q E ⟨x, y, e, q, k⟩ => ⟨x, y, e, .inl q, k⟩, F.bindsN fun _ _ _ _ _ _ us hl => match us, hl with | [_, _], _ => rfl, F.kp⟩
theorem ok_equalS (T : EquT K mg) {fd : FuncData} (F : FunD K "_law_equal" "_law_equal" (defArgs s__law_equal) (defBody s__law_equal) (defScope s__law_equal) [] [] (He.fAd K ("_law_equal", none)) fd) :
    ∀ n, FnOk P w K mg base CX0 (n + 1) (He.fAd K ("_law_equal", none)) fd ["_law_actual", "_law_expected"] (spEq n)
  | 0 => (equal_step (n := 0) T F (fn_no (P := P) (w := w) (K := K) (mg := mg) (base := base) rfl) (fun _ _ _ => False) (fun _ _ _ _ _ q => q) (fun _ _ _ _ _ q => q.elim)).imp fun vs H Q E ⟨x, y, e, q, k⟩ => ⟨x, y, e, .inl q, k⟩
  | n + 1 => (equal_step (n := n + 1) T F (ok_equalS T F n) (fun H => EqD H n) (fun _ _ _ _ s q => q.same s) (fun x y H Q E h k => ⟨x, y, rfl, h, k⟩)).imp fun vs H Q E q => q
theorem ok_equal (T : EquT K mg) (n : Nat) : FnE P w K mg base CX0 (n + 1) ("_law_equal", none) ["_law_actual", "_law_expected"] (spEq n) := by
  obtain ⟨fd, F⟩ := T.equal.d
  exact ⟨fd, ok_equalS T F n, F.bindsN fun _ _ _ _ _ _ us hl => match us, hl with | [_, _], _ => rfl, F.kp⟩
end
end Sw

end

section
set_option maxRecDepth 100000
set_option maxHeartbeats 4000000
/-! is_int_in -/
namespace Sw
open PySem PySem.Spec PyProof.Rows L2 SwA
structure IntT (K : PySem.W.Frag) (mg : Str → Option Value) : Prop where
  isinstance : mg "isinstance" = none
  bool : mg "bool" = none
  int : mg "int" = none
  is_int_in : DeT K mg "is_int_in" s_is_int_in
section
variable {P : Program} {w : World} {K : PySem.W.Frag} {mg : Str → Option Value} {base : Heap}
def spIsIntIn (K : PySem.W.Frag) : Sp := fun vs H Q _ => ∃ (v : V) (n : String) (lo hi : Int), vs = [v, .int lo, .int hi] ∧ ArN K H v n ∧ Q (.bl (isIntIn v lo hi)) H
theorem sc_is_int_in : FnScope ["value", "low", "high"] ["value", "low", "high"] (defScope s_is_int_in) := ⟨rfl, rfl, rfl, by decide +kernel, rfl, by decide +kernel, by decide +kernel⟩
theorem ok_int_in (T : IntT K mg) : FnE P w K mg base CX0 1 ("is_int_in", none) ["value", "low", "high"] (spIsIntIn K) := by
  obtain ⟨fd, F⟩ := T.is_int_in.d
  refine ⟨fd, F.ok sc_is_int_in (fun vs H Q E h => ?_) (fun cdv A outer s H vs Q E hr h => ?_), F.bindsN fun _ _ _ _ _ _ us hl => match us, hl with | [_, _, _], _ => rfl, F.kp⟩
  · obtain ⟨v, n, lo, hi, rfl, _⟩ := h
    rfl
  · obtain ⟨v, n, lo, hi, rfl, hv, k⟩ := h
    refine ⟨_, PSs.nox (pss_one (ps_ret (pe_and (pe_callB call_isi (by rfl) T.isinstance (by decide +kernel) (pa_cons (pv 0) (pa_cons (pe_bltn (v := .ty "int") (by rfl) T.int (by decide +kernel) rfl) pa_nil)))
      (pe_and (pe_not (pe_callB call_isi (by rfl) T.isinstance (by decide +kernel) (pa_cons (pv 0) (pa_cons (pe_bltn (v := .ty "bool") (by rfl) T.bool (by decide +kernel) rfl) pa_nil))))
      (pe_one (pe_chain op_le op_le (pv 1) (pv 0) (pv 2))))))), ?_⟩
    have no : ∀ (x : V), kitB n "int" = some false → isIntIn v lo hi = false → _ := fun x h1 h2 => True.intro
    cases hv with
    | int i =>
      refine ⟨_, rfl, _, _, _, _, true, rfl, .ty "int", (ArN.int (K := K) (H := H) i).ty, kit_ty (by decide +kernel), _, rfl, ?_⟩
      refine ⟨_, rfl, _, _, _, _, false, rfl, .ty "bool", (ArN.int (K := K) (H := H) i).ty, kit_ty (by decide +kernel), _, rfl, _, rfl, ?_⟩
      refine ⟨_, rfl, _, rfl, _, _, rfl, rfl, _, rfl, ?_⟩
      refine ite2 (fun h => ?_) (fun h => ?_)
      · refine ⟨_, rfl, _, _, rfl, rfl, ?_⟩
        have e : isIntIn (.int i) lo hi = decide (i ≤ hi) := by simp only [isIntIn]; rw [h]; rfl
        rw [e] at k
        exact k
      · have e : isIntIn (.int i) lo hi = false := by
          simp only [isIntIn]
          have : decide (lo ≤ i) = false := by simpa using h
          rw [this]
          rfl
        rw [e] at k
        exact k
    | bl b =>
      refine ⟨_, rfl, _, _, _, _, true, rfl, .ty "int", (ArN.bl (K := K) (H := H) b).ty, kit_ty (by decide +kernel), _, rfl, ?_⟩
      refine ⟨_, rfl, _, _, _, _, true, rfl, .ty "bool", (ArN.bl (K := K) (H := H) b).ty, kit_ty (by decide +kernel), _, rfl, _, rfl, ?_⟩
      exact k
    | non => exact ⟨_, rfl, _, _, _, _, false, rfl, .ty "int", (ArN.non (K := K) (H := H)).ty, kit_ty (by decide +kernel), _, rfl, k⟩
    | str z => exact ⟨_, rfl, _, _, _, _, false, rfl, .ty "int", (ArN.str (K := K) (H := H) z).ty, kit_ty (by decide +kernel), _, rfl, k⟩
    | tup e => exact ⟨_, rfl, _, _, _, _, false, rfl, .ty "int", (ArN.tup (K := K) (H := H) e).ty, kit_ty (by decide +kernel), _, rfl, k⟩
    | lst e => exact ⟨_, rfl, _, _, _, _, false, rfl, .ty "int", (ArN.lst (K := K) (H := H) e).ty, kit_ty (by decide +kernel), _, rfl, k⟩
end
end Sw

end

section
set_option maxRecDepth 100000
set_option maxHeartbeats 4000000
/-! the machine -/
namespace Sw
open PySem PySem.Spec PyProof.Rows L2 SwA
structure MachT (K : PySem.W.Frag) (mg : Str → Option Value) : Prop where
  lo : LoadT K mg
  isinstance : mg "isinstance" = none
  bool : mg "bool" = none
  REST : ∃ t, mg "REST" = some (.str "rest" t)
  is_int_in : DeT K mg "is_int_in" s_is_int_in
  replaced : DeT K mg "replaced" s_replaced
  state : MkC K mg "State" ["floor", "robots"]
  d_state : FD K ("State", some "__init__") "__init__" "State.__init__" s_State_init
  first_state : DeT K mg "first_state" s_first_state
  moved : DeT K mg "moved" s_moved
  act : DeT K mg "act" s_act
  tick : MkC K mg "Tick" ["swept", "words", "state"]
  d_tick : FD K ("Tick", some "__init__") "__init__" "Tick.__init__" s_Tick_init
  next_tick : DeT K mg "next_tick" s_next_tick
theorem MachT.it {K : PySem.W.Frag} {mg : Str → Option Value} (T : MachT K mg) : IntT K mg := ⟨T.isinstance, T.bool, T.lo.p.int, T.is_int_in⟩
section
variable {P : Program} {w : World} {K : PySem.W.Frag} {mg : Str → Option Value} {base : Heap}
theorem ok_is_int_in (T : MachT K mg) : FnE P w K mg base CX0 1 ("is_int_in", none) ["value", "low", "high"] (spIsIntIn K) := ok_int_in T.it
/-! ### replaced -/
def spReplaced (K : PySem.W.Frag) : Sp := fun vs H Q _ => ∃ (a : Addr) (i : Nat) (v : V) (xs : List V), vs = [.ref a, .int i, v] ∧ H a = some (.tup xs) ∧ i < xs.length ∧ xs.length ≤ 100000 ∧
  ∀ (b : Addr) (H' : Hp), Same H H' → H' b = some (.tup (xs.set i v)) → Q (.ref b) H'
theorem sc_replaced : FnScope ["values", "place", "value"] ["values", "place", "value"] (defScope s_replaced) := ⟨rfl, rfl, rfl, by decide +kernel, rfl, by decide +kernel, by decide +kernel⟩
theorem set_cut {xs : List V} {i : Nat} {v : V} (h : i < xs.length) : xs.set i v = xs.take i ++ (v :: xs.drop (i + 1)) := by
  rw [List.set_eq_take_append_cons_drop, if_pos h]
theorem ok_replaced (T : MachT K mg) : FnE P w K mg base CX0 1 ("replaced", none) ["values", "place", "value"] (spReplaced K) := by
  obtain ⟨fd, F⟩ := T.replaced.d
  refine ⟨fd, F.ok sc_replaced (fun vs H Q E h => ?_) (fun cdv A outer s H vs Q E hr h => ?_), F.bindsN fun _ _ _ _ _ _ us hl => match us, hl with | [_, _, _], _ => rfl, F.kp⟩
  · obtain ⟨a, i, v, xs, rfl, _⟩ := h
    rfl
  · obtain ⟨a, i, v, xs, rfl, ha, hi, hz, k⟩ := h
    refine ⟨_, PSs.nox (pss_one (ps_ret (pe_op op_catA (pe_op op_catA (pe_slice sl_tupA (pv 0) po_none (po_some (pv 1))) (pe_tup (pa_cons (pv 2) pa_nil))) (pe_slice sl_tupA (pv 0) (po_some (pe_op op_add (pv 1) pe_int)) po_none)))), ?_⟩
    have c1 : cutV xs none (some (i : Int)) = xs.take i := by
      show (xs.drop (HT.sIx xs.length 0 none)).take (HT.sIx xs.length xs.length (some (i : Int)) - HT.sIx xs.length 0 none) = xs.take i
      rw [HT.sIx_none, HT.sIx_nat, Nat.min_eq_left (by omega)]
      rfl
    have c2 : cutV xs (some ((i : Int) + 1)) none = xs.drop (i + 1) := by
      have e : ((i : Int) + 1) = ((i + 1 : Nat) : Int) := rfl
      rw [e]
      show (xs.drop (HT.sIx xs.length 0 (some ((i + 1 : Nat) : Int)))).take (HT.sIx xs.length xs.length none - HT.sIx xs.length 0 (some ((i + 1 : Nat) : Int))) = xs.drop (i + 1)
      rw [HT.sIx_none, HT.sIx_nat, Nat.min_eq_left (by omega)]
      exact List.take_of_length_le (by rw [List.length_drop]; omega)
    have w1 : ¬ (HT.sIx xs.length 0 none = 0 ∧ HT.sIx xs.length xs.length (some (i : Int)) = xs.length) := by
      rw [HT.sIx_nat]
      omega
    have w2 : ¬ (HT.sIx xs.length 0 (some ((i : Int) + 1)) = 0 ∧ HT.sIx xs.length xs.length none = xs.length) := by
      have e : ((i : Int) + 1) = ((i + 1 : Nat) : Int) := rfl
      rw [e, HT.sIx_nat]
      omega
    have es := set_cut (v := v) hi
    refine ⟨_, rfl, _, rfl, _, rfl, a, xs, rfl, SqT.of ha, fun q => absurd q w1, fun _ p1 n1 => ?_⟩
    rw [c1]
    have s1 := sameUpd (o := .tup (xs.take i)) (Same.refl H) n1
    refine ⟨_, rfl, (by show 1 ≤ sizeLine; decide), fun p2 n2 => ?_⟩
    have s2 := s1.trans (sameUpd (o := .tup [v]) (Same.refl _) n2)
    have e1 : (upd (upd H p1 (.tup (xs.take i))) p2 (.tup [v])) p1 = some (.tup (xs.take i)) := by rw [upd_ne (ne_of_none upd_same n2), upd_same]
    have lt : (xs.take i).length = i := by rw [List.length_take]; omega
    have ld : (xs.drop (i + 1)).length = xs.length - (i + 1) := List.length_drop
    -- the second sum, from a tuple of take i ++ [v]
    have fin : ∀ (q : Addr) (H3 : Hp), Same H H3 → H3 q = some (.tup (xs.take i ++ [v])) →
        tSl (rSlA K) (tVar 0) (tPart (tOp (rI0 fun i j => .int (i + j)) (tVar 1) (tC (.int 1)))) tNoPart [some (.ref a), some (.int i), some v] H3 fun y H2 => rCatA K (.ref q) y H2 Q := fun q H3 s3 hq => by
      refine ⟨_, rfl, _, rfl, _, _, rfl, rfl, _, rfl, a, xs, rfl, SqT.of (s3 _ _ ha), fun z => absurd z w2, fun _ p4 n4 => ?_⟩
      rw [c2]
      have s4 := sameUpd (o := .tup (xs.drop (i + 1))) (Same.refl H3) n4
      refine ⟨q, p4, _, _, rfl, rfl, SqT.of (s4 _ _ hq), SqT.of upd_same, ?_, fun z => ?_, fun _ z => ?_, fun _ z p5 n5 => ?_⟩
      · rw [List.length_append, lt, ld, sizeLine_eq]
        simp
        omega
      · exact absurd z (by simp)
      · refine k q _ (s3.trans s4) ?_
        rw [s4 _ _ hq, es, z]
      · refine k p5 _ ((s3.trans s4).trans (sameUpd (Same.refl _) n5)) ?_
        rw [upd_same, es, List.append_assoc]
        rfl
    refine ⟨p1, p2, _, _, rfl, rfl, SqT.of e1, SqT.of upd_same, ?_, fun z => ?_, fun _ z => ?_, fun z1 z2 p3 n3 => ?_⟩
    · rw [lt, sizeLine_eq]
      simp
      omega
    · refine fin p2 _ s2 ?_
      rw [upd_same, z]
      rfl
    · exact absurd z (by simp)
    · exact fin p3 _ (s2.trans (sameUpd (Same.refl _) n3)) upd_same
end
end Sw

end

section
set_option maxRecDepth 100000
set_option maxHeartbeats 4000000
/-! the machine: states, ticks -/
namespace Sw
open PySem PySem.Spec PyProof.Rows L2 SwA
def Rob3At (H : Hp) (a : Addr) (r : Rob) : Prop := H a = some (.tup [.int r.1, .bl r.2.1, .int r.2.2])
def StateAt (K : PySem.W.Frag) (H : Hp) (a : Addr) (st : MSt) : Prop := ∃ (dx fa ra : Addr) (ras : List Addr), H a = some (.ins (He.ga K "State") dx [("floor", .ref fa), ("robots", .ref ra)]) ∧
  H fa = some (.tup (st.floor.map iV)) ∧ H ra = some (.tup (ras.map V.ref)) ∧ Paired (Rob3At H) ras st.robots
theorem StateAt.same {K : PySem.W.Frag} {H H' : Hp} {a : Addr} {st : MSt} (s : Same H H') (h : StateAt K H a st) : StateAt K H' a st :=
  let ⟨dx, fa, ra, ras, e1, e2, e3, e4⟩ := h
  ⟨dx, fa, ra, ras, s _ _ e1, s _ _ e2, s _ _ e3, Paired.mapP e4 fun _ _ q => s _ _ q⟩
def TickAt (K : PySem.W.Frag) (H : Hp) (a : Addr) (tk : TickM) : Prop := ∃ (dx sw wo sa : Addr), H a = some (.ins (He.ga K "Tick") dx [("swept", .ref sw), ("words", .ref wo), ("state", .ref sa)]) ∧
  TupN H sw (tk.swept.map iV) ∧ H wo = some (.tup (tk.words.map sV)) ∧ StateAt K H sa tk.state
theorem TickAt.same {K : PySem.W.Frag} {H H' : Hp} {a : Addr} {tk : TickM} (s : Same H H') (h : TickAt K H a tk) : TickAt K H' a tk :=
  let ⟨dx, sw, wo, sa, e1, e2, e3, e4⟩ := h
  ⟨dx, sw, wo, sa, s _ _ e1, e2.mono fun _ z => s _ _ z, s _ _ e3, e4.same s⟩
theorem put_state (a b : V) : putF "robots" b (putF "floor" a []) = ([("floor", a), ("robots", b)] : List (Str × V)) := by kernel_rfl
theorem put_tick (a b c : V) : putF "state" c (putF "words" b (putF "swept" a [])) = ([("swept", a), ("words", b), ("state", c)] : List (Str × V)) := by kernel_rfl
theorem ls_floor {a b : V} : List.lookup ("floor" : Str) ([("floor", a), ("robots", b)] : List (Str × V)) = some a := by kernel_rfl
theorem ls_robots {a b : V} : List.lookup ("robots" : Str) ([("floor", a), ("robots", b)] : List (Str × V)) = some b := by kernel_rfl
theorem lt_swept {a b c : V} : List.lookup ("swept" : Str) ([("swept", a), ("words", b), ("state", c)] : List (Str × V)) = some a := by kernel_rfl
theorem lt_words {a b c : V} : List.lookup ("words" : Str) ([("swept", a), ("words", b), ("state", c)] : List (Str × V)) = some b := by kernel_rfl
theorem lt_state {a b c : V} : List.lookup ("state" : Str) ([("swept", a), ("words", b), ("state", c)] : List (Str × V)) = some c := by kernel_rfl
section
variable {P : Program} {w : World} {K : PySem.W.Frag} {mg : Str → Option Value} {base : Heap}
theorem sc_state : FnScope ["self", "floor", "robots"] ["self", "floor", "robots"] (defScope s_State_init) := ⟨rfl, rfl, rfl, by decide +kernel, rfl, by decide +kernel, by decide +kernel⟩
theorem ok_state (T : MachT K mg) : FnE P w K mg base CX0 1 ("State", some "__init__") ["self", "floor", "robots"] (spInit (He.ga K "State") ["floor", "robots"]) := by
  obtain ⟨fd, F⟩ := T.d_state
  refine ⟨fd, F.ok sc_state (fun vs H Q E h => ?_) (fun cdv A outer s H vs Q E hr h => ?_), F.bindsN fun _ _ _ _ _ _ us hl => match us, hl with | [_, _, _], _ => rfl, F.kp⟩
  · obtain ⟨a, dx, args, rfl, e, _⟩ := h
    simp [e]
  · obtain ⟨p, dx, args, rfl, e, hp, k⟩ := h
    obtain ⟨v1, v2, rfl⟩ : ∃ v1 v2, args = [v1, v2] := by
      match args, e with
      | [v1, v2], _ => exact ⟨v1, v2, rfl⟩
    refine ⟨_, PSs.nox (pss_cons (ps_fld (pv 0) (pv 1) rfl) (pss_one (ps_fld (pv 0) (pv 2) rfl))), ?_⟩
    refine ⟨_, rfl, _, rfl, p, _, dx, _, rfl, hp, T.state.c, T.state.n _ (by simp), lnZ ln0, ?_⟩
    refine ⟨_, rfl, _, rfl, p, _, dx, _, rfl, upd_same, T.state.c, T.state.n _ (by simp), lnZ (lnS ln0), ?_⟩
    refine k _ ?_ fun b hb => by rw [upd_ne hb, upd_ne hb]
    rw [upd_same, put_state]
    rfl
theorem sc_tick : FnScope ["self", "swept", "words", "state"] ["self", "swept", "words", "state"] (defScope s_Tick_init) := ⟨rfl, rfl, rfl, by decide +kernel, rfl, by decide +kernel, by decide +kernel⟩
theorem ok_tick (T : MachT K mg) : FnE P w K mg base CX0 1 ("Tick", some "__init__") ["self", "swept", "words", "state"] (spInit (He.ga K "Tick") ["swept", "words", "state"]) := by
  obtain ⟨fd, F⟩ := T.d_tick
  refine ⟨fd, F.ok sc_tick (fun vs H Q E h => ?_) (fun cdv A outer s H vs Q E hr h => ?_), F.bindsN fun _ _ _ _ _ _ us hl => match us, hl with | [_, _, _, _], _ => rfl, F.kp⟩
  · obtain ⟨a, dx, args, rfl, e, _⟩ := h
    simp [e]
  · obtain ⟨p, dx, args, rfl, e, hp, k⟩ := h
    obtain ⟨v1, v2, v3, rfl⟩ : ∃ v1 v2 v3, args = [v1, v2, v3] := by
      match args, e with
      | [v1, v2, v3], _ => exact ⟨v1, v2, v3, rfl⟩
    refine ⟨_, PSs.nox (pss_cons (ps_fld (pv 0) (pv 1) rfl) (pss_cons (ps_fld (pv 0) (pv 2) rfl) (pss_one (ps_fld (pv 0) (pv 3) rfl)))), ?_⟩
    refine ⟨_, rfl, _, rfl, p, _, dx, _, rfl, hp, T.tick.c, T.tick.n _ (by simp), lnZ ln0, ?_⟩
    refine ⟨_, rfl, _, rfl, p, _, dx, _, rfl, upd_same, T.tick.c, T.tick.n _ (by simp), lnZ (lnS ln0), ?_⟩
    refine ⟨_, rfl, _, rfl, p, _, dx, _, rfl, upd_same, T.tick.c, T.tick.n _ (by simp), lnZ (lnS (lnS ln0)), ?_⟩
    refine k _ ?_ fun b hb => by rw [upd_ne hb, upd_ne hb, upd_ne hb]
    rw [upd_same, put_tick]
    rfl
/-! ### moved -/
def spMoved : Sp := fun vs H Q _ => ∃ (tile tiles : Nat) (right : Bool), vs = [.int tile, .bl right, .int tiles] ∧ tile < tiles ∧
  ∀ (b : Addr) (H' : Hp), Same H H' → H' b = some (.tup [.int (movedM tile right tiles).1, .bl (movedM tile right tiles).2]) → Q (.ref b) H'
theorem sc_moved : FnScope ["tile", "is_right", "tiles", "later"] ["tile", "is_right", "tiles"] (defScope s_moved) := ⟨rfl, rfl, rfl, by decide +kernel, rfl, by decide +kernel, by decide +kernel⟩
theorem ok_moved (T : MachT K mg) : FnE P w K mg base CX0 1 ("moved", none) ["tile", "is_right", "tiles"] spMoved := by
  obtain ⟨fd, F⟩ := T.moved.d
  refine ⟨fd, F.ok sc_moved (fun vs H Q E h => ?_) (fun cdv A outer s H vs Q E hr h => ?_), F.bindsN fun _ _ _ _ _ _ us hl => match us, hl with | [_, _, _], _ => rfl, F.kp⟩
  · obtain ⟨tile, tiles, right, rfl, _⟩ := h
    rfl
  · obtain ⟨tile, tiles, right, rfl, ht, k⟩ := h
    refine ⟨_, PSs.nox (pss_cons (ps_set (i := 3) sc_moved.nd rfl (.inl rfl) (pe_ifExp (pt_val (pv 1)) (pe_op op_add (pv 0) pe_int) (pe_op op_sub (pv 0) pe_int)))
      (pss_one (ps_ret (pe_ifExp (pt_chain op_le op_lt pe_int (pv 3) (pv 2)) (pe_tup (pa_cons (pv 3) (pa_cons (pv 1) pa_nil))) (pe_tup (pa_cons (pv 0) (pa_cons (pe_not (pv 1)) pa_nil))))))), ?_⟩
    have fin : ∀ (x y : V), V.int (movedM tile right tiles).1 = x → V.bl (movedM tile right tiles).2 = y → ∀ p, H p = none → Q (.ref p) (upd H p (.tup [x, y])) := fun x y e1 e2 p np => by
      refine k p _ (sameUpd (Same.refl H) np) ?_
      rw [upd_same, e1, e2]
    cases right with
    | true =>
      refine ⟨_, rfl, _, rfl, ?_⟩
      refine ⟨_, rfl, _, _, rfl, rfl, ?_⟩
      refine ⟨_, rfl, _, _, rfl, rfl, _, rfl, ?_⟩
      refine ite2 (fun h => ?_) (fun h => ?_)
      · refine ⟨_, rfl, _, _, rfl, rfl, _, rfl, ?_⟩
        refine ite2 (fun h2 => ?_) (fun h2 => ?_)
        · have h2 : ((tile : Int) + 1) < tiles := of_decide_eq_true h2
          exact ⟨_, rfl, _, rfl, (by show 2 ≤ sizeLine; decide), fin _ _ (by simp only [movedM, if_pos (show tile + 1 < tiles by omega)]; rfl) (by simp only [movedM, if_pos (show tile + 1 < tiles by omega)]; rfl)⟩
        · have h2 : ¬ ((tile : Int) + 1) < tiles := fun q => h2 (decide_eq_true q)
          exact ⟨_, rfl, _, rfl, _, rfl, (by show 2 ≤ sizeLine; decide), fin _ _ (by simp only [movedM, if_neg (show ¬ tile + 1 < tiles by omega)]; rfl) (by simp only [movedM, if_neg (show ¬ tile + 1 < tiles by omega)]; rfl)⟩
      · exfalso
        exact h (decide_eq_true (by omega))
    | false =>
      refine ⟨_, rfl, _, rfl, ?_⟩
      refine ⟨_, rfl, _, _, rfl, rfl, ?_⟩
      refine ⟨_, rfl, _, _, rfl, rfl, _, rfl, ?_⟩
      refine ite2 (fun h => ?_) (fun h => ?_)
      · have h : (0 : Int) ≤ (tile : Int) - 1 := of_decide_eq_true h
        refine ⟨_, rfl, _, _, rfl, rfl, _, rfl, ?_⟩
        refine ite2 (fun h2 => ?_) (fun h2 => ?_)
        · refine ⟨_, rfl, _, rfl, (by show 2 ≤ sizeLine; decide), fin _ _ ?_ ?_⟩
          · simp only [movedM, if_pos (show 0 < tile by omega)]
            show V.int ((tile - 1 : Nat) : Int) = V.int ((tile : Int) - 1)
            congr 1
            omega
          · simp only [movedM, if_pos (show 0 < tile by omega)]
            rfl
        · exfalso
          exact h2 (decide_eq_true (by omega))
      · have h : ¬ (0 : Int) ≤ (tile : Int) - 1 := fun q => h (decide_eq_true q)
        refine ⟨_, rfl, ?_⟩
        refine iteF ⟨_, rfl, _, rfl, _, rfl, (by show 2 ≤ sizeLine; decide), fin _ _ ?_ ?_⟩
        · simp only [movedM, if_neg (show ¬ 0 < tile by omega)]; rfl
        · simp only [movedM, if_neg (show ¬ 0 < tile by omega)]; rfl
end
end Sw

end

section
set_option maxRecDepth 100000
set_option maxHeartbeats 4000000
/-! the machine: first_state, act, next_tick -/
namespace Sw
open PySem PySem.Spec PyProof.Rows L2 SwA
section
variable {P : Program} {w : World} {K : PySem.W.Frag} {mg : Str → Option Value} {base : Heap}
def spFirstState (K : PySem.W.Frag) : Sp := fun vs H Q _ => ∃ (pa : Addr) (pl : Plan), vs = [.ref pa] ∧ PlanAt K H pa pl ∧ pl.robots.length ≤ 100000 ∧ ∀ (b : Addr) (H' : Hp), H b = none → Same H H' → StateAt K H' b (firstM pl) → Q (.ref b) H'
abbrev fsN : List Str := ["parsed", "tile", "is_right"]
theorem sc_first_state : FnScope fsN ["parsed"] (defScope s_first_state) := ⟨rfl, rfl, rfl, by decide +kernel, rfl, by decide +kernel, by decide +kernel⟩
theorem ok_first_state (T : MachT K mg) : FnE P w K mg base CX0 3 ("first_state", none) ["parsed"] (spFirstState K) := by
  obtain ⟨fd, F⟩ := T.first_state.d
  obtain ⟨fdS, GS, bS, kS⟩ := ok_state (P := P) (w := w) (base := base) T
  refine ⟨fd, F.ok sc_first_state (fun vs H Q E h => ?_) (fun cdv A outer s H vs Q E hr h => ?_), F.bindsN fun _ _ _ _ _ _ us hl => match us, hl with | [_], _ => rfl, F.kp⟩
  · obtain ⟨pa, pl, rfl, _⟩ := h
    rfl
  · obtain ⟨pa, pl, rfl, hp, hz, k⟩ := h
    refine ⟨_, PSs.nox (pss_one (ps_ret (pe_make T.state.m GS hr rfl T.state.g bS .nil pass0 (pa_cons (pe_fld (pv 0) rfl) (pa_cons (pe_callTy call_tuple_of (by rfl) T.lo.p.tuple (by decide +kernel) (pa_cons
      (pe_lc (own := [("tile", 1), ("is_right", 2)]) (g := gTup K 2 (gCons (gName 1) (gCons (gName 2) gNil))) (tt := tYes) (te := tTup (tCons (tVar 1) (tCons (tVar 2) (tCons (tC (.int 0)) tNil)))) rfl sc_first_state.nd (pi_tup (pe_fld (pv 0) rfl))
        (blkOk_by (own := [("tile", 1), ("is_right", 2)]) (N := fsN) (sc := defScope s_first_state) (by decide +kernel))
        (fun _ _ _ _ _ => pg_tup rfl (pgs_cons (pg_name (i := 1) sc_first_state.nd rfl (Or.inl rfl)) (pgs_cons (pg_name (i := 2) sc_first_state.nd rfl (Or.inl rfl)) pgs_nil))) (fun _ _ _ _ _ => pts_nil)
        (fun _ _ _ _ _ => pe_tup (pa_cons (pv 1) (pa_cons (pv 2) (pa_cons pe_int pa_nil))))) pa_nil)) pa_nil))))), ?_⟩
    obtain ⟨dx, sa, ma, fa, ra, rd, ras, e1, e2, e3, e4, e5, e6, e7⟩ := hp
    refine ⟨_, rfl, pa, _, dx, _, _, rfl, e1, T.lo.plan.c, T.lo.plan.n _ (by simp), lpl_floor, _, rfl, pa, _, dx, _, _, rfl, e1, T.lo.plan.c, T.lo.plan.n _ (by simp), lpl_robots, ra, rfl, ⟨_, SqT.of e5⟩, fun D nD => ?_⟩
    refine lc_tup (K := K) (a := ra) (xs := ras.map V.ref) (vs := [1, 2]) (fun i H2 => ∃ bs : List Addr, H2 D = some (.lst (bs.map V.ref)) ∧ Same H H2 ∧ Paired (Rob3At H2) bs (((pl.robots.take i).map fun r => (r.1, r.2, 0)))) ⟨[], upd_same, sameUpd (Same.refl H) nD, .nil⟩ (fun i H2 _ ⟨_, _, sm, _⟩ => SqT.of (sm _ _ e5)) ?_ ?_
    · rintro i x H2 hx ⟨bs, hD, sm, hbs⟩
      rw [List.getElem?_map] at hx
      cases hai : ras[i]? with
      | none => rw [hai] at hx; cases hx
      | some ai =>
        rw [hai] at hx
        cases hx
        obtain ⟨ri, hri, hrob⟩ := Paired_idx e6 hai
        refine ⟨ai, _, rfl, SqT.of (sm _ _ hrob), rfl, _, _, rfl, _, _, rfl, rfl, rfl, _, rfl, _, rfl, (by show 3 ≤ sizeLine; decide), fun tu ntu => ?_⟩
        have s2 := sameUpd (o := .tup [.int ri.1, .bl ri.2, .int 0]) (Same.refl H2) ntu
        refine ⟨bs.map V.ref, s2 _ _ hD, ?_, bs ++ [tu], by rw [upd_same, List.map_append]; rfl, sameUpd (sm.trans s2) nD, ?_⟩
        · rw [List.length_map, hbs.length, List.length_map, List.length_take, sizeLine_eq]
          omega
        · rw [List.take_succ, hri, List.map_append]
          have kt := keepT (o' := .lst (bs.map V.ref ++ [.ref tu])) (s2 _ _ hD) (fun xs q => by cases q)
          exact Paired_snoc (Paired.mapP hbs fun a r q => kt _ _ (s2 _ _ q)) (kt _ _ upd_same)
    · rintro H2 ⟨bs, hD, sm, hbs⟩
      rw [List.length_map, e6.length, List.take_length] at hbs
      refine ⟨D, _, rfl, .inl ⟨SqL.of hD, fun rt nrt => ?_⟩⟩
      have s3 := sameUpd (o := .tup (bs.map V.ref)) (Same.refl H2) nrt
      intro x dx0 nx ndx ne0
      refine init_at (names := ["floor", "robots"]) rfl nx ndx fun H4 sm4 hx => ⟨rfl, ?_⟩
      obtain ⟨ds, hds⟩ := hx
      have sA := (sm.trans s3).trans sm4
      refine k x H4 ((sm.trans s3).free nx) sA ⟨ds, fa, rt, bs, hds, sA _ _ e4, sm4 _ _ upd_same, Paired.mapP hbs fun a r q => sm4 _ _ (s3 _ _ q)⟩
/-! ### act -/
def spAct (K : PySem.W.Frag) : Sp := fun vs H Q _ => ∃ (pa sa : Addr) (i n m : Nat) (pl : Plan) (st : MSt), vs = [.ref pa, .ref sa, .int i] ∧ PlanAt K H pa pl ∧ StateAt K H sa st ∧ WfM n m st ∧ i < m ∧ n ≤ 1000 ∧ m ≤ 1000 ∧
  ∀ (b sb : Addr) (H' : Hp), Same H H' → H' b = some (.tup [sV (actM pl.rules st i).1, .ref sb]) → StateAt K H' sb (actM pl.rules st i).2 → Q (.ref b) H'
abbrev acN : List Str := ["parsed", "state", "number", "tile", "is_right", "mood", "sign", "left", "move", "later", "floor"]
theorem sc_act : FnScope acN ["parsed", "state", "number"] (defScope s_act) := ⟨rfl, rfl, rfl, by decide +kernel, rfl, by decide +kernel, by decide +kernel⟩
theorem e_rest : ("rest" : Str) = sx wRest := by decide +kernel
theorem e_on : ("on" : Str) = sx wOn := by decide +kernel
theorem e_back : ("back" : Str) = sx wBack := by decide +kernel
theorem Paired_set {α β : Type} {F : α → β → Prop} {a : α} {b : β} (h : F a b) : ∀ {l : List α} {m : List β} (i : Nat), Paired F l m → Paired F (l.set i a) (m.set i b)
  | _, _, _, .nil => .nil
  | _, _, 0, .cons x r => .cons h r
  | _, _, i + 1, .cons x r => .cons x (Paired_set h i r)
theorem ok_act (T : MachT K mg) : FnE P w K mg base CX0 3 ("act", none) ["parsed", "state", "number"] (spAct K) := by
  obtain ⟨fd, F⟩ := T.act.d
  obtain ⟨fdS, GS, bS, kS⟩ := ok_state (P := P) (w := w) (base := base) T
  obtain ⟨fdR, GR, bR, kR⟩ := ok_replaced (P := P) (w := w) (base := base) T
  obtain ⟨fdM, GM, bM, kM⟩ := ok_moved (P := P) (w := w) (base := base) T
  obtain ⟨t1, mREST⟩ := T.REST
  refine ⟨fd, F.ok sc_act (fun vs H Q E h => ?_) (fun cdv A outer s H vs Q E hr h => ?_), F.bindsN fun _ _ _ _ _ _ us hl => match us, hl with | [_, _, _], _ => rfl, F.kp⟩
  · obtain ⟨pa, sa, i, n, m, pl, st, rfl, _⟩ := h
    rfl
  · obtain ⟨pa, sa, i, n, m, pl, st, rfl, hp, hst, hw, hi, hn, hm, k⟩ := h
    have hr1 : Room 1 _ := hr.mono (by decide)
    have hu := hu_of hr
    refine ⟨_, PSs.nox (pss_cons (ps_asg (pe_ix ix_tup (pe_fld (pv 1) rfl) (pv 2) (fun _ _ => rfl)) (pg_tup rfl (pgs_cons (pg_name (i := 3) sc_act.nd rfl (.inl rfl)) (pgs_cons (pg_name (i := 4) sc_act.nd rfl (.inl rfl)) (pgs_cons (pg_name (i := 5) sc_act.nd rfl (.inl rfl)) pgs_nil)))))
      (pss_cons (ps_set (i := 6) sc_act.nd rfl (.inl rfl) (pe_ix ix_tup (pe_fld (pv 1) rfl) (pv 3) (fun _ _ => rfl)))
      (pss_cons (ps_if (pt_cmp (pc_dnotin hu (pe_tup (pa_cons (pv 5) (pa_cons (pv 6) pa_nil))) (pe_fld (pv 0) rfl)))
        (pss_one (ps_ret (pe_tup (pa_cons (pe_glob (v := .str "rest") rfl mREST ⟨_, rfl⟩) (pa_cons (pv 1) pa_nil))))) pss_nil)
      (pss_cons (ps_asg (pe_dget hu (pe_fld (pv 0) rfl) (pe_tup (pa_cons (pv 5) (pa_cons (pv 6) pa_nil))) (fun _ _ => rfl)) (pg_tup rfl (pgs_cons (pg_name (i := 7) sc_act.nd rfl (.inl rfl)) (pgs_cons (pg_name (i := 8) sc_act.nd rfl (.inl rfl)) (pgs_cons (pg_name (i := 9) sc_act.nd rfl (.inl rfl)) pgs_nil)))))
      (pss_cons (ps_set (i := 10) sc_act.nd rfl (.inl rfl) (pe_call GR hr1 rfl T.replaced.g kR bR .nil pass0 (pa_cons (pe_fld (pv 1) rfl) (pa_cons (pv 3) (pa_cons (pv 7) pa_nil)))))
      (C8.pss_cut (ps_match (pv 8)
        (pms_str (pss_one (ps_asg (pe_call GM hr1 rfl T.moved.g kM bM .nil pass0 (pa_cons (pv 3) (pa_cons (pv 4) (pa_cons (pe_callB call_len_seq (by rfl) T.lo.p.l.len boot_len (pa_cons (pv 10) pa_nil)) pa_nil))))
            (pg_tup rfl (pgs_cons (pg_name (i := 3) sc_act.nd rfl (.inl rfl)) (pgs_cons (pg_name (i := 4) sc_act.nd rfl (.inl rfl)) pgs_nil)))))
        (pms_str (pss_one (ps_asg (pe_call GM hr1 rfl T.moved.g kM bM .nil pass0 (pa_cons (pv 3) (pa_cons (pe_not (pv 4)) (pa_cons (pe_callB call_len_seq (by rfl) T.lo.p.l.len boot_len (pa_cons (pv 10) pa_nil)) pa_nil))))
            (pg_tup rfl (pgs_cons (pg_name (i := 3) sc_act.nd rfl (.inl rfl)) (pgs_cons (pg_name (i := 4) sc_act.nd rfl (.inl rfl)) pgs_nil))))) pms_nil)))
      (pss_one (ps_ret (pe_tup (pa_cons (pv 8) (pa_cons (pe_make T.state.m GS hr rfl T.state.g bS .nil pass0 (pa_cons (pv 10) (pa_cons (pe_call GR hr1 rfl T.replaced.g kR bR .nil pass0 (pa_cons (pe_fld (pv 1) rfl) (pa_cons (pv 2)
        (pa_cons (pe_tup (pa_cons (pv 3) (pa_cons (pv 4) (pa_cons (pv 9) pa_nil)))) pa_nil)))) pa_nil))) pa_nil))))))))))), ?_⟩
    obtain ⟨dx, sga, moa, fla, rba, rda, rbs, p1, p2, p3, p4, p5, p6, kvs, p7, p8⟩ := hp
    obtain ⟨ds, fa, ra, ras, q1, q2, q3, q4⟩ := id hst
    have hlr : st.robots.length = m := hw.ro
    have hir : i < st.robots.length := by omega
    obtain ⟨⟨tile, right, mood⟩, hrob⟩ : ∃ r, st.robots[i] = r := ⟨_, rfl⟩
    have er : st.robots[i]? = some (tile, right, mood) := by rw [List.getElem?_eq_getElem hir, hrob]
    have hai : i < ras.length := by rw [q4.length]; exact hir
    have ear : ras[i]? = some ras[i] := List.getElem?_eq_getElem hai
    have hri : Rob3At H ras[i] (tile, right, mood) := Paired_get q4 ear er
    have htl : tile < st.floor.length := by rw [hw.fl]; exact hw.ti _ (List.mem_of_getElem? er)
    have efl : st.floor[tile]? = some (st.floor.getD tile 0) := by rw [List.getD_eq_getElem?_getD, List.getElem?_eq_getElem htl]; rfl
    refine ⟨_, rfl, sa, _, ds, _, _, rfl, q1, T.state.c, T.state.n _ (by simp), ls_robots, _, rfl, ra, _, _, _, rfl, rfl, SqT.of q3, atI_nat (by rw [List.getElem?_map, ear]; rfl), ras[i], _, rfl, SqT.of hri, rfl, _, _, rfl, _, _, rfl, _, _, rfl, rfl, ?_⟩
    refine ⟨_, rfl, sa, _, ds, _, _, rfl, q1, T.state.c, T.state.n _ (by simp), ls_floor, _, rfl, fa, _, _, _, rfl, rfl, SqT.of q2, atI_nat (by rw [List.getElem?_map, efl]; rfl), ?_⟩
    generalize hsign : st.floor.getD tile 0 = sign at *
    obtain ⟨g1, g2⟩ := rules_get (k := (mood, sign)) p8
    refine ⟨_, rfl, _, rfl, (by show 2 ≤ sizeLine; decide), fun tk ntk => ?_⟩
    have s1 := sameUpd (o := .tup [.int mood, .int sign]) (Same.refl H) ntk
    refine ⟨_, rfl, pa, _, dx, _, _, rfl, s1 _ _ p1, T.lo.plan.c, T.lo.plan.n _ (by simp), lpl_rules, rda, _, rfl, DGet.t (k := keyT (mood, sign)) (s1 _ _ p7) upd_same, _, rfl, ?_⟩
    cases hget : getA pl.rules (mood, sign) with
    | none =>
      rw [g1 hget]
      refine iteT ?_
      have ea : actM pl.rules st i = (wRest, st) := by simp only [actM, er, hsign, hget]
      refine ⟨_, rfl, (by show 2 ≤ sizeLine; decide), fun b nb => ?_⟩
      have s2 := s1.trans (sameUpd (o := .tup [.str "rest", .ref sa]) (Same.refl _) nb)
      refine k b sa _ s2 ?_ ?_
      · rw [upd_same, ea, e_rest]
      · rw [ea]
        exact hst.same s2
    | some r =>
      obtain ⟨t, g3, g4⟩ := g2 r hget
      rw [g3]
      refine iteF ?_
      refine ⟨_, rfl, pa, _, dx, _, _, rfl, s1 _ _ p1, T.lo.plan.c, T.lo.plan.n _ (by simp), lpl_rules, _, rfl, _, rfl, (by show 2 ≤ sizeLine; decide), fun tk2 ntk2 => ?_⟩
      have s2 := s1.trans (sameUpd (o := .tup [.int mood, .int sign]) (Same.refl _) ntk2)
      refine ⟨rda, _, rfl, ?_, t, _, rfl, SqT.of (s2 _ _ g4), rfl, _, _, rfl, _, _, rfl, _, _, rfl, rfl, ?_⟩
      · have z := DGet.t (k := keyT (mood, sign)) (s2 _ _ p7) (@upd_same (upd H tk (.tup [.int mood, .int sign])) tk2 (.tup [.int mood, .int sign]))
        rw [g3] at z
        exact z
      have q1' := s2 _ _ q1
      have q2' := s2 _ _ q2
      have q3' := s2 _ _ q3
      have q4' : Paired (Rob3At (upd (upd H tk (.tup [.int mood, .int sign])) tk2 (.tup [.int mood, .int sign]))) ras st.robots := Paired.mapP q4 fun a r q => s2 _ _ q
      generalize (upd (upd H tk (.tup [.int mood, .int sign])) tk2 (.tup [.int mood, .int sign])) = H2 at *
      refine ⟨_, rfl, sa, _, ds, _, _, rfl, q1', T.state.c, T.state.n _ (by simp), ls_floor, _, rfl, _, rfl, fa, tile, .int r.left, _, rfl, q2', by rw [List.length_map]; exact htl, by rw [List.length_map, hw.fl]; omega, fun fb H3 s3 hfb => ?_⟩
      have efb : (st.floor.map iV).set tile (.int r.left) = (st.floor.set tile r.left).map iV := by rw [List.map_set]
      rw [efb] at hfb
      have gm := goM_lt (move := r.move) (right := right) htl
      generalize hgo : goM r.move tile right st.floor.length = go at *
      have ea : actM pl.rules st i = (r.move, ⟨st.floor.set tile r.left, st.robots.set i (go.1, go.2, r.later)⟩) := by simp only [actM, er, hsign, hget, hgo]
      refine ⟨fun σ' H' => σ' = [some (.ref pa), some (.ref sa), some (.int i), some (.int go.1), some (.bl go.2), some (.int mood), some (.int sign), some (.int r.left), some (sV r.move), some (.int r.later), some (.ref fb)] ∧ Same H3 H', ?_, ?_⟩
      · refine ⟨_, rfl, _, rfl, fun z => ?_, fun z => ?_⟩
        · have z : r.move = wOn := sx_inj (by rw [← e_on]; exact z)
          refine ⟨_, rfl, _, rfl, _, rfl, fb, _, rfl, .inr (SqT.of hfb), tile, st.floor.length, right, by simp, htl, fun b H4 s4 hb => ?_⟩
          refine ⟨b, _, rfl, SqT.of hb, rfl, _, _, rfl, _, _, rfl, rfl, ?_, s4⟩
          have e : movedM tile right st.floor.length = go := by rw [← hgo]; simp only [goM, if_pos z]
          rw [e]
          rfl
        · have z1 : ¬ r.move = wOn := fun y => z (by rw [y, e_on])
          refine ⟨_, rfl, fun z => ?_, fun z => ?_⟩
          · have z : r.move = wBack := sx_inj (by rw [← e_back]; exact z)
            refine ⟨_, rfl, _, rfl, _, rfl, _, rfl, fb, _, rfl, .inr (SqT.of hfb), tile, st.floor.length, !right, by simp, htl, fun b H4 s4 hb => ?_⟩
            refine ⟨b, _, rfl, SqT.of hb, rfl, _, _, rfl, _, _, rfl, rfl, ?_, s4⟩
            have e : movedM tile (!right) st.floor.length = go := by rw [← hgo]; simp only [goM, if_neg z1, if_pos z]
            rw [e]
            rfl
          · have z2 : ¬ r.move = wBack := fun y => z (by rw [y, e_back])
            refine ⟨?_, Same.refl _⟩
            have e : (tile, right) = go := by rw [← hgo]; simp only [goM, if_neg z1, if_neg z2]
            rw [← e]
            rfl
      · rintro σ' H4 ⟨rfl, s4⟩
        have s34 := s3.trans s4
        refine ⟨_, rfl, _, rfl, _, rfl, sa, _, ds, _, _, rfl, s34 _ _ q1', T.state.c, T.state.n _ (by simp), ls_robots, _, rfl, _, rfl, _, rfl, _, rfl, (by show 3 ≤ sizeLine; decide), fun tr ntr => ?_⟩
        have s5 := s34.trans (sameUpd (o := .tup [.int go.1, .bl go.2, .int r.later]) (Same.refl _) ntr)
        refine ⟨ra, i, .ref tr, _, rfl, s5 _ _ q3', by rw [List.length_map, q4.length]; exact hir, by rw [List.length_map, q4.length]; omega, fun rb H6 s6 hrb => ?_⟩
        have erb : (ras.map V.ref).set i (.ref tr) = (ras.set i tr).map V.ref := by rw [List.map_set]
        rw [erb] at hrb
        intro x dx0 nx ndx ne0
        refine init_at (names := ["floor", "robots"]) rfl nx ndx fun H7 sm7 hx => ⟨rfl, ?_⟩
        obtain ⟨d7, hd7⟩ := hx
        refine ⟨(by show 2 ≤ sizeLine; decide), fun b nb => ?_⟩
        have sfin := sameUpd (o := .tup [sV r.move, .ref x]) (Same.refl H7) nb
        have s47 : Same H4 H7 := ((sameUpd (o := .tup [.int go.1, .bl go.2, .int r.later]) (Same.refl H4) ntr).trans s6).trans sm7
        refine k b x _ ((s2.trans ((s34.trans s47))).trans sfin) (by rw [upd_same, ea]) ?_
        rw [ea]
        refine StateAt.same sfin ⟨d7, fb, rb, ras.set i tr, hd7, s47 _ _ (s4 _ _ hfb), sm7 _ _ hrb, ?_⟩
        refine Paired_set ?_ i (Paired.mapP q4' fun a r q => s47 _ _ (s34 _ _ q))
        exact sm7 _ _ (s6 _ _ upd_same)
end
end Sw

end

section
set_option maxRecDepth 100000
set_option maxHeartbeats 4000000
/-! what a plan's rules keep: named moods, named signs -/
namespace Sw
open PySem PySem.Spec PyProof.Rows L2 SwA
/-- moods that are named, signs that are named -/
def MoS (m : Nat) (st : MSt) : Prop := ∀ r ∈ st.robots, r.2.2 < m
def LaOk (m : Nat) (rules : List ((Nat × Nat) × Rule)) : Prop := ∀ k r, getA rules k = some r → r.later < m
def RuOk (g : Nat) (rules : List ((Nat × Nat) × Rule)) : Prop := ∀ k r, getA rules k = some r → r.left < g
def MvOk (rules : List ((Nat × Nat) × Rule)) : Prop := ∀ k r, getA rules k = some r → r.move ∈ moves
theorem get_ok {pl : Plan} (h : WfP pl) {k : Nat × Nat} {r : Rule} (e : getA pl.rules k = some r) : RuleOk pl.signs.length pl.moods.length (k, r) := by
  unfold getA at e
  cases hf : pl.rules.find? (fun q => decide (q.1 = k)) with
  | none => rw [hf] at e; cases e
  | some q =>
    rw [hf] at e
    cases e
    have e1 : q.1 = k := by
      have := List.find?_some hf
      exact of_decide_eq_true this
    have := h.ru q (List.mem_of_find?_eq_some hf)
    rw [← e1]
    exact this
theorem laOk {pl : Plan} (h : WfP pl) : LaOk pl.moods.length pl.rules := fun _ _ e => (get_ok h e).la
theorem ruOk {pl : Plan} (h : WfP pl) : RuOk pl.signs.length pl.rules := fun _ _ e => (get_ok h e).l
theorem mvOk {pl : Plan} (h : WfP pl) : MvOk pl.rules := fun _ _ e => (get_ok h e).mv
theorem act_mo {m : Nat} {rules : List ((Nat × Nat) × Rule)} {st : MSt} {k : Nat} (hr : LaOk m rules) (h : MoS m st) : MoS m (actM rules st k).2 := by
  unfold actM
  split
  · exact h
  · split
    · exact h
    · rename_i r hr2
      intro x hx
      rcases List.mem_or_eq_of_mem_set hx with z | z
      · exact h x z
      · rw [z]
        exact hr _ _ hr2
theorem acts_mo {m : Nat} {rules : List ((Nat × Nat) × Rule)} {st : MSt} (hr : LaOk m rules) (h : MoS m st) : ∀ k, MoS m (actsM rules st k).2
  | 0 => h
  | k + 1 => act_mo hr (acts_mo hr h k)
theorem act_si {g : Nat} {rules : List ((Nat × Nat) × Rule)} {st : MSt} {k : Nat} (hr : RuOk g rules) (h : ∀ x ∈ st.floor, x < g) : ∀ x ∈ (actM rules st k).2.floor, x < g := by
  unfold actM
  split
  · exact h
  · split
    · exact h
    · rename_i r hr2
      intro x hx
      rcases List.mem_or_eq_of_mem_set hx with z | z
      · exact h x z
      · rw [z]
        exact hr _ _ hr2
theorem acts_si {g : Nat} {rules : List ((Nat × Nat) × Rule)} {st : MSt} (hr : RuOk g rules) (h : ∀ x ∈ st.floor, x < g) : ∀ k, ∀ x ∈ (actsM rules st k).2.floor, x < g
  | 0 => h
  | k + 1 => act_si hr (acts_si hr h k)
end Sw

end

section
set_option maxRecDepth 100000
set_option maxHeartbeats 4000000
/-! the story of a plan: the states one after another, until one comes again -/
namespace Sw
open PySem PySem.Spec PyProof.Rows L2 SwA
/-- the state before tick k -/
def stN (pl : Plan) : Nat → MSt
  | 0 => firstM pl
  | k + 1 => (nextM pl.rules (stN pl k)).state
/-- tick k -/
def tkN (pl : Plan) (k : Nat) : TickM := nextM pl.rules (stN pl k)
theorem tk_state (pl : Plan) (k : Nat) : (tkN pl k).state = stN pl (k + 1) := rfl
theorem first_wf {pl : Plan} (h : ∀ r ∈ pl.robots, r.1 < pl.floor.length) : WfM pl.floor.length pl.robots.length (firstM pl) :=
  ⟨rfl, List.length_map _, fun r hr => by obtain ⟨q, hq, rfl⟩ := List.mem_map.mp hr; exact h q hq⟩
theorem st_wf {pl : Plan} (h : ∀ r ∈ pl.robots, r.1 < pl.floor.length) : ∀ k, WfM pl.floor.length pl.robots.length (stN pl k)
  | 0 => first_wf h
  | k + 1 => (st_wf h k).next
theorem st_mo {pl : Plan} (h : WfP pl) : ∀ k, MoS pl.moods.length (stN pl k)
  | 0 => fun r hr => by
    obtain ⟨q, hq, rfl⟩ := List.mem_map.mp hr
    exact List.length_pos_iff.mpr h.m1
  | k + 1 => acts_mo (laOk h) (st_mo h k) _
theorem st_si {pl : Plan} (h : WfP pl) : ∀ k, ∀ x ∈ (stN pl k).floor, x < pl.signs.length
  | 0 => h.fl
  | k + 1 => acts_si (ruOk h) (st_si h k) _
/-- n ticks are told, all repeats from s on -/
structure Rep (f : Nat → MSt) (n s : Nat) : Prop where
  lt : s < n
  eq : f n = f s
  nd : ∀ i j, i < j → j < n → f i ≠ f j
/-- the index of tick t among the told ones -/
def foldT (n s t : Nat) : Nat := if t < n then t else s + (t - s) % (n - s)
theorem foldT_lt {n s t : Nat} (h : s < n) : foldT n s t < n := by
  unfold foldT
  split
  · assumption
  · have := Nat.mod_lt (t - s) (show n - s > 0 by omega)
    omega
theorem st_step {pl : Plan} {i j : Nat} (h : stN pl i = stN pl j) : stN pl (i + 1) = stN pl (j + 1) := by
  show (nextM pl.rules (stN pl i)).state = (nextM pl.rules (stN pl j)).state
  rw [h]
theorem st_add {pl : Plan} {i j : Nat} (h : stN pl i = stN pl j) : ∀ d, stN pl (i + d) = stN pl (j + d)
  | 0 => h
  | d + 1 => st_step (st_add h d)
theorem st_mul {pl : Plan} {n s : Nat} (h : Rep (stN pl) n s) (d : Nat) : ∀ k, stN pl (s + d + (n - s) * k) = stN pl (s + d)
  | 0 => rfl
  | k + 1 => by
    have hl := h.lt
    rw [← st_mul h d k]
    have e1 : s + d + (n - s) * (k + 1) = n + (d + (n - s) * k) := by
      rw [Nat.mul_add, Nat.mul_one]
      omega
    rw [e1, st_add h.eq]
    congr 1
    omega
theorem st_fold {pl : Plan} {n s : Nat} (h : Rep (stN pl) n s) (t : Nat) : stN pl (foldT n s t) = stN pl t := by
  unfold foldT
  split
  · rfl
  · rename_i hn
    have hl := h.lt
    have := st_mul h ((t - s) % (n - s)) ((t - s) / (n - s))
    rw [← this]
    congr 1
    have := Nat.mod_add_div (t - s) (n - s)
    omega
theorem tk_fold {pl : Plan} {n s : Nat} (h : Rep (stN pl) n s) (t : Nat) : tkN pl (foldT n s t) = tkN pl t := by
  unfold tkN
  rw [st_fold h]
/-- a tick comes again after a multiple of the length -/
theorem tk_again {pl : Plan} {n s : Nat} (h : Rep (stN pl) n s) {v k : Nat} (hs : s ≤ v) : tkN pl (v + (n - s) * k) = tkN pl v := by
  have := st_mul h (v - s) k
  rw [show s + (v - s) = v by omega] at this
  unfold tkN
  rw [this]
theorem Rep.unique {f : Nat → MSt} {n s n' s' : Nat} (h : Rep f n s) (h' : Rep f n' s') : n = n' ∧ s = s' := by
  have e : n = n' := by
    rcases Nat.lt_trichotomy n n' with z | z | z
    · exact absurd h.eq.symm (h'.nd s n h.lt z)
    · exact z
    · exact absurd h'.eq.symm (h.nd s' n' h'.lt z)
  subst e
  refine ⟨rfl, ?_⟩
  rcases Nat.lt_trichotomy s s' with z | z | z
  · exact absurd (h.eq.symm.trans h'.eq) (h.nd s s' z h'.lt)
  · exact z
  · exact absurd (h'.eq.symm.trans h.eq) (h.nd s' s z h.lt)
/-- a state comes again early -/
def Early (pl : Plan) (b : Nat) : Prop := ∃ i j, i < j ∧ j ≤ b ∧ stN pl i = stN pl j
theorem Early.mono {pl : Plan} {b c : Nat} (h : Early pl b) (l : b ≤ c) : Early pl c := let ⟨i, j, h1, h2, h3⟩ := h; ⟨i, j, h1, Nat.le_trans h2 l, h3⟩
/-! keys -/
def robK (r : Rob) : NestedKey := .tup [.num r.1, .num (if r.2.1 = true then 1 else 0), .num r.2.2]
def keyS (st : MSt) : NestedKey := .tup [.tup (st.floor.map fun n : Nat => .num n), .tup (st.robots.map robK)]
theorem robK_inj {a b : Rob} (h : robK a = robK b) : a = b := by
  obtain ⟨a1, a2, a3⟩ := a
  obtain ⟨b1, b2, b3⟩ := b
  unfold robK at h
  injection h with h
  injection h with e1 h
  injection h with e2 h
  injection h with e3 _
  injection e1 with e1
  injection e2 with e2
  injection e3 with e3
  have e1 : a1 = b1 := Int.natCast_inj.mp e1
  have e3 : a3 = b3 := Int.natCast_inj.mp e3
  have e2 : a2 = b2 := by
    cases a2 <;> cases b2 <;> first | rfl | simp at e2
  rw [e1, e2, e3]
theorem map_inj' {α β : Type} {f : α → β} (hf : ∀ a b, f a = f b → a = b) : ∀ {l m : List α}, l.map f = m.map f → l = m
  | [], [], _ => rfl
  | [], _ :: _, h => by cases h
  | _ :: _, [], h => by cases h
  | a :: l, b :: m, h => by
    injection h with h1 h2
    rw [hf _ _ h1, map_inj' hf h2]
theorem keyS_inj {a b : MSt} (h : keyS a = keyS b) : a = b := by
  unfold keyS at h
  injection h with h
  injection h with e1 h
  injection h with e2 _
  injection e1 with e1
  injection e2 with e2
  have f1 : a.floor = b.floor := map_inj' (fun x y z => by injection z with z; exact Int.natCast_inj.mp z) e1
  have f2 : a.robots = b.robots := map_inj' (fun x y z => robK_inj z) e2
  cases a
  cases b
  simp only at f1 f2
  rw [f1, f2]
theorem depth_nums : ∀ l : List Nat, NestedKey.depthAll (l.map fun n : Nat => NestedKey.num n) = 0
  | [] => rfl
  | _ :: l => by
    rw [List.map_cons, NestedKey.depthAll, depth_nums l]
    rfl
theorem depth_robs : ∀ l : List Rob, NestedKey.depthAll (l.map robK) ≤ 1
  | [] => Nat.zero_le _
  | r :: l => by
    have e : (robK r).depth = 1 := rfl
    rw [List.map_cons, NestedKey.depthAll, e]
    exact Nat.max_le.mpr ⟨Nat.le_refl _, depth_robs l⟩
theorem depth_keyS (st : MSt) : (keyS st).depth ≤ 8 := by
  have h1 := depth_nums st.floor
  have h2 := depth_robs st.robots
  show NestedKey.depthAll [.tup (st.floor.map fun n : Nat => .num n), .tup (st.robots.map robK)] + 1 ≤ 8
  simp only [NestedKey.depthAll, NestedKey.depth]
  omega
/-- what is seen: the number of each state -/
def SeenI (f : Nat → MSt) (n : Nat) (kvs : List KvN) : Prop := kvs.map (fun x => (x.1, x.2.2)) = (List.range n).map fun i : Nat => (keyS (f i), V.int i)
theorem valN_map (kvs : List KvN) (k : NestedKey) : valN kvs k = ((kvs.map fun x => (x.1, x.2.2)).find? fun q => decide (q.1 = k)).map (·.2) := by
  unfold valN
  induction kvs with
  | nil => rfl
  | cons x l ih =>
    rw [List.map_cons, List.find?_cons, List.find?_cons]
    by_cases h : x.1 = k
    · simp [h]
    · simp only [h, decide_false]
      exact ih
theorem SeenI.hit {f : Nat → MSt} {n m s : Nat} {kvs : List KvN} (h : SeenI f n kvs) (nd : ∀ i j, i < j → j < n → f i ≠ f j) (hs : s < n) (e : f s = f m) : valN kvs (keyS (f m)) = some (V.int s) := by
  rw [valN_map, h, ← e]
  have : ((List.range n).map fun i : Nat => (keyS (f i), V.int i)).find? (fun q => decide (q.1 = keyS (f s))) = some (keyS (f s), V.int s) := by
    rw [List.find?_map]
    have : (List.range n).find? ((fun q : NestedKey × V => decide (q.1 = keyS (f s))) ∘ fun i : Nat => (keyS (f i), V.int i)) = some s := by
      rw [List.find?_range_eq_some]
      refine ⟨by simp, List.mem_range.mpr hs, fun j hj => ?_⟩
      simp only [Function.comp, Bool.not_eq_true', decide_eq_false_iff_not]
      exact fun z => nd j s hj hs (keyS_inj z)
    rw [this]
    rfl
  rw [this]
  rfl
theorem SeenI.miss {f : Nat → MSt} {n m : Nat} {kvs : List KvN} (h : SeenI f n kvs) (nd : ∀ i < n, f i ≠ f m) : valN kvs (keyS (f m)) = none := by
  rw [valN_map, h]
  have : ((List.range n).map fun i : Nat => (keyS (f i), V.int i)).find? (fun q => decide (q.1 = keyS (f m))) = none := by
    rw [List.find?_eq_none]
    intro x hx
    obtain ⟨i, hi, rfl⟩ := List.mem_map.mp hx
    simp only [decide_eq_true_eq]
    exact fun z => nd i (List.mem_range.mp hi) (keyS_inj z)
  rw [this]
  rfl
theorem SeenI.more {f : Nat → MSt} {n : Nat} {kvs : List KvN} {b : Addr} (h : SeenI f n kvs) : SeenI f (n + 1) (kvs ++ [(keyS (f n), b, V.int n)]) := by
  unfold SeenI at h ⊢
  rw [List.map_append, h, List.range_succ, List.map_append]
  rfl
end Sw

end

section
set_option maxRecDepth 100000
set_option maxHeartbeats 4000000
/-! the law's own machine: how its states lie in the heap -/
namespace Sw
open PySem PySem.Spec PyProof.Rows L2 SwA
abbrev iVn (l : List Nat) : List V := l.map fun n : Nat => V.int n
theorem PlanV.same {H H' : Hp} {a : Addr} {pl : Plan} (s : Same H H') (h : PlanV H a pl) : PlanV H' a pl := by
  obtain ⟨sa, ma, fa, ra, rd, ras, e1, e2, e3, e4, e5, e6, kvs, e7, e8⟩ := h
  exact ⟨sa, ma, fa, ra, rd, ras, s _ _ e1, e2.mono fun _ z => s _ _ z, e3.mono fun _ z => s _ _ z, s _ _ e4, s _ _ e5, Paired.mapP e6 fun _ _ q => s _ _ q, kvs, s _ _ e7, Paired.mapP e8 fun _ _ q => q.mono fun _ _ z => s _ _ z⟩
/-! the law's own corridor; ok: what is true of its lists' places -/
def LState (ok : Addr → Prop) (H : Hp) (a : Addr) (st : MSt) : Prop := ∃ (fl rl : Addr) (ras : List Addr), (ok a ∧ ok fl ∧ ok rl) ∧ H a = some (.lst [.ref fl, .ref rl]) ∧ H fl = some (.lst (iVn st.floor)) ∧ H rl = some (.lst (ras.map V.ref)) ∧ Paired (Rob3At H) ras st.robots
theorem DrawAt.same {H H' : Hp} {d : Addr} (h : DrawAt H d) (s : Same H H') : DrawAt H' d := let ⟨a, b, c, l, e⟩ := h; ⟨a, b, c, l, s _ _ e⟩
theorem DrawAt.put {H : Hp} {d x : Addr} {o : HO} (h : DrawAt H d) (n : d ≠ x) : DrawAt (upd H x o) d := let ⟨a, b, c, l, e⟩ := h; ⟨a, b, c, l, (upd_ne n).trans e⟩
theorem DrawAt.ne {H : Hp} {d x : Addr} (h : DrawAt H d) (n : H x = none) : d ≠ x := fun z => by
  obtain ⟨a, b, c, l, e⟩ := h
  rw [z, n] at e
  cases e
theorem DrawAt.not {H : Hp} {d x : Addr} {o : HO} (hd : DrawAt H d) (h : H x = some o) (n : ∀ xs, o ≠ .lst xs) : x ≠ d := fun z => by
  obtain ⟨a, b, c, _, e⟩ := hd
  rw [z, e] at h
  exact n _ (Option.some.inj h).symm
theorem PlanV.keep {H H' : Hp} {a : Addr} {pl : Plan} (k : ∀ {x : Addr} {o : HO}, H x = some o → (∀ xs, o ≠ .lst xs) → H' x = some o) (h : PlanV H a pl) : PlanV H' a pl := by
  obtain ⟨sa, ma, fa, ra, rd, ras, e1, e2, e3, e4, e5, e6, kvs, e7, e8⟩ := h
  exact ⟨sa, ma, fa, ra, rd, ras, k e1 (by simp), e2.mono fun _ z => k z (by simp), e3.mono fun _ z => k z (by simp), k e4 (by simp), k e5 (by simp), Paired.mapP e6 fun _ _ q => k q (by simp), kvs, k e7 (by simp), Paired.mapP e8 fun _ _ q => q.mono fun _ _ z => k z (by simp)⟩
theorem PlanV.drawn {H H' : Hp} {a d : Addr} {pl : Plan} (hd : DrawAt H d) (dr : Drawn d H H') (h : PlanV H a pl) : PlanV H' a pl := h.keep fun h n => dr.same _ _ (hd.not h n) h
section
/-- tuples stand, and the lists of a kind -/
structure Kp (ok : Addr → Prop) (H H' : Hp) : Prop where
  t : ∀ b xs, H b = some (.tup xs) → H' b = some (.tup xs)
  o : ∀ b o, ok b → H b = some o → H' b = some o
  d : ∀ b ks, H b = some (.dT ks) → H' b = some (.dT ks)
  f : ∀ b o xs, H b = some (.frz o (.tup xs)) → H' b = some (.frz o (.tup xs))
theorem Kp.same {ok : Addr → Prop} {H H' : Hp} (s : Same H H') : Kp ok H H' := ⟨fun _ _ e => s _ _ e, fun _ _ _ e => s _ _ e, fun _ _ e => s _ _ e, fun _ _ _ e => s _ _ e⟩
theorem Kp.trans {ok : Addr → Prop} {H H1 H2 : Hp} (a : Kp ok H H1) (b : Kp ok H1 H2) : Kp ok H H2 := ⟨fun _ _ e => b.t _ _ (a.t _ _ e), fun _ _ k e => b.o _ _ k (a.o _ _ k e), fun _ _ e => b.d _ _ (a.d _ _ e), fun _ _ _ e => b.f _ _ _ (a.f _ _ _ e)⟩
/-- a list of no such kind is stored anew -/
theorem Kp.put {ok : Addr → Prop} {H : Hp} {x : Addr} {xs : List V} {o' : HO} (hx : H x = some (.lst xs)) (n : ¬ ok x) : Kp ok H (upd H x o') :=
  ⟨fun b ys e => (upd_ne (ne_of e hx (by intro z; cases z))).trans e, fun b o k e => (upd_ne (fun z : b = x => n (z ▸ k))).trans e, fun b ys e => (upd_ne (ne_of e hx (by intro z; cases z))).trans e, fun b o ys e => (upd_ne (ne_of e hx (by intro z; cases z))).trans e⟩
variable {ok ok' : Addr → Prop} {H H' : Hp}
theorem PlanV.kp {a : Addr} {pl : Plan} (s : Kp ok H H') (h : PlanV H a pl) : PlanV H' a pl := by
  obtain ⟨sa, ma, fa, ra, rd, ras, e1, ⟨o2, c2, d2, e2⟩, ⟨o3, c3, d3, e3⟩, e4, e5, e6, kvs, e7, e8⟩ := h
  exact ⟨sa, ma, fa, ra, rd, ras, s.t _ _ e1, ⟨o2, c2, d2, s.f _ _ _ e2⟩, ⟨o3, c3, d3, s.f _ _ _ e3⟩, s.t _ _ e4, s.t _ _ e5, Paired.mapP e6 fun _ _ q => s.t _ _ q, kvs, s.d _ _ e7, Paired.mapP e8 fun _ _ q => q.mono fun _ _ z => s.t _ _ z⟩
theorem LState.kp {a : Addr} {st : MSt} (h : LState ok H a st) (s : Kp ok H H') (i : ∀ b, ok b → ok' b := by exact fun _ z => z) : LState ok' H' a st :=
  let ⟨fl, rl, ras, ⟨o1, o2, o3⟩, e1, e2, e3, e4⟩ := h
  ⟨fl, rl, ras, ⟨i _ o1, i _ o2, i _ o3⟩, s.o _ _ o1 e1, s.o _ _ o2 e2, s.o _ _ o3 e3, Paired.mapP e4 fun _ _ q => s.t _ _ q⟩
theorem LState.same {a : Addr} {st : MSt} (h : LState ok H a st) (s : Same H H') : LState ok H' a st := h.kp (.same s)
theorem LState.mono {a : Addr} {st : MSt} (h : LState ok H a st) (i : ∀ b, ok b → ok' b) : LState ok' H a st := h.kp (.same (Same.refl _)) i
end
end Sw

end

section
set_option maxRecDepth 100000
set_option maxHeartbeats 4000000
/-! the law's own machine: empty -/
namespace Sw
open PySem PySem.Spec PyProof.Rows L2 SwA
structure LtT (K : PySem.W.Frag) (mg : Str → Option Value) : Prop where
  li : LinT K mg
  empty : DeT K mg "_law_empty" s__law_empty
  tick : DeT K mg "_law_tick" s__law_tick
section
variable {P : Program} {w : World} {K : PySem.W.Frag} {mg : Str → Option Value} {base : Heap}
def spEmpty : Sp := fun vs H Q _ => ∃ (a : Addr) (pl : Plan), vs = [.ref a] ∧ PlanV H a pl ∧ WfP pl ∧ ∀ (l : Addr) (H' : Hp), H l = none → Same H H' → LState (fun b => H b = none) H' l (firstM pl) → Q (.ref l) H'
abbrev emN : List Str := ["_law_plan_here", "_law_tile", "_law_is_right"]
theorem sc_empty : FnScope emN ["_law_plan_here"] (defScope s__law_empty) := ⟨rfl, rfl, rfl, by decide +kernel, rfl, by decide +kernel, by decide +kernel⟩
theorem ok_empty (T : LtT K mg) : FnE P w K mg base CX0 1 ("_law_empty", none) ["_law_plan_here"] spEmpty := by
  obtain ⟨fd, F⟩ := T.empty.d
  refine ⟨fd, F.ok sc_empty (fun vs H Q E h => ?_) (fun cdv A outer s H vs Q E hr h => ?_), F.bindsN fun _ _ _ _ _ _ us hl => match us, hl with | [_], _ => rfl, F.kp⟩
  · obtain ⟨a, pl, rfl, _⟩ := h
    rfl
  · obtain ⟨a, pl, rfl, hP, wf, k⟩ := h
    refine ⟨_, PSs.nox (pss_one (ps_ret (pe_lst (pa_cons (pe_callTy call_list_of (by rfl) T.li.p.s.l.list (by decide +kernel) (pa_cons (pe_ix ix_tup (pv 0) pe_int (fun _ _ => rfl)) pa_nil)) (pa_cons (pe_lc (own := [("_law_tile", 1), ("_law_is_right", 2)]) (g := (gTup K 2 (gCons (gName 1) (gCons (gName 2) gNil)))) (tt := tYes) (te := tTup (tCons (tVar 1) (tCons (tVar 2) (tCons (tC (.int 0)) tNil)))) rfl sc_empty.nd (pi_tup (pe_ix ix_tup (pv 0) pe_int (fun _ _ => rfl))) (blkOk_by (own := [("_law_tile", 1), ("_law_is_right", 2)]) (N := emN) (sc := defScope s__law_empty) (by decide +kernel)) (fun _ _ _ _ _ => (pg_tup rfl (pgs_cons (pg_name (i := 1) sc_empty.nd rfl (.inl rfl)) (pgs_cons (pg_name (i := 2) sc_empty.nd rfl (.inl rfl)) pgs_nil)))) (fun _ _ _ _ _ => pts_nil) (fun _ _ _ _ _ => (pe_tup (pa_cons (pv 1) (pa_cons (pv 2) (pa_cons pe_int pa_nil)))))) pa_nil))))), ?_⟩
    obtain ⟨sa, ma, fa, ra, rd, ras, e0, e1, e2, e3, e4, e5, kvs, e6, e7⟩ := hP
    have hr3 := wf.r3
    refine ⟨_, rfl, a, _, _, _, rfl, rfl, SqT.of e0, atI_nat (j := 2) rfl, fa, _, rfl, .inr (SqT.of e3), fun fl nfl => ?_⟩
    have s1 := sameUpd (o := .lst (iVn pl.floor)) (Same.refl H) nfl
    have hfl := @upd_same H fl (.lst (iVn pl.floor))
    generalize upd H fl (.lst (iVn pl.floor)) = H1 at *
    refine ⟨_, rfl, a, _, _, _, rfl, rfl, SqT.of (s1 _ _ e0), atI_nat (j := 3) rfl, ra, rfl, ⟨_, SqT.of (s1 _ _ e4)⟩, fun D nD => ?_⟩
    have fD : fl ≠ D := fun z => by rw [← z, hfl] at nD; cases nD
    refine lc_tup (K := K) (a := ra) (xs := ras.map V.ref) (fun i H2 => Same H1 H2 ∧ ∃ bs : List Addr, H2 D = some (.lst (bs.map V.ref)) ∧ Paired (Rob3At H2) bs ((pl.robots.take i).map fun r => (r.1, r.2, 0)))
      ⟨sameUpd (Same.refl H1) nD, [], upd_same, .nil⟩ (fun i H2 _ ⟨sm, _⟩ => SqT.of (sm _ _ (s1 _ _ e4))) ?_ ?_
    · rintro i x H2 hx ⟨sm, bs, hD, hb⟩
      rw [List.getElem?_map] at hx
      cases hra : ras[i]? with
      | none => rw [hra] at hx; cases hx
      | some rai =>
        rw [hra] at hx
        cases hx
        obtain ⟨rb, hr', hrob⟩ := pairedL e5 hra
        have hir : i < pl.robots.length := (List.getElem?_eq_some_iff.mp hr').1
        refine ⟨rai, _, rfl, SqT.of (sm _ _ (s1 _ _ hrob)), rfl, _, _, rfl, _, _, rfl, rfl, rfl, _, rfl, _, rfl, (by show 3 ≤ sizeLine; decide), fun t nt => ?_⟩
        have s2 := sameUpd (o := .tup [.int (rb.1 : Nat), .bl rb.2, .int 0]) (Same.refl H2) nt
        have ht := @upd_same H2 t (.tup [.int (rb.1 : Nat), .bl rb.2, .int 0])
        replace hD := s2 _ _ hD
        replace hb := Paired.mapP hb fun _ _ z => s2 _ _ z
        replace sm := sm.trans s2
        generalize upd H2 t (.tup [.int (rb.1 : Nat), .bl rb.2, .int 0]) = H3 at *
        have hbl := hb.length
        rw [List.length_map, List.length_take] at hbl
        have kt := keepT (o' := .lst (bs.map V.ref ++ [.ref t])) hD (fun xs q => by cases q)
        refine ⟨_, hD, by rw [List.length_map, sizeLine_eq]; omega, sameUpd sm nD, bs ++ [t], ?_, ?_⟩
        · rw [upd_same, List.map_append]
          rfl
        · rw [List.take_succ, hr', List.map_append]
          exact Paired_snoc (Paired.mapP hb fun _ _ z => kt _ _ z) (kt _ _ ht)
    · rintro H2 ⟨sm, bs, hD, hb⟩
      rw [List.length_map, e5.length, List.take_length] at hb
      refine ⟨(by show 2 ≤ sizeLine; decide), fun l nl => ?_⟩
      have s3 := sameUpd (o := .lst [.ref fl, .ref D]) (Same.refl H2) nl
      have s4 := (s1.trans sm).trans s3
      exact k l _ (s1.free (sm.free nl)) s4 ⟨fl, D, bs, ⟨s1.free (sm.free nl), nfl, s1.free nD⟩, upd_same, s3 _ _ (sm _ _ hfl), s3 _ _ hD, Paired.mapP hb fun _ _ z => s3 _ _ z⟩
end
end Sw

end

section
set_option maxRecDepth 100000
set_option maxHeartbeats 4000000
/-! the law's own tick -/
namespace Sw
open PySem PySem.Spec PyProof.Rows L2 SwA
theorem iVn_app (a b : List Nat) : iVn (a ++ b) = iVn a ++ iVn b := List.map_append
theorem iVn_set (l : List Nat) (i x : Nat) : (iVn l).set i (.int x) = iVn (l.set i x) := by unfold iVn; rw [List.map_set]
theorem ixNn {n j : Nat} (hj : j < n) : ixN n (j : Int) = some j := by
  unfold ixN
  rw [if_pos (by omega), if_pos (by omega)]; simp
/-- three lists that change: floor, robots, words; all else of B stands -/
structure LT (B : Hp) (fl rl wo : Addr) (H : Hp) (fs : List Nat) (rs : List Rob) (ws : List Cs) : Prop where
  sm : Same B H
  hf : H fl = some (.lst (iVn fs))
  hr : ∃ ras : List Addr, H rl = some (.lst (ras.map V.ref)) ∧ Paired (Rob3At H) ras rs
  hw : H wo = some (.lst (ws.map sV))
structure LTn (B : Hp) (fl rl wo : Addr) : Prop where
  n1 : B fl = none
  n2 : B rl = none
  n3 : B wo = none
  d1 : fl ≠ rl
  d2 : fl ≠ wo
  d3 : rl ≠ wo
section
variable {B H H' : Hp} {fl rl wo : Addr} {fs : List Nat} {rs : List Rob} {ws : List Cs}
theorem LT.same (h : LT B fl rl wo H fs rs ws) (s : Same H H') : LT B fl rl wo H' fs rs ws :=
  ⟨h.sm.trans s, s _ _ h.hf, let ⟨ras, e1, e2⟩ := h.hr; ⟨ras, s _ _ e1, Paired.mapP e2 fun _ _ q => s _ _ q⟩, s _ _ h.hw⟩
theorem LT.putF (N : LTn B fl rl wo) (h : LT B fl rl wo H fs rs ws) (fs' : List Nat) : LT B fl rl wo (upd H fl (.lst (iVn fs'))) fs' rs ws :=
  ⟨sameUpd h.sm N.n1, upd_same, let ⟨ras, e1, e2⟩ := h.hr; ⟨ras, (upd_ne N.d1.symm).trans e1, Paired.mapP e2 fun _ _ q => keepT h.hf (fun xs q => by cases q) _ _ q⟩, (upd_ne N.d2.symm).trans h.hw⟩
theorem LT.putR (N : LTn B fl rl wo) (h : LT B fl rl wo H fs rs ws) {ras : List Addr} (e1 : H rl = some (.lst (ras.map V.ref))) (e2 : Paired (Rob3At H) ras rs) {t : Addr} {rb : Rob} (ht : Rob3At H t rb) (i : Nat) :
    LT B fl rl wo (upd H rl (.lst ((ras.map V.ref).set i (.ref t)))) fs (rs.set i rb) ws := by
  have kt := keepT (o' := .lst ((ras.map V.ref).set i (.ref t))) e1 (fun xs q => by cases q)
  refine ⟨sameUpd h.sm N.n2, (upd_ne N.d1).trans h.hf, ⟨ras.set i t, ?_, ?_⟩, (upd_ne N.d3.symm).trans h.hw⟩
  · rw [upd_same, List.map_set]
  · have e3 : Paired (Rob3At (upd H rl (.lst ((ras.map V.ref).set i (.ref t))))) ras rs := Paired.mapP e2 fun _ _ q => kt _ _ q
    exact Paired_set (F := Rob3At _) (kt _ _ ht) i e3
theorem LT.putW (N : LTn B fl rl wo) (h : LT B fl rl wo H fs rs ws) (w : Cs) : LT B fl rl wo (upd H wo (.lst (ws.map sV ++ [sV w]))) fs rs (ws ++ [w]) :=
  ⟨sameUpd h.sm N.n3, (upd_ne N.d2).trans h.hf, let ⟨ras, e1, e2⟩ := h.hr; ⟨ras, (upd_ne N.d3).trans e1, Paired.mapP e2 fun _ _ q => keepT h.hw (fun xs q => by cases q) _ _ q⟩, by rw [upd_same, List.map_append]; rfl⟩
end
/-- what is found for a robot: the word, the floor, the mood -/
def lawPick (rules : List ((Nat × Nat) × Rule)) (f : List Nat) (tile mood : Nat) : Cs × List Nat × Nat := match getA rules (mood, f.getD tile 0) with
  | none => (wRest, f, mood)
  | some r => (r.move, f.set tile r.left, r.later)
theorem law_act {rules : List ((Nat × Nat) × Rule)} {st : MSt} {i tile mood : Nat} {right : Bool} (h : st.robots[i]? = some (tile, right, mood)) :
    actM rules st i = ((lawPick rules st.floor tile mood).1, ⟨(lawPick rules st.floor tile mood).2.1, st.robots.set i ((goM (lawPick rules st.floor tile mood).1 tile right st.floor.length).1, (goM (lawPick rules st.floor tile mood).1 tile right st.floor.length).2, (lawPick rules st.floor tile mood).2.2)⟩) := by
  have hi : i < st.robots.length := (List.getElem?_eq_some_iff.mp h).1
  have hg : st.robots[i] = (tile, right, mood) := (List.getElem?_eq_some_iff.mp h).2
  unfold lawPick
  simp only [actM, h]
  cases hget : getA rules (mood, st.floor.getD tile 0) with
  | none =>
    have e : goM wRest tile right st.floor.length = (tile, right) := by
      unfold goM
      rw [if_neg (by decide), if_neg (by decide)]
    simp only [e]
    have e2 : st.robots.set i (tile, right, mood) = st.robots := by rw [← hg]; exact List.set_getElem_self hi
    rw [e2]
  | some r => rfl
theorem pick_len {rules : List ((Nat × Nat) × Rule)} {f : List Nat} {tile mood : Nat} : (lawPick rules f tile mood).2.1.length = f.length := by
  unfold lawPick
  split
  · rfl
  · exact List.length_set
theorem pick_word {rules : List ((Nat × Nat) × Rule)} {f : List Nat} {tile mood : Nat} (h : MvOk rules) : (lawPick rules f tile mood).1 = wRest ∨ (lawPick rules f tile mood).1 = wOn ∨ (lawPick rules f tile mood).1 = wBack ∨ (lawPick rules f tile mood).1 = wStay := by
  unfold lawPick
  split
  · exact .inl rfl
  · rename_i r hr
    have := h _ _ hr
    simp only [moves, List.mem_cons, List.not_mem_nil, or_false] at this
    exact .inr this
theorem dec_w {wd wz : Cs} {z : Str} (ez : z = sx wz) : decide (sV wd = V.str z) = decide (wd = wz) := by
  subst ez
  by_cases e : wd = wz
  · rw [decide_eq_true e, decide_eq_true (by rw [e])]
  · rw [decide_eq_false e, decide_eq_false (fun q => e (sx_inj (V.str.inj q)))]
def thereI (tile : Nat) (r : Bool) : Int := if r = true then (tile : Int) + 1 else (tile : Int) + (0 - 1)
theorem there_in {tile tiles : Nat} {r : Bool} (ht : tile < tiles) (h1 : 0 ≤ thereI tile r) (h2 : thereI tile r < (tiles : Nat)) : thereI tile r = ((movedM tile r tiles).1 : Nat) ∧ (movedM tile r tiles).2 = r := by
  cases r with
  | true =>
    have e : thereI tile true = (tile : Int) + 1 := rfl
    rw [e] at h2 ⊢
    have : tile + 1 < tiles := by omega
    simp only [movedM, if_pos this, if_true]
    exact ⟨by omega, trivial⟩
  | false =>
    have e : thereI tile false = (tile : Int) + (0 - 1) := rfl
    rw [e] at h1 ⊢
    have : 0 < tile := by omega
    simp only [movedM, if_pos this]
    exact ⟨by simp; omega, by simp⟩
theorem there_out {tile tiles : Nat} {r : Bool} (ht : tile < tiles) (h : ¬ (0 ≤ thereI tile r ∧ thereI tile r < (tiles : Nat))) : movedM tile r tiles = (tile, !r) := by
  cases r with
  | true =>
    have e : thereI tile true = (tile : Int) + 1 := rfl
    rw [e] at h
    have : ¬ tile + 1 < tiles := by omega
    simp only [movedM, if_neg this, if_true, Bool.not_true]
  | false =>
    have e : thereI tile false = (tile : Int) + (0 - 1) := rfl
    rw [e] at h
    have : ¬ 0 < tile := by omega
    simp [movedM, if_neg this]
section
variable {P : Program} {w : World} {K : PySem.W.Frag} {mg : Str → Option Value} {base : Heap}
def spLTick : Sp := fun vs H Q _ => ∃ (a sa : Addr) (n m : Nat) (pl : Plan) (st : MSt), vs = [.ref a, .ref sa] ∧ PlanV H a pl ∧ (∃ ok, LState ok H sa st) ∧ WfM n m st ∧ n ≤ 1000 ∧ m ≤ 1000 ∧ MvOk pl.rules ∧
  ∀ (t sw wo sb : Addr) (H' : Hp), Same H H' → H' t = some (.tup [.ref sw, .ref wo, .ref sb]) → H' sw = some (.lst (iVn (nextM pl.rules st).swept)) → H' wo = some (.lst ((nextM pl.rules st).words.map sV)) → LState (fun b => H b = none) H' sb (nextM pl.rules st).state →
    H sw = none → H wo = none → Q (.ref t) H'
abbrev tiN : List Str := ["_law_plan_here", "_law_state", "_law_floor", "_law_robots", "_law_rules", "_law_words", "_law_swept", "_law_robot", "_law_k", "_law_tile", "_law_is_right", "_law_mood", "_law_word", "_law_there"]
theorem sc_ltick : FnScope tiN ["_law_plan_here", "_law_state"] (defScope s__law_tick) := ⟨rfl, rfl, rfl, by decide +kernel, rfl, by decide +kernel, by decide +kernel⟩
theorem ok_ltick (T : LtT K mg) : FnE P w K mg base CX0 1 ("_law_tick", none) ["_law_plan_here", "_law_state"] spLTick := by
  obtain ⟨fd, F⟩ := T.tick.d
  refine ⟨fd, F.ok sc_ltick (fun vs H Q E h => ?_) (fun cdv A outer s H vs Q E hr h => ?_), F.bindsN fun _ _ _ _ _ _ us hl => match us, hl with | [_, _], _ => rfl, F.kp⟩
  · obtain ⟨a, sa, n, m, pl, st, rfl, _⟩ := h
    rfl
  · obtain ⟨a, sa, n, m, pl, st, rfl, hP, hS, hw, hn, hm, mv, k⟩ := h
    have hu := hu_of hr
    refine ⟨_, PSs.nox (pss_cons (ps_par (i := 2) (j := 3) (by rfl) sc_ltick.nd rfl rfl (by decide) rfl rfl (pa_cons (pe_callTy call_list_of (by rfl) T.li.p.s.l.list (by decide +kernel) (pa_cons (pe_ix ix_list (pv 1) pe_int (fun _ _ => rfl)) pa_nil)) (pa_cons (pe_callTy call_list_of (by rfl) T.li.p.s.l.list (by decide +kernel) (pa_cons (pe_ix ix_list (pv 1) pe_int (fun _ _ => rfl)) pa_nil)) pa_nil)) (by rfl))
      (pss_cons (ps_par (i := 4) (j := 5) (by rfl) sc_ltick.nd rfl rfl (by decide) rfl rfl (pa_cons (pe_ix ix_tup (pv 0) pe_int (fun _ _ => rfl)) (pa_cons (pe_lst pa_nil) pa_nil)) (by rfl))
      (pss_cons (ps_setLc (i := 6) (own := [("_law_robot", 7)]) (g := (gName 7)) (tt := tYes) (te := tOp (rIxT K) (tVar 7) (tC (.int 0))) rfl sc_ltick.nd rfl rfl (sw_true rfl rfl rfl (by decide +kernel)) (pi_list (pv 3)) (blkOk_by (own := [("_law_robot", 7)]) (N := tiN) (sc := defScope s__law_tick) (by decide +kernel)) (fun _ _ _ _ _ => (pg_name (i := 7) sc_ltick.nd rfl (.inl rfl))) (fun _ _ _ _ _ => pts_nil) (fun _ _ _ _ _ => (pe_ix ix_tup (pv 7) pe_int (fun _ _ => rfl))))
      (pss_cons (ps_for PassesOwn.never rfl (pi_range1 (by rfl) T.li.p.s.l.range (pa_cons (pe_callB call_len_seq (by rfl) T.li.p.s.l.len boot_len (pa_cons (pv 3) pa_nil)) pa_nil)) (pg_name (i := 8) sc_ltick.nd rfl (.inl rfl))
        (pss_cons (ps_asg (pe_ix ix_list (pv 3) (pv 8) (fun _ _ => rfl))
          (pg_tup rfl (pgs_cons (pg_name (i := 9) sc_ltick.nd rfl (.inl rfl)) (pgs_cons (pg_name (i := 10) sc_ltick.nd rfl (.inl rfl)) (pgs_cons (pg_name (i := 11) sc_ltick.nd rfl (.inl rfl)) pgs_nil)))))
        (pss_cons (ps_set (i := 12) sc_ltick.nd rfl (.inl rfl) pe_str)
        (C8.pss_cut (ps_if (pt_cmp (pc_din hu (pe_tup (pa_cons (pv 11) (pa_cons (pe_ix ix_list (pv 2) (pv 9) (fun _ _ => rfl)) pa_nil))) (pv 4)))
          (pss_one (ps_asg (pe_dget hu (pv 4) (pe_tup (pa_cons (pv 11) (pa_cons (pe_ix ix_list (pv 2) (pv 9) (fun _ _ => rfl)) pa_nil))) (fun _ _ => rfl))
            (pg_tup rfl (pgs_cons (pg_sub (pv 2) (pv 9) set_list (fun _ => rfl)) (pgs_cons (pg_name (i := 12) sc_ltick.nd rfl (.inl rfl)) (pgs_cons (pg_name (i := 11) sc_ltick.nd rfl (.inl rfl)) pgs_nil)))))) pss_nil)
        (C8.pss_cut (ps_if (pt_cmpR op_eq (pv 12) pe_str (nomark _))
          (pss_one (ps_set (i := 10) sc_ltick.nd rfl (.inl rfl) (pe_not (pv 10)))) pss_nil)
        (C8.pss_cut (ps_set (i := 13) sc_ltick.nd rfl (.inl rfl) (pe_op op_add (pv 9) (pe_ifExp (pt_val (pv 10)) pe_int (pe_op op_sub pe_int pe_int))))
        (C8.pss_cut (ps_if (PW.pt (pw_and (pt_cmpR op_in_seq (pv 12) (pe_lst (pa_cons pe_str (pa_cons pe_str pa_nil))) (by rfl)) (pw_and1 (pt_chain op_le op_lt pe_int (pv 13) (pe_callB call_len_seq (by rfl) T.li.p.s.l.len boot_len (pa_cons (pv 2) pa_nil))))))
          (pss_one (ps_set (i := 9) sc_ltick.nd rfl (.inl rfl) (pv 13)))
          (pss_one (ps_if (pt_cmpR op_in_seq (pv 12) (pe_lst (pa_cons pe_str (pa_cons pe_str pa_nil))) (by rfl))
            (pss_one (ps_set (i := 10) sc_ltick.nd rfl (.inl rfl) (pe_not (pv 10)))) pss_nil)))
        (pss_cons (ps_asg (pe_tup (pa_cons (pv 9) (pa_cons (pv 10) (pa_cons (pv 11) pa_nil))))
          (pg_sub (pv 3) (pv 8) set_list (fun _ => rfl)))
        (pss_one (ps_expr (pe_bm PySem.F.plainAttrs_list PySem.F.slot_list_append PySem.F.type_list_append mt_append (pv 5) (pa_cons (pv 12) pa_nil))))))))))))
      (pss_one (ps_ret (pe_tup (pa_cons (pv 6) (pa_cons (pv 5) (pa_cons (pe_lst (pa_cons (pv 2) (pa_cons (pv 3) pa_nil))) pa_nil)))))))))), ?_⟩
    obtain ⟨sga, mda, fa, ra, rd, ras0, e0, e1, e2, e3, e4, e5, kvs, e6, e7⟩ := hP
    obtain ⟨_, fl0, rl0, ras, _, q1, q2, q3, q4⟩ := hS
    have hlr : ras.length = m := by rw [q4.length, hw.ro]
    refine ⟨_, rfl, sa, _, _, _, rfl, rfl, SqL.of q1, atI_nat (j := 0) rfl, fl0, _, rfl, .inl (SqL.of q2), fun fl nfl => ?_⟩
    have s1 := sameUpd (o := .lst (iVn st.floor)) (Same.refl H) nfl
    have hfl := @upd_same H fl (.lst (iVn st.floor))
    generalize upd H fl (.lst (iVn st.floor)) = H1 at *
    refine ⟨_, rfl, sa, _, _, _, rfl, rfl, SqL.of (s1 _ _ q1), atI_nat (j := 1) rfl, rl0, _, rfl, .inl (SqL.of (s1 _ _ q3)), fun rl nrl => ?_⟩
    have d1 : fl ≠ rl := ne_of_none hfl nrl
    have nrl0 : H rl = none := s1.free nrl
    have s2 := sameUpd (o := .lst (ras.map V.ref)) (Same.refl H1) nrl
    have hrl := @upd_same H1 rl (.lst (ras.map V.ref))
    replace hfl := s2 _ _ hfl
    replace s1 := s1.trans s2
    generalize upd H1 rl (.lst (ras.map V.ref)) = H2 at *
    refine ⟨_, _, rfl, ?_⟩
    refine ⟨_, rfl, a, _, _, _, rfl, rfl, SqT.of (s1 _ _ e0), atI_nat (j := 4) rfl, (by show 0 ≤ sizeLine; decide), fun wo nwo => ?_⟩
    have d2 : fl ≠ wo := ne_of_none hfl nwo
    have d3 : rl ≠ wo := ne_of_none hrl nwo
    have nwo0 : H wo = none := s1.free nwo
    have s3 := sameUpd (o := .lst []) (Same.refl H2) nwo
    have hwo := @upd_same H2 wo (.lst [])
    replace hfl := s3 _ _ hfl
    replace hrl := s3 _ _ hrl
    replace s1 := s1.trans s3
    generalize upd H2 wo (.lst []) = H3 at *
    refine ⟨_, _, rfl, ?_⟩
    refine ⟨_, rfl, rl, rfl, ⟨_, SqL.of hrl⟩, fun sw nsw => ?_⟩
    have nsw0 : H sw = none := s1.free nsw
    refine lc_list (K := K) (a := rl) (xs := ras.map V.ref) (fun i H4 => H4 sw = some (.lst (iVn ((st.robots.take i).map (·.1)))) ∧ Same H3 H4) ⟨upd_same, sameUpd (Same.refl H3) nsw⟩ (fun i H4 _ ⟨_, sm⟩ => SqL.of (sm _ _ hrl)) ?_ ?_
    · rintro i x H4 hx ⟨hD, sm⟩
      rw [List.getElem?_map] at hx
      cases hai : ras[i]? with
      | none => rw [hai] at hx; cases hx
      | some ai =>
        rw [hai] at hx
        cases hx
        obtain ⟨ri, hri, hrob⟩ := Paired_idx q4 hai
        have hil : i < ras.length := (List.getElem?_eq_some_iff.mp hai).1
        refine ⟨rfl, _, rfl, ai, _, _, _, rfl, rfl, SqT.of (sm _ _ (s1 _ _ hrob)), rfl, _, hD, ?_, ?_, sameUpd sm nsw⟩
        · rw [List.length_map, List.length_map, List.length_take, sizeLine_eq]
          omega
        · rw [upd_same, List.take_succ, hri, List.map_append, iVn_app]
          rfl
    rintro H4 ⟨hsw, s4⟩
    rw [List.length_map, q4.length, List.take_length] at hsw
    have N : LTn (cutH H4 [fl, rl, wo]) fl rl wo := ⟨cutH_in (by simp), cutH_in (by simp), cutH_in (by simp), d1, d2, d3⟩
    have sB : Same H (cutH H4 [fl, rl, wo]) := fun b o e => by
      rw [cutH_out]
      · exact s4 _ _ (s1 _ _ e)
      · intro hb
        simp only [List.mem_cons, List.not_mem_nil, or_false] at hb
        rcases hb with rfl | rfl | rfl
        · rw [nfl] at e; cases e
        · rw [nrl0] at e; cases e
        · rw [nwo0] at e; cases e
    have hswB : (cutH H4 [fl, rl, wo]) sw = some (.lst (iVn (st.robots.map (·.1)))) := by
      rw [cutH_out]
      · exact hsw
      · intro hb
        simp only [List.mem_cons, List.not_mem_nil, or_false] at hb
        rcases hb with rfl | rfl | rfl
        · exact ne_of_none hfl nsw rfl
        · exact ne_of_none hrl nsw rfl
        · exact ne_of_none hwo nsw rfl
    have L0 : LT (cutH H4 [fl, rl, wo]) fl rl wo H4 st.floor st.robots [] := ⟨cutH_same, s4 _ _ hfl, ⟨ras, s4 _ _ hrl, Paired.mapP q4 fun _ _ q => s4 _ _ (s1 _ _ q)⟩, s4 _ _ hwo⟩
    generalize cutH H4 [fl, rl, wo] = B at *
    refine ⟨_, rfl, rl, _, rfl, .inl (SqL.of (s4 _ _ hrl)), _, rfl, by omega, by rw [List.length_map]; omega, ?_⟩
    have elen : (((ras.map V.ref).length : Nat) : Int).toNat = m := by rw [Int.toNat_natCast, List.length_map, hlr]
    refine for_range (lo := 0) (n := (((ras.map V.ref).length : Nat) : Int).toNat) (fun i σ H5 => ∃ o8 o9 o10 o11 o12 o13 : Option V, σ = [some (.ref a), some (.ref sa), some (.ref fl), some (.ref rl), some (.ref rd), some (.ref wo), some (.ref sw), none, o8, o9, o10, o11, o12, o13] ∧
      LT B fl rl wo H5 (actsM pl.rules st i).2.floor (actsM pl.rules st i).2.robots (actsM pl.rules st i).1) ⟨_, _, _, _, _, _, rfl, L0⟩ ?_ ?_
    · rintro i σ H5 hi ⟨o8, o9, o10, o11, o12, o13, rfl, L⟩
      rw [elen] at hi
      rw [Int.zero_add]
      have hwi := hw.acts (rules := pl.rules) i
      have hws := acts_len pl.rules st i
      obtain ⟨ras5, r1, r2⟩ := id L.hr
      have eS : actsM pl.rules st (i + 1) = ((actsM pl.rules st i).1 ++ [(actM pl.rules (actsM pl.rules st i).2 i).1], (actM pl.rules (actsM pl.rules st i).2 i).2) := rfl
      rw [eS]
      generalize (actsM pl.rules st i).2 = S at *
      generalize (actsM pl.rules st i).1 = W at *
      have hir : i < S.robots.length := by rw [hwi.ro]; exact hi
      obtain ⟨⟨tile, right, mood⟩, hrob⟩ : ∃ r, S.robots[i] = r := ⟨_, rfl⟩
      have er : S.robots[i]? = some (tile, right, mood) := by rw [List.getElem?_eq_getElem hir, hrob]
      have hai : i < ras5.length := by rw [r2.length]; exact hir
      have ear : ras5[i]? = some ras5[i] := List.getElem?_eq_getElem hai
      have hri : Rob3At H5 ras5[i] (tile, right, mood) := Paired_get r2 ear er
      have htl : tile < S.floor.length := by rw [hwi.fl]; exact hwi.ti _ (List.mem_of_getElem? er)
      have htn : tile < n := by rw [← hwi.fl]; exact htl
      have efl : S.floor[tile]? = some (S.floor.getD tile 0) := by rw [List.getD_eq_getElem?_getD, List.getElem?_eq_getElem htl]; rfl
      have ea := law_act (rules := pl.rules) er
      refine ⟨_, rfl, _, rfl, rl, _, _, _, rfl, rfl, SqL.of r1, atI_nat (by rw [List.getElem?_map, ear]; rfl), ras5[i], _, rfl, SqT.of hri, rfl, _, _, rfl, _, _, rfl, _, _, rfl, rfl, ?_⟩
      -- the rule
      have pw := pick_word (f := S.floor) (tile := tile) (mood := mood) mv
      have pl' := pick_len (rules := pl.rules) (f := S.floor) (tile := tile) (mood := mood)
      refine ⟨fun σ' H' => σ' = [some (.ref a), some (.ref sa), some (.ref fl), some (.ref rl), some (.ref rd), some (.ref wo), some (.ref sw), none, some (.int i), some (.int tile), some (.bl right), some (.int (lawPick pl.rules S.floor tile mood).2.2), some (sV (lawPick pl.rules S.floor tile mood).1), o13] ∧
        LT B fl rl wo H' (lawPick pl.rules S.floor tile mood).2.1 S.robots W, ?_, ?_⟩
      · generalize hsign : S.floor.getD tile 0 = sign at *
        have e7' : Paired (RuleAt H5) pl.rules kvs := Paired.mapP e7 fun _ _ q => q.mono fun b xs z => L.sm _ _ (sB _ _ z)
        refine ⟨_, rfl, _, rfl, _, rfl, fl, _, _, _, rfl, rfl, SqL.of L.hf, atI_nat (by rw [List.getElem?_map, efl]; rfl), (by show 2 ≤ sizeLine; decide), fun tk ntk => ?_⟩
        obtain ⟨g1, g2⟩ := rules_get (k := (mood, sign)) e7'
        have s6 := sameUpd (o := .tup [.int mood, .int sign]) (Same.refl H5) ntk
        have htk := @upd_same H5 tk (.tup [.int mood, .int sign])
        have L6 := L.same s6
        generalize upd H5 tk (.tup [.int mood, .int sign]) = H6 at *
        refine ⟨_, rfl, rd, _, rfl, DGet.t (k := keyT (mood, sign)) (L6.sm _ _ (sB _ _ e6)) htk, _, rfl, ?_⟩
        cases hget : getA pl.rules (mood, sign) with
        | none =>
          rw [g1 hget]
          refine iteF ?_
          have eP : lawPick pl.rules S.floor tile mood = (wRest, S.floor, mood) := by simp only [lawPick, hsign, hget]
          rw [eP]
          exact ⟨by rw [e_rest]; rfl, L6⟩
        | some r =>
          obtain ⟨t, g3, g4⟩ := g2 r hget
          rw [g3]
          refine iteT ?_
          have eP : lawPick pl.rules S.floor tile mood = (r.move, S.floor.set tile r.left, r.later) := by simp only [lawPick, hsign, hget]
          rw [eP]
          refine ⟨_, rfl, _, rfl, _, rfl, _, rfl, fl, _, _, _, rfl, rfl, SqL.of L6.hf, atI_nat (by rw [List.getElem?_map, efl]; rfl), (by show 2 ≤ sizeLine; decide), fun tk2 ntk2 => ?_⟩
          have s7 := sameUpd (o := .tup [.int mood, .int sign]) (Same.refl H6) ntk2
          have htk2 := @upd_same H6 tk2 (.tup [.int mood, .int sign])
          have L7 := L6.same s7
          have g5 := s7 _ _ (s6 _ _ g4)
          generalize upd H6 tk2 (.tup [.int mood, .int sign]) = H7 at *
          refine ⟨rd, .ref t, rfl, by rw [← g3]; exact DGet.t (k := keyT (mood, sign)) (L7.sm _ _ (sB _ _ e6)) htk2, t, _, rfl, SqT.of g5, rfl, _, _, rfl, _, rfl, _, rfl, fl, _, _, tile, rfl, rfl, L7.hf, ?_, _, _, rfl, _, _, rfl, rfl, ?_⟩
          · rw [List.length_map]
            exact ixNn htl
          · have ef : (iVn S.floor).set tile (.int r.left) = iVn (S.floor.set tile r.left) := iVn_set _ _ _
            rw [ef]
            exact ⟨rfl, L7.putF N _⟩
      rintro σ' H6 ⟨rfl, L6⟩
      rw [ea]
      generalize (lawPick pl.rules S.floor tile mood).1 = wd at *
      generalize (lawPick pl.rules S.floor tile mood).2.1 = fs at *
      generalize (lawPick pl.rules S.floor tile mood).2.2 = md at *
      -- turned
      have hlt : tile < S.floor.length := htl
      obtain ⟨right2, hr2⟩ : ∃ r : Bool, r = if wd = wBack then !right else right := ⟨_, rfl⟩
      refine ⟨fun σ' H' => σ' = [some (.ref a), some (.ref sa), some (.ref fl), some (.ref rl), some (.ref rd), some (.ref wo), some (.ref sw), none, some (.int i), some (.int tile), some (.bl right2), some (.int md), some (sV wd), o13] ∧ H' = H6, ?_, ?_⟩
      · refine ⟨_, rfl, rfl, _, rfl, ?_⟩
        rw [dec_w e_back]
        by_cases eb : wd = wBack
        · rw [decide_eq_true eb]
          refine iteT ⟨_, rfl, _, rfl, ?_, rfl⟩
          rw [hr2, if_pos eb]
          rfl
        · rw [decide_eq_false eb]
          refine iteF ⟨?_, rfl⟩
          rw [hr2, if_neg eb]
      rintro σ' H6' ⟨rfl, rfl⟩
      -- there
      refine ⟨fun σ' H' => σ' = [some (.ref a), some (.ref sa), some (.ref fl), some (.ref rl), some (.ref rd), some (.ref wo), some (.ref sw), none, some (.int i), some (.int tile), some (.bl right2), some (.int md), some (sV wd), some (.int (thereI tile right2))] ∧ H' = H6', ?_, ?_⟩
      · cases right2 with
        | true => exact ⟨_, rfl, _, rfl, _, rfl, iteT ⟨_, _, rfl, rfl, rfl, rfl⟩⟩
        | false => exact ⟨_, rfl, _, rfl, _, rfl, iteF ⟨_, _, rfl, rfl, _, _, rfl, rfl, rfl, rfl⟩⟩
      rintro σ' H6 ⟨rfl, rfl⟩
      -- moved
      obtain ⟨go, hgo⟩ : ∃ g, g = goM wd tile right S.floor.length := ⟨_, rfl⟩
      rw [← hgo]
      refine ⟨fun σ' H' => ∃ o : Option V, σ' = [some (.ref a), some (.ref sa), some (.ref fl), some (.ref rl), some (.ref rd), some (.ref wo), some (.ref sw), none, some (.int i), some (.int go.1), some (.bl go.2), some (.int md), some (sV wd), o] ∧ LT B fl rl wo H' fs S.robots W, ?_, ?_⟩
      · refine ⟨_, rfl, (by show 2 ≤ sizeLine; decide), fun p np => ?_⟩
        have s7 := sameUpd (o := .lst [.str "on", .str "back"]) (Same.refl H6) np
        have hp := @upd_same H6 p (.lst [.str "on", .str "back"])
        replace L6 := L6.same s7
        generalize upd H6 p (.lst [.str "on", .str "back"]) = H7 at *
        by_cases hmv : wd = wOn ∨ wd = wBack
        · have hin : inV (sV wd) [.str "on", .str "back"] = true := by rcases hmv with rfl | rfl <;> decide +kernel
          refine ⟨p, _, rfl, .inl (SqL.of hp), rfl, rfl, true, congrArg V.bl hin, iteT ?_⟩
          have hg : go = movedM tile right2 S.floor.length := by
            rw [hgo, hr2]
            rcases hmv with rfl | rfl
            · rw [if_neg (by decide)]; rfl
            · rw [if_pos rfl]; rfl
          refine ⟨_, rfl, _, _, rfl, rfl, _, rfl, ?_⟩
          refine ite2 (fun h4 => ?_) (fun h4 => ?_)
          · have h4 := of_decide_eq_true h4
            refine ⟨_, rfl, fl, _, rfl, .inl (SqL.of L6.hf), _, _, rfl, rfl, _, rfl, ?_⟩
            refine ite2 (fun h5 => ?_) (fun h5 => ?_)
            · have h5 := of_decide_eq_true h5
              rw [List.length_map, pl'] at h5
              obtain ⟨g1, g2⟩ := there_in hlt h4 h5
              refine ⟨_, rfl, some (.int (thereI tile right2)), ?_, L6⟩
              rw [hg, g2, ← g1]
              rfl
            · have h5 : ¬ thereI tile right2 < (S.floor.length : Nat) := fun z => h5 (by rw [List.length_map, pl']; exact decide_eq_true z)
              refine ⟨_, rfl, (by show 2 ≤ sizeLine; decide), fun p2 np2 => ?_⟩
              have s8 := sameUpd (o := .lst [.str "on", .str "back"]) (Same.refl H7) np2
              have hp2 := @upd_same H7 p2 (.lst [.str "on", .str "back"])
              replace L6 := L6.same s8
              generalize upd H7 p2 (.lst [.str "on", .str "back"]) = H8 at *
              refine ⟨p2, _, rfl, .inl (SqL.of hp2), rfl, rfl, true, congrArg V.bl hin, iteT ⟨_, rfl, _, rfl, some (.int (thereI tile right2)), ?_, L6⟩⟩
              rw [hg, there_out hlt (fun z => h5 z.2)]
              rfl
          · have h4 : ¬ 0 ≤ thereI tile right2 := fun z => h4 (decide_eq_true z)
            refine ⟨_, rfl, iteF ?_⟩
            refine ⟨_, rfl, (by show 2 ≤ sizeLine; decide), fun p2 np2 => ?_⟩
            have s8 := sameUpd (o := .lst [.str "on", .str "back"]) (Same.refl H7) np2
            have hp2 := @upd_same H7 p2 (.lst [.str "on", .str "back"])
            replace L6 := L6.same s8
            generalize upd H7 p2 (.lst [.str "on", .str "back"]) = H8 at *
            refine ⟨p2, _, rfl, .inl (SqL.of hp2), rfl, rfl, true, congrArg V.bl hin, iteT ⟨_, rfl, _, rfl, some (.int (thereI tile right2)), ?_, L6⟩⟩
            rw [hg, there_out hlt (fun z => h4 z.1)]
            rfl
        · have hin : inV (sV wd) [.str "on", .str "back"] = false := by
            rcases pw with rfl | rfl | rfl | rfl
            · decide +kernel
            · exact absurd (.inl rfl) hmv
            · exact absurd (.inr rfl) hmv
            · decide +kernel
          refine ⟨p, _, rfl, .inl (SqL.of hp), rfl, rfl, false, congrArg V.bl hin, iteF ?_⟩
          refine ⟨_, rfl, (by show 2 ≤ sizeLine; decide), fun p2 np2 => ?_⟩
          have s8 := sameUpd (o := .lst [.str "on", .str "back"]) (Same.refl H7) np2
          have hp2 := @upd_same H7 p2 (.lst [.str "on", .str "back"])
          replace L6 := L6.same s8
          generalize upd H7 p2 (.lst [.str "on", .str "back"]) = H8 at *
          refine ⟨p2, _, rfl, .inl (SqL.of hp2), rfl, rfl, false, congrArg V.bl hin, iteF ⟨some (.int (thereI tile right2)), ?_, L6⟩⟩
          have h1 : ¬ wd = wOn := fun z => hmv (.inl z)
          have h2 : ¬ wd = wBack := fun z => hmv (.inr z)
          have hg : go = (tile, right) := by rw [hgo]; simp only [goM, if_neg h1, if_neg h2]
          rw [hg, hr2, if_neg h2]
      rintro σ' H7 ⟨o, rfl, L7⟩
      -- stored
      refine ⟨_, rfl, _, rfl, _, rfl, (by show 3 ≤ sizeLine; decide), fun t nt => ?_⟩
      have s8 := sameUpd (o := .tup [.int go.1, .bl go.2, .int md]) (Same.refl H7) nt
      have ht := @upd_same H7 t (.tup [.int go.1, .bl go.2, .int md])
      replace L7 := L7.same s8
      generalize upd H7 t (.tup [.int go.1, .bl go.2, .int md]) = H8 at *
      obtain ⟨ras8, r81, r82⟩ := id L7.hr
      have h8l : ras8.length = S.robots.length := r82.length
      refine ⟨_, rfl, _, rfl, rl, _, _, i, rfl, rfl, r81, ?_, ?_⟩
      · rw [List.length_map, h8l]
        exact ixNn hir
      have L9 := L7.putR N r81 r82 (rb := (go.1, go.2, md)) ht i
      generalize upd H8 rl (.lst ((ras8.map V.ref).set i (.ref t))) = H9 at *
      refine ⟨_, rfl, .inl ⟨rfl, _, SqL.of L9.hw⟩, _, rfl, wo, _, _, rfl, rfl, L9.hw, ?_, ?_⟩
      · rw [List.length_map, hws, sizeLine_eq]
        omega
      · exact ⟨_, _, _, _, _, _, rfl, L9.putW N wd⟩
    · rintro σ H5 ⟨o8, o9, o10, o11, o12, o13, rfl, L⟩
      rw [elen] at L
      have eN : nextM pl.rules st = ⟨st.robots.map (·.1), (actsM pl.rules st m).1, (actsM pl.rules st m).2⟩ := by unfold nextM; rw [hw.ro]
      rw [eN] at k
      generalize (actsM pl.rules st m).2 = S at *
      generalize (actsM pl.rules st m).1 = W at *
      refine ⟨_, rfl, _, rfl, _, rfl, _, rfl, (by show 2 ≤ sizeLine; decide), fun sb nsb => ?_⟩
      have sH := sB.trans L.sm
      have nsb0 : H sb = none := sH.free nsb
      have L6 := L.same (sameUpd (o := .lst [.ref fl, .ref rl]) (Same.refl H5) nsb)
      have hsb := @upd_same H5 sb (.lst [.ref fl, .ref rl])
      generalize upd H5 sb (.lst [.ref fl, .ref rl]) = H6 at *
      refine ⟨(by show 3 ≤ sizeLine; decide), fun t nt => ?_⟩
      have s7 := sameUpd (o := .tup [.ref sw, .ref wo, .ref sb]) (Same.refl H6) nt
      have L7 := L6.same s7
      obtain ⟨ras7, r71, r72⟩ := id L7.hr
      exact k t sw wo sb _ (sB.trans L7.sm) upd_same (L7.sm _ _ hswB) L7.hw ⟨fl, rl, ras7, ⟨nsb0, nfl, nrl0⟩, s7 _ _ hsb, L7.hf, r71, r72⟩ nsw0 nwo0
end
end Sw

end

section
set_option maxRecDepth 100000
set_option maxHeartbeats 4000000
/-! properties -/
namespace Sw
open PySem PySem.Spec PyProof.Rows L2 SwA
/-- a property -/
structure PrT (K : PySem.W.Frag) (C f q : Str) (st : Stmt) : Prop where
  d : ∃ fd, FunD K f q (defArgs st) (defBody st) (defScope st) [] [] (He5.wf K (He.ga K C) "property" f) fd
  p : PropOf K (He.ga K C) f (He.ma K (He.ga K C) f) (He5.wf K (He.ga K C) "property" f)
/-- a def at an address keeps a promise -/
def FnX (P : Program) (w : World) (K : PySem.W.Frag) (mg : Str → Option Value) (base : Heap) (CX : CXT) (k : Nat) (f : Addr) (ps : List Str) (sp : Sp) : Prop :=
  ∃ fd, FnOk P w K mg base CX k f fd ps sp ∧ Binds K fd ps []
end Sw

end

section
set_option maxRecDepth 100000
set_option maxHeartbeats 4000000
/-! next_tick -/
namespace Sw
open PySem PySem.Spec PyProof.Rows L2 SwA
section
variable {P : Program} {w : World} {K : PySem.W.Frag} {mg : Str → Option Value} {base : Heap}
def spNextTick (K : PySem.W.Frag) : Sp := fun vs H Q _ => ∃ (pa sa : Addr) (n m : Nat) (pl : Plan) (st : MSt), vs = [.ref pa, .ref sa] ∧ PlanAt K H pa pl ∧ StateAt K H sa st ∧ WfM n m st ∧ n ≤ 1000 ∧ m ≤ 1000 ∧
  ∀ (b : Addr) (H' : Hp), Same H H' → TickAt K H' b (nextM pl.rules st) → Q (.ref b) H'
abbrev ntN : List Str := ["parsed", "state", "swept", "words", "number", "word", "robot"]
theorem sc_next_tick : FnScope ntN ["parsed", "state"] (defScope s_next_tick) := ⟨rfl, rfl, rfl, by decide +kernel, rfl, by decide +kernel, by decide +kernel⟩
theorem ok_next_tick (T : MachT K mg) : FnE P w K mg base CX0 4 ("next_tick", none) ["parsed", "state"] (spNextTick K) := by
  obtain ⟨fd, F⟩ := T.next_tick.d
  obtain ⟨fdA, GA, bA, kA⟩ := ok_act (P := P) (w := w) (base := base) T
  obtain ⟨fdT, GT, bT, kT⟩ := ok_tick (P := P) (w := w) (base := base) T
  refine ⟨fd, F.ok sc_next_tick (fun vs H Q E h => ?_) (fun cdv A outer s H vs Q E hr h => ?_), F.bindsN fun _ _ _ _ _ _ us hl => match us, hl with | [_, _], _ => rfl, F.kp⟩
  · obtain ⟨pa, sa, n, m, pl, st, rfl, _⟩ := h
    rfl
  · obtain ⟨pa, sa, n, m, pl, st, rfl, hp, hst, hw, hn, hm, k⟩ := h
    have hr2 : Room 2 _ := hr.mono (by decide)
    refine ⟨_, PSs.nox (pss_cons (ps_par (by rfl) sc_next_tick.nd (i := 2) (j := 3) rfl rfl (by decide) rfl rfl (pa_cons (pe_tupleOfN (by rfl) T.lo.p.tuple
        (pe_lc (own := [("robot", 6)]) (g := gName 6) (tt := tYes) (te := tOp (rIxT K) (tVar 6) (tC (.int 0))) rfl sc_next_tick.nd (pi_tup (pe_fld (pv 1) rfl))
          (blkOk_by (own := [("robot", 6)]) (N := ntN) (sc := defScope s_next_tick) (by decide +kernel)) (fun _ _ _ _ _ => pg_name (i := 6) sc_next_tick.nd rfl (Or.inl rfl)) (fun _ _ _ _ _ => pts_nil)
          (fun _ _ _ _ _ => pe_ix ix_tup (pv 6) pe_int (fun _ _ => rfl)))) (pa_cons (pe_lst pa_nil) pa_nil)) (by rfl))
      (pss_cons (ps_for PassesOwn.never rfl (pi_range1 (by rfl) T.lo.p.range (pa_cons (pe_callB call_len_seq (by rfl) T.lo.p.l.len boot_len (pa_cons (pe_fld (pv 1) rfl) pa_nil)) pa_nil)) (pg_name (i := 4) sc_next_tick.nd rfl (.inl rfl))
        (pss_cons (ps_asg (pe_call GA hr rfl T.act.g kA bA .nil pass0 (pa_cons (pv 0) (pa_cons (pv 1) (pa_cons (pv 4) pa_nil)))) (pg_tup rfl (pgs_cons (pg_name (i := 5) sc_next_tick.nd rfl (.inl rfl)) (pgs_cons (pg_name (i := 1) sc_next_tick.nd rfl (.inl rfl)) pgs_nil))))
        (pss_one (ps_expr (pe_bm PySem.F.plainAttrs_list PySem.F.slot_list_append PySem.F.type_list_append mt_append (pv 3) (pa_cons (pv 5) pa_nil))))))
      (pss_one (ps_ret (pe_make T.tick.m GT hr2 rfl T.tick.g bT .nil pass0 (pa_cons (pv 2) (pa_cons (pe_callTy call_tuple_of (by rfl) T.lo.p.tuple (by decide +kernel) (pa_cons (pv 3) pa_nil)) (pa_cons (pv 1) pa_nil)))))))), ?_⟩
    obtain ⟨ds, fa, ra, ras, q1, q2, q3, q4⟩ := id hst
    have hlr : ras.length = m := by rw [q4.length, hw.ro]
    refine ⟨_, rfl, sa, _, ds, _, _, rfl, q1, T.state.c, T.state.n _ (by simp), ls_robots, ra, rfl, ⟨_, SqT.of q3⟩, fun D nD => ?_⟩
    refine lc_tup (K := K) (a := ra) (xs := ras.map V.ref) (vs := [6]) (fun i H2 => H2 D = some (.lst (((st.robots.take i).map (·.1)).map iV)) ∧ Same H H2) ⟨upd_same, sameUpd (Same.refl H) nD⟩ (fun i H2 _ ⟨_, sm⟩ => SqT.of (sm _ _ q3)) ?_ ?_
    · rintro i x H2 hx ⟨hD, sm⟩
      rw [List.getElem?_map] at hx
      cases hai : ras[i]? with
      | none => rw [hai] at hx; cases hx
      | some ai =>
        rw [hai] at hx
        cases hx
        obtain ⟨ri, hri, hrob⟩ := Paired_idx q4 hai
        have hil : i < ras.length := (List.getElem?_eq_some_iff.mp hai).1
        refine ⟨rfl, _, rfl, ai, _, _, _, rfl, rfl, SqT.of (sm _ _ hrob), rfl, _, hD, ?_, ?_, sameUpd sm nD⟩
        · rw [List.length_map, List.length_map, List.length_take, sizeLine_eq]
          omega
        · rw [upd_same, List.take_succ, hri, List.map_append, List.map_append]
          rfl
    · rintro H2 ⟨hD, sm⟩
      rw [List.length_map, q4.length, List.take_length] at hD
      refine ⟨D, _, rfl, SqL.of hD, fun sw osw nsw oc od => ?_⟩
      have s3 := sm.trans (sameUpd (o := .frz osw (.tup ((st.robots.map (·.1)).map iV))) (Same.refl H2) nsw)
      have hsw : TupN (upd H2 sw (.frz osw (.tup ((st.robots.map (·.1)).map iV)))) sw ((st.robots.map (·.1)).map iV) := ⟨osw, oc, od, upd_same⟩
      generalize upd H2 sw (.frz osw (.tup ((st.robots.map (·.1)).map iV))) = H3 at *
      refine ⟨(by show 0 ≤ sizeLine; decide), fun wl nwl => ?_⟩
      have s4 := s3.trans (sameUpd (o := .lst []) (Same.refl H3) nwl)
      have nwl0 : H wl = none := s3.free nwl
      have hsw4 : TupN (upd H3 wl (.lst [])) sw ((st.robots.map (·.1)).map iV) := hsw.mono fun _ z => sameUpd (Same.refl H3) nwl _ _ z
      have hwl := @upd_same H3 wl (.lst [])
      generalize upd H3 wl (.lst []) = H4 at *
      refine ⟨_, _, rfl, ?_⟩
      refine ⟨_, rfl, sa, _, ds, _, _, rfl, s4 _ _ q1, T.state.c, T.state.n _ (by simp), ls_robots, ra, _, rfl, .inr (SqT.of (s4 _ _ q3)), _, rfl, by omega, by simp; omega, ?_⟩
      have elen : (((ras.map V.ref).length : Nat) : Int).toNat = m := by rw [Int.toNat_natCast, List.length_map, hlr]
      refine for_range (lo := 0) (n := (((ras.map V.ref).length : Nat) : Int).toNat) (fun i σ H5 => ∃ (sb : Addr) (o4 o5 : Option V), σ = [some (.ref pa), some (.ref sb), some (.ref sw), some (.ref wl), o4, o5, none] ∧ Same H H5 ∧ H5 wl = some (.lst ((actsM pl.rules st i).1.map sV)) ∧
        TupN H5 sw ((st.robots.map (·.1)).map iV) ∧ StateAt K H5 sb (actsM pl.rules st i).2) ⟨sa, none, none, rfl, s4, hwl, hsw4, hst.same s4⟩ ?_ ?_
      · rintro i σ H5 hi ⟨sb, o4, o5, rfl, s5, hw5, hsw5, hst5⟩
        rw [elen] at hi
        refine ⟨_, rfl, _, rfl, _, rfl, pa, sb, i, n, m, pl, _, by rw [Int.zero_add]; rfl, hp.same s5, hst5, hw.acts i, hi, hn, hm, fun b sc H6 s6 hb hst6 => ?_⟩
        refine ⟨b, _, rfl, SqT.of hb, rfl, _, _, rfl, _, _, rfl, rfl, ?_⟩
        refine ⟨_, rfl, .inl ⟨rfl, _, SqL.of (s6 _ _ hw5)⟩, _, rfl, wl, _, _, rfl, rfl, s6 _ _ hw5, ?_, ?_⟩
        · rw [List.length_map, acts_len, sizeLine_eq]
          omega
        · have sk : ∀ a o, a ≠ wl → H6 a = some o → (upd H6 wl (.lst ((actsM pl.rules st i).1.map sV ++ [sV (actM pl.rules (actsM pl.rules st i).2 i).1]))) a = some o := fun a o h e => by rw [upd_ne h]; exact e
          refine ⟨sc, _, _, rfl, sameUpd (s5.trans s6) nwl0, ?_, ?_, ?_⟩
          · rw [upd_same]
            show _ = some (HO.lst (((actsM pl.rules st i).1 ++ [(actM pl.rules (actsM pl.rules st i).2 i).1]).map sV))
            rw [List.map_append]
            rfl
          · refine hsw5.mono fun o z => ?_
            have z6 := s6 _ _ z
            rw [upd_ne (ne_of z6 (s6 _ _ hw5) (by intro q; cases q))]
            exact z6
          · obtain ⟨d6, f6, r6, rs6, z1, z2, z3, z4⟩ := hst6
            have kt := keepT (o' := .lst ((actsM pl.rules st i).1.map sV ++ [sV (actM pl.rules (actsM pl.rules st i).2 i).1])) (s6 _ _ hw5) (fun xs q => by cases q)
            exact ⟨d6, f6, r6, rs6, by rw [upd_ne (ne_of z1 (s6 _ _ hw5) (by intro q; cases q))]; exact z1, kt _ _ z2, kt _ _ z3, Paired.mapP z4 fun a r q => kt _ _ q⟩
      · rintro σ H5 ⟨sb, o4, o5, rfl, s5, hw5, hsw5, hst5⟩
        rw [elen] at hw5 hst5
        refine ⟨_, rfl, _, rfl, wl, _, rfl, .inl ⟨SqL.of hw5, fun wt nwt => ?_⟩⟩
        have s6 := sameUpd (o := .tup ((actsM pl.rules st m).1.map sV)) (Same.refl H5) nwt
        refine ⟨_, rfl, ?_⟩
        intro x dx0 nx ndx ne0
        refine init_at (names := ["swept", "words", "state"]) rfl nx ndx fun H7 sm7 hx => ⟨rfl, ?_⟩
        obtain ⟨d7, hd7⟩ := hx
        have em : nextM pl.rules st = ⟨st.robots.map (·.1), (actsM pl.rules st m).1, (actsM pl.rules st m).2⟩ := by
          unfold nextM
          rw [hw.ro]
        refine k x H7 (s5.trans (s6.trans sm7)) ?_
        rw [em]
        exact ⟨d7, sw, wt, sb, hd7, hsw5.mono fun _ z => sm7 _ _ (s6 _ _ z), sm7 _ _ upd_same, hst5.same (s6.trans sm7)⟩
end
end Sw

end

section
set_option maxRecDepth 100000
set_option maxHeartbeats 400000
/-! Story: made -/
namespace Sw
open PySem PySem.Spec PyProof.Rows L2 SwA
theorem ps_no {X : Cx} {st : Stmt} : PS X st (fun _ _ _ => False) := ⟨fun pins s σ H D I h => h.elim⟩
/-- what never changes -/
def FixS (K : PySem.W.Frag) : HO → Prop
  | .tup _ => True
  | .dT _ => True
  | .frz _ _ => True
  | .ins C _ _ => C ≠ He.ga K "Story"
  | _ => False
def FzS (K : PySem.W.Frag) (H H' : Hp) : Prop := ∀ a o, H a = some o → FixS K o → H' a = some o
theorem FzS.put {K : PySem.W.Frag} {H : Hp} {x : Addr} {o o' : HO} (hx : H x = some o) (nf : ¬ FixS K o) : FzS K H (upd H x o') := fun a u e f => by
  rw [upd_ne (ne_of e hx (fun q => nf (q ▸ f)))]
  exact e
structure ApS (K : PySem.W.Frag) : Prop where
  st : He.ga K "State" ≠ He.ga K "Story"
  pl : He.ga K "Plan" ≠ He.ga K "Story"
  tk : He.ga K "Tick" ≠ He.ga K "Story"
section
variable {K : PySem.W.Frag} {H H' : Hp}
theorem StateAt.fzS (A : ApS K) {a : Addr} {st : MSt} (s : FzS K H H') (h : StateAt K H a st) : StateAt K H' a st :=
  let ⟨dx, fa, ra, ras, e1, e2, e3, e4⟩ := h
  ⟨dx, fa, ra, ras, s _ _ e1 A.st, s _ _ e2 trivial, s _ _ e3 trivial, Paired.mapP e4 fun _ _ q => s _ _ q trivial⟩
theorem TickAt.fzS (A : ApS K) {a : Addr} {t : TickM} (s : FzS K H H') (h : TickAt K H a t) : TickAt K H' a t :=
  let ⟨dx, sw, wo, sa, e1, e2, e3, e4⟩ := h
  ⟨dx, sw, wo, sa, s _ _ e1 A.tk, e2.mono fun _ z => s _ _ z trivial, s _ _ e3 trivial, e4.fzS A s⟩
theorem PlanAt.fzS (A : ApS K) {a : Addr} {pl : Plan} (s : FzS K H H') (h : PlanAt K H a pl) : PlanAt K H' a pl := by
  obtain ⟨dx, sa, ma, fa, ra, rd, ras, e1, e2, e3, e4, e5, e6, kvs, e7, e8⟩ := h
  exact ⟨dx, sa, ma, fa, ra, rd, ras, s _ _ e1 A.pl, e2.mono fun _ z => s _ _ z trivial, e3.mono fun _ z => s _ _ z trivial, s _ _ e4 trivial, s _ _ e5 trivial, Paired.mapP e6 fun _ _ q => s _ _ q trivial, kvs, s _ _ e7 trivial, Paired.mapP e8 fun _ _ q => q.mono fun _ _ z => s _ _ z trivial⟩
end
abbrev stoFs (a b : V) : List (Str × V) := [("ticks", a), ("start", b)]
theorem lo_ticks {a b : V} : List.lookup ("ticks" : Str) (stoFs a b) = some a := by kernel_rfl
theorem lo_start {a b : V} : List.lookup ("start" : Str) (stoFs a b) = some b := by kernel_rfl
theorem put_s1 (a : V) : putF "ticks" a [] = ([("ticks", a)] : List (Str × V)) := by kernel_rfl
theorem put_s2 (a b : V) : putF "start" b [("ticks", a)] = stoFs a b := by kernel_rfl
theorem put_s3 (a b c : V) : putF "start" c (stoFs a b) = stoFs a c := by kernel_rfl
def ticksL (pl : Plan) (n : Nat) : List TickM := (List.range n).map (tkN pl)
/-- a finished story -/
def StoryAt (K : PySem.W.Frag) (H : Hp) (a : Addr) (pl : Plan) (n s : Nat) : Prop := ∃ (dx tl : Addr) (tas : List Addr), H a = some (.ins (He.ga K "Story") dx (stoFs (.ref tl) (.int s))) ∧ H tl = some (.lst (tas.map V.ref)) ∧ Paired (TickAt K H) tas (ticksL pl n) ∧ Rep (stN pl) n s ∧ n ≤ 20000
theorem StoryAt.same {K : PySem.W.Frag} {H H' : Hp} {a : Addr} {pl : Plan} {n s : Nat} (h : StoryAt K H a pl n s) (m : Same H H') : StoryAt K H' a pl n s :=
  let ⟨dx, tl, tas, e1, e2, e3, e4⟩ := h
  ⟨dx, tl, tas, m _ _ e1, m _ _ e2, Paired.mapP e3 fun _ _ q => q.same m, e4⟩
theorem hu9_of {A : Around} {k : Nat} (hr : Room k A) : A.units + 9 < cLine := by
  have := hr.units
  omega
structure StoT (K : PySem.W.Frag) (mg : Str → Option Value) : Prop where
  m : MachT K mg
  ap : ApS K
  key : PrT K "State" "key" "State.key" s_State_key
  MAX : ∃ t, mg "MAX_STATES" = some (.int 20000 t)
  sto : MkC K mg "Story" ["ticks", "start"]
  d_sto : FD K ("Story", some "__init__") "__init__" "Story.__init__" s_Story_init
section
variable {P : Program} {w : World} {K : PySem.W.Frag} {mg : Str → Option Value} {base : Heap}
def spKey (K : PySem.W.Frag) : Sp := fun vs H Q _ => ∃ (sa : Addr) (st : MSt), vs = [.ref sa] ∧ StateAt K H sa st ∧ ∀ (b : Addr) (H' : Hp), H b = none → Same H H' → KeyN H' (keyS st) b → Q (.ref b) H'
theorem sc_key : FnScope ["self"] ["self"] (defScope s_State_key) := ⟨rfl, rfl, rfl, by decide +kernel, rfl, by decide +kernel, by decide +kernel⟩
theorem nk_nums {H : Hp} : ∀ l : List Nat, NkAll H (l.map fun n : Nat => .num n) (l.map fun n : Nat => V.int n)
  | [] => .nil
  | _ :: l => .cons (.int _) (nk_nums l)
theorem nk_robs {H : Hp} : ∀ {ras : List Addr} {rs : List Rob}, Paired (Rob3At H) ras rs → NkAll H (rs.map robK) (ras.map V.ref)
  | _, _, .nil => .nil
  | _, _, .cons h t => .cons (.tup h (.cons (.int _) (.cons (.bl _) (.cons (.int _) .nil)))) (nk_robs t)
theorem ok_key (T : StoT K mg) : FnX P w K mg base CX0 1 (He5.wf K (He.ga K "State") "property" "key") ["self"] (spKey K) := by
  obtain ⟨fd, F⟩ := T.key.d
  refine ⟨fd, F.ok sc_key (fun vs H Q E h => ?_) (fun cdv A outer s H vs Q E hr h => ?_), F.bindsN fun _ _ _ _ _ _ us hl => match us, hl with | [_], _ => rfl⟩
  · obtain ⟨sa, st, rfl, _⟩ := h
    rfl
  · obtain ⟨sa, st, rfl, hS, k⟩ := h
    refine ⟨_, PSs.nox (pss_one (ps_ret (pe_tup (pa_cons (pe_fld (pv 0) rfl) (pa_cons (pe_fld (pv 0) rfl) pa_nil))))), ?_⟩
    obtain ⟨dx, fa, ra, ras, e1, e2, e3, e4⟩ := id hS
    refine ⟨_, rfl, sa, _, dx, _, _, rfl, e1, T.m.state.c, T.m.state.n _ (by simp), ls_floor, _, rfl, sa, _, dx, _, _, rfl, e1, T.m.state.c, T.m.state.n _ (by simp), ls_robots, (by show 2 ≤ sizeLine; decide), fun t nt => ?_⟩
    have s1 := sameUpd (o := .tup [.ref fa, .ref ra]) (Same.refl H) nt
    exact k t _ nt s1 ⟨.tup upd_same (.cons (.tup (s1 _ _ e2) (nk_nums _)) (.cons (.tup (s1 _ _ e3) (nk_robs (Paired.mapP e4 fun _ _ q => s1 _ _ q))) .nil)), depth_keyS st⟩
/-- while the story is told: n ticks so far -/
structure Tell (P : Program) (w : World) (K : PySem.W.Frag) (H0 H : Hp) (p dx tl sd pa sa : Addr) (tas : List Addr) (kvs : List KvN) (pl : Plan) (n : Nat) : Prop where
  sm : Same H0 H
  ob : H p = some (.ins (He.ga K "Story") dx (stoFs (.ref tl) .non))
  li : H tl = some (.lst (tas.map V.ref))
  di : DictN P w H sd kvs
  pn : PlanAt K H pa pl
  st : StateAt K H sa (stN pl n)
  ti : Paired (TickAt K H) tas (ticksL pl n)
  se : SeenI (stN pl) n kvs
  nd : ∀ i j, i < j → j < n → stN pl i ≠ stN pl j
theorem Tell.same {H0 H H' : Hp} {p dx tl sd pa sa : Addr} {tas : List Addr} {kvs : List KvN} {pl : Plan} {n : Nat} (h : Tell P w K H0 H p dx tl sd pa sa tas kvs pl n) (s : Same H H') : Tell P w K H0 H' p dx tl sd pa sa tas kvs pl n :=
  ⟨h.sm.trans s, s _ _ h.ob, s _ _ h.li, h.di.same s, h.pn.same s, h.st.same s, Paired.mapP h.ti fun _ _ q => q.same s, h.se, h.nd⟩
def spStory (K : PySem.W.Frag) : Sp := fun vs H Q _ => ∃ (H0 : Hp) (p dx pa : Addr) (pl : Plan), vs = [.ref p, .ref pa] ∧ H p = some (.ins (He.ga K "Story") dx []) ∧ Same H0 H ∧ H0 p = none ∧ PlanAt K H0 pa pl ∧ (∀ r ∈ pl.robots, r.1 < pl.floor.length) ∧ pl.floor.length ≤ 1000 ∧ pl.robots.length ≤ 1000 ∧ Early pl 20000 ∧
  ∀ (n s : Nat) (H' : Hp), Same H0 H' → StoryAt K H' p pl n s → Q .non H'
abbrev siN : List Str := ["self", "parsed", "state", "seen"]
theorem sc_story : FnScope siN ["self", "parsed"] (defScope s_Story_init) := ⟨rfl, rfl, rfl, by decide +kernel, rfl, by decide +kernel, by decide +kernel⟩
theorem ok_story (T : StoT K mg) : FnE P w K mg base CX0 5 ("Story", some "__init__") ["self", "parsed"] (spStory K) := by
  obtain ⟨fd, F⟩ := T.d_sto
  obtain ⟨fdF, GF, bF, kF⟩ := ok_first_state (P := P) (w := w) (base := base) T.m
  obtain ⟨fdN, GN, bN, kN⟩ := ok_next_tick (P := P) (w := w) (base := base) T.m
  obtain ⟨fdK, GK, bK⟩ := ok_key (P := P) (w := w) (base := base) T
  obtain ⟨tMX, mMX⟩ := T.MAX
  refine ⟨fd, F.ok sc_story (fun vs H Q E h => ?_) (fun cdv A outer s H vs Q E hr h => ?_), F.bindsN fun _ _ _ _ _ _ us hl => match us, hl with | [_, _], _ => rfl, F.kp⟩
  · obtain ⟨H0, p, dx, pa, pl, rfl, _⟩ := h
    rfl
  · obtain ⟨H0, p, dx, pa, pl, rfl, hp, sm, n0p, hpl, hrt, h1000, h1000r, hea, k⟩ := h
    have hr2 : Room 2 _ := hr.mono (by decide)
    have hr3 : Room 3 _ := hr.mono (by decide)
    have hr4 : Room 4 _ := hr.mono (by decide)
    refine ⟨_, PSs.nox (pss_cons (ps_fld (pv 0) (pe_lst pa_nil) rfl)
      (pss_cons (ps_fld (pv 0) pe_non rfl)
      (pss_cons (ps_par (i := 2) (j := 3) (by rfl) sc_story.nd rfl rfl (by decide) rfl rfl (pa_cons (pe_call GF hr3 rfl T.m.first_state.g kF bF .nil pass0 (pa_cons (pv 1) pa_nil)) (pa_cons (pe_dnewN (P := P) (w := w) rfl rfl) pa_nil)) (by rfl))
      (pss_one (ps_while PassesOwn.never (pt_cmpR op_isN (pe_fld (pv 0) rfl) pe_non (nomark _))
        (pss_one (ps_if (pt_cmp (pc_nin (P := P) (w := w) rfl rfl (hu9_of hr) (pe_prop (pv 2) T.m.state.c T.key.p GK hr2 bK .nil pass0 rfl) (pv 3)))
          (pss_one (ps_fld (pv 0) (pe_nget (P := P) (w := w) rfl rfl (hu9_of hr) (pv 3) (pe_prop (pv 2) T.m.state.c T.key.p GK hr2 bK .nil pass0 rfl) (fun _ _ => rfl)) rfl))
          (pss_cons (ps_if (pt_cmpR op_eq (pe_callB call_len_seq (by rfl) T.m.lo.p.l.len boot_len (pa_cons (pe_fld (pv 0) rfl) pa_nil)) (pe_glob (v := .int 20000) rfl mMX ⟨_, rfl⟩) (nomark _))
            (pss_one ps_no) pss_nil)
          (pss_cons (ps_nput (P := P) (w := w) rfl rfl (hu9_of hr) (pv 3) (pe_prop (pv 2) T.m.state.c T.key.p GK hr2 bK .nil pass0 rfl) (pe_callB call_len_seq (by rfl) T.m.lo.p.l.len boot_len (pa_cons (pe_fld (pv 0) rfl) pa_nil)) rfl)
          (pss_cons (ps_expr (pe_bm PySem.F.plainAttrs_list PySem.F.slot_list_append PySem.F.type_list_append mt_append (pe_fld (pv 0) rfl) (pa_cons (pe_call GN hr4 rfl T.m.next_tick.g kN bN .nil pass0 (pa_cons (pv 1) (pa_cons (pv 2) pa_nil))) pa_nil)))
          (pss_one (ps_set (i := 2) sc_story.nd rfl (.inl rfl) (pe_fld (pe_ix ix_list (pe_fld (pv 0) rfl) (pe_un un_neg pe_int) (fun _ _ => rfl)) rfl))))))))))))), ?_⟩
    refine ⟨(by show 0 ≤ sizeLine; decide), fun tl ntl => ?_⟩
    have ptl := ne_of_none hp ntl
    have n0tl := sm.free ntl
    have s1 := sameUpd (o := .lst []) (Same.refl H) ntl
    have htl := @upd_same H tl (.lst [])
    replace hp := s1 _ _ hp
    replace sm := sm.trans s1
    generalize upd H tl (.lst []) = H1 at *
    refine ⟨_, rfl, p, _, dx, _, rfl, hp, T.sto.c, T.sto.n _ (by simp), lnZ ln0, ?_⟩
    rw [put_s1]
    replace sm := sameUpd (o := .ins (He.ga K "Story") dx [("ticks", .ref tl)]) sm n0p
    replace htl : (upd H1 p (.ins (He.ga K "Story") dx [("ticks", .ref tl)])) tl = _ := (upd_ne (Ne.symm ptl)).trans htl
    replace hp := @upd_same H1 p (.ins (He.ga K "Story") dx [("ticks", .ref tl)])
    generalize upd H1 p (.ins (He.ga K "Story") dx [("ticks", .ref tl)]) = H2 at *
    refine ⟨_, rfl, p, _, dx, _, rfl, hp, T.sto.c, T.sto.n _ (by simp), lnZ (lnS ln0), ?_⟩
    rw [put_s2]
    replace sm := sameUpd (o := .ins (He.ga K "Story") dx (stoFs (.ref tl) .non)) sm n0p
    replace htl : (upd H2 p (.ins (He.ga K "Story") dx (stoFs (.ref tl) .non))) tl = _ := (upd_ne (Ne.symm ptl)).trans htl
    replace hp := @upd_same H2 p (.ins (He.ga K "Story") dx (stoFs (.ref tl) .non))
    generalize upd H2 p (.ins (He.ga K "Story") dx (stoFs (.ref tl) .non)) = H3 at *
    refine ⟨_, rfl, pa, pl, rfl, hpl.same sm, by omega, fun sa0 H4 nsa s4 hst => ?_⟩
    replace sm := sm.trans s4
    replace htl := s4 _ _ htl
    replace hp := s4 _ _ hp
    intro sd nsd
    have n0sd := sm.free nsd
    have s5 := sameUpd (o := DNo P w sd []) (Same.refl H4) nsd
    have hsd := @upd_same H4 sd (DNo P w sd [])
    replace hp := s5 _ _ hp
    replace htl := s5 _ _ htl
    replace sm := sm.trans s5
    replace hst := hst.same s5
    generalize upd H4 sd (DNo P w sd []) = H5 at *
    refine ⟨_, _, rfl, ?_⟩
    have T0 : Tell P w K H0 H5 p dx tl sd pa sa0 [] [] pl 0 := ⟨sm, hp, htl, ⟨hsd, fun x hx => by cases hx⟩, hpl.same sm, hst, .nil, rfl, fun i j _ hj => by omega⟩
    have hlt : ∀ {n : Nat}, (∀ i j, i < j → j < n → stN pl i ≠ stN pl j) → n ≤ 20000 := fun {n} nd => by
      obtain ⟨i, j, h1, h2, h3⟩ := hea
      rcases Nat.lt_or_ge j n with z | z
      · exact absurd h3 (nd i j h1 z)
      · omega
    refine ⟨fun m σ Hx => (∃ (sa : Addr) (tas : List Addr) (kvs : List KvN) (n : Nat), σ = [some (.ref p), some (.ref pa), some (.ref sa), some (.ref sd)] ∧ Tell P w K H0 Hx p dx tl sd pa sa tas kvs pl n ∧ m = 20001 - n) ∨
      ∃ (sa : Addr) (n s : Nat), σ = [some (.ref p), some (.ref pa), some (.ref sa), some (.ref sd)] ∧ Same H0 Hx ∧ StoryAt K Hx p pl n s ∧ m = 0, ⟨20001, .inl ⟨sa0, [], [], 0, rfl, T0, rfl⟩⟩, ?_⟩
    rintro m σ Hx (⟨sa, tas, kvs, n, rfl, t, rfl⟩ | ⟨sa, n, s2, rfl, sm, hS, rfl⟩)
    rotate_left
    · obtain ⟨ds, tl2, tas, e1, _⟩ := id hS
      refine ⟨_, rfl, p, _, ds, _, _, rfl, e1, T.sto.c, T.sto.n _ (by simp), lo_start, rfl, _, rfl, ?_⟩
      exact k n s2 Hx sm hS
    have hn := hlt t.nd
    refine ⟨_, rfl, p, _, dx, _, _, rfl, t.ob, T.sto.c, T.sto.n _ (by simp), lo_start, rfl, _, rfl, ?_⟩
    refine ⟨fun σ' H' => ∃ m', m' < 20001 - n ∧ ((∃ (sa : Addr) (tas : List Addr) (kvs : List KvN) (n : Nat), σ' = [some (.ref p), some (.ref pa), some (.ref sa), some (.ref sd)] ∧ Tell P w K H0 H' p dx tl sd pa sa tas kvs pl n ∧ m' = 20001 - n) ∨
      ∃ (sa : Addr) (n s : Nat), σ' = [some (.ref p), some (.ref pa), some (.ref sa), some (.ref sd)] ∧ Same H0 H' ∧ StoryAt K H' p pl n s ∧ m' = 0), fun _ _ z => z, ?_⟩
    obtain ⟨ds, fa, ra, ras, q1, _⟩ := id t.st
    refine ⟨_, rfl, sa, ds, _, rfl, q1, sa, _, rfl, t.st, fun b H6 nb s6 hk => ?_⟩
    have t6 := t.same s6
    refine ⟨_, rfl, sd, kvs, _, b, rfl, rfl, t6.di, hk, ?_⟩
    by_cases hse : ∃ s, s < n ∧ stN pl s = stN pl n
    · obtain ⟨s2, hs2, es⟩ := hse
      have hit := t.se.hit t.nd hs2 es
      rw [hit]
      refine ⟨_, rfl, iteT ?_⟩
      obtain ⟨ds, fa, ra, ras, q1, _⟩ := id t6.st
      refine ⟨_, rfl, _, rfl, sa, ds, _, rfl, q1, sa, _, rfl, t6.st, fun b2 H7 nb2 s7 hk2 => ?_⟩
      have t7 := t6.same s7
      refine ⟨sd, kvs, _, b2, _, rfl, rfl, t7.di, hk2, hit, ?_⟩
      refine ⟨_, rfl, p, _, dx, _, rfl, t7.ob, T.sto.c, T.sto.n _ (by simp), (by show 2 < 1000; decide), ?_⟩
      rw [put_s3]
      have fz := FzS.put (K := K) (o' := .ins (He.ga K "Story") dx (stoFs (.ref tl) (.int s2))) t7.ob (fun q => q rfl)
      refine ⟨0, by omega, .inr ⟨sa, n, s2, rfl, sameUpd t7.sm n0p, ⟨dx, tl, tas, upd_same, (upd_ne (Ne.symm ptl)).trans t7.li, Paired.mapP t7.ti fun _ _ q => q.fzS T.ap fz, ⟨hs2, es.symm, t.nd⟩, hn⟩, rfl⟩⟩
    · have hno : ∀ i < n, stN pl i ≠ stN pl n := fun i hi z => hse ⟨i, hi, z⟩
      have miss := t.se.miss hno
      rw [miss]
      refine ⟨_, rfl, iteF ?_⟩
      have hn2 : n ≠ 20000 := fun z => by
        obtain ⟨i, j, h1, h2, h3⟩ := hea
        rcases Nat.lt_or_ge j n with y | y
        · exact t.nd i j h1 y h3
        · have : j = n := by omega
          rw [this] at h1 h3
          exact hno i h1 h3
      have htl6 := t6.ti.length
      have hlen : tas.length = n := by rw [htl6, ticksL, List.length_map, List.length_range]
      refine ⟨_, rfl, p, _, dx, _, _, rfl, t6.ob, T.sto.c, T.sto.n _ (by simp), lo_ticks, tl, _, rfl, .inl (SqL.of t6.li), rfl, _, rfl, ?_⟩
      rw [List.length_map, hlen, decide_eq_false (fun z => hn2 (by have := V.int.inj z; omega))]
      refine iteF ?_
      refine ⟨_, rfl, p, _, dx, _, _, rfl, t6.ob, T.sto.c, T.sto.n _ (by simp), lo_ticks, tl, _, rfl, .inl (SqL.of t6.li), ?_⟩
      rw [List.length_map, hlen]
      obtain ⟨ds, fa, ra, ras, q1, _⟩ := id t6.st
      refine ⟨_, rfl, _, rfl, sa, ds, _, rfl, q1, sa, _, rfl, t6.st, fun b2 H7 nb2 s7 hk2 => ?_⟩
      have t7 := t6.same s7
      have hkl : kvs.length = n := by
        have := congrArg List.length t.se
        rw [List.length_map, List.length_map, List.length_range] at this
        exact this
      refine ⟨sd, kvs, _, b2, rfl, rfl, t7.di, hk2, miss, by rw [hkl, sizeLine_eq]; omega, ?_⟩
      -- seen
      have fz := FzS.put (K := K) (o' := DNo P w sd (kvs ++ [(keyS (stN pl n), b2, V.int n)])) t7.di.1 (fun q => q)
      have psd : p ≠ sd := ne_of t7.ob t7.di.1 (fun z => nomatch z)
      have tsd : tl ≠ sd := ne_of t7.li t7.di.1 (fun z => nomatch z)
      have ob8 : (upd H7 sd (DNo P w sd (kvs ++ [(keyS (stN pl n), b2, V.int n)]))) p = _ := (upd_ne psd).trans t7.ob
      have li8 : (upd H7 sd (DNo P w sd (kvs ++ [(keyS (stN pl n), b2, V.int n)]))) tl = _ := (upd_ne tsd).trans t7.li
      have st8 := t7.st.fzS T.ap fz
      have ti8 := Paired.mapP t7.ti fun _ _ q => TickAt.fzS T.ap fz q
      have sm8 := sameUpd (o := DNo P w sd (kvs ++ [(keyS (stN pl n), b2, V.int n)])) t7.sm n0sd
      have kt : ∀ b xs, H7 b = some (.tup xs) → (upd H7 sd (DNo P w sd (kvs ++ [(keyS (stN pl n), b2, V.int n)]))) b = some (.tup xs) := fun b xs e => fz _ _ e trivial
      have di8 : DictN P w (upd H7 sd (DNo P w sd (kvs ++ [(keyS (stN pl n), b2, V.int n)]))) sd (kvs ++ [(keyS (stN pl n), b2, V.int n)]) := ⟨upd_same, fun x hx => by
        rcases List.mem_append.mp hx with z | z
        · exact (t7.di.2 x z).keep kt
        · rw [List.mem_singleton.mp z]
          exact hk2.keep kt⟩
      generalize upd H7 sd (DNo P w sd (kvs ++ [(keyS (stN pl n), b2, V.int n)])) = H8 at *
      -- the tick
      refine ⟨_, rfl, p, _, dx, _, _, rfl, ob8, T.sto.c, T.sto.n _ (by simp), lo_ticks, .inl ⟨rfl, _, SqL.of li8⟩, _, rfl, _, rfl, pa, sa, _, _, pl, _, rfl, hpl.same sm8, st8, st_wf hrt n, h1000, h1000r, fun ta H9 s9 htk => ?_⟩
      replace ob8 := s9 _ _ ob8
      replace li8 := s9 _ _ li8
      replace ti8 := Paired.mapP ti8 fun _ _ q => TickAt.same s9 q
      replace sm8 := sm8.trans s9
      replace di8 := di8.same s9
      refine ⟨tl, _, _, rfl, rfl, li8, by rw [List.length_map, hlen, sizeLine_eq]; omega, ?_⟩
      have fz2 := FzS.put (K := K) (o' := .lst (tas.map V.ref ++ [V.ref ta])) li8 (fun q => q)
      have ob9 : (upd H9 tl (.lst (tas.map V.ref ++ [V.ref ta]))) p = _ := (upd_ne ptl).trans ob8
      have li9 := @upd_same H9 tl (.lst (tas.map V.ref ++ [V.ref ta]))
      have ti9 := Paired.mapP ti8 fun _ _ q => TickAt.fzS T.ap fz2 q
      have sm9 := sameUpd (o := .lst (tas.map V.ref ++ [V.ref ta])) sm8 n0tl
      have di9 := di8.keep (fun b xs e => fz2 _ _ e trivial) (upd_ne (o := .lst (tas.map V.ref ++ [V.ref ta])) (Ne.symm tsd))
      replace htk := htk.fzS T.ap fz2
      generalize upd H9 tl (.lst (tas.map V.ref ++ [V.ref ta])) = H10 at *
      obtain ⟨dt, sw, wo, sb, w1, w2, w3, w4⟩ := id htk
      have hat : atI (tas.map V.ref ++ [V.ref ta]) (-1) = some (V.ref ta) := by
        unfold atI ixN
        rw [if_neg (by decide), if_pos (by rw [List.length_append, List.length_singleton]; omega)]
        have e : ((-1 : Int) + ((tas.map V.ref ++ [V.ref ta]).length : Nat)).toNat = (tas.map V.ref).length := by
          rw [List.length_append, List.length_singleton]
          omega
        rw [e]
        simp
      refine ⟨_, rfl, p, _, dx, _, _, rfl, ob9, T.sto.c, T.sto.n _ (by simp), lo_ticks, _, rfl, tl, _, _, _, rfl, rfl, SqL.of li9, hat, ta, _, dt, _, _, rfl, w1, T.m.tick.c, T.m.tick.n _ (by simp), lt_state, ?_⟩
      refine ⟨20001 - (n + 1), by omega, .inl ⟨sb, tas ++ [ta], _, n + 1, rfl, ⟨sm9, ob9, by rw [li9, List.map_append]; rfl, di9, hpl.same sm9, w4, ?_, t.se.more, ?_⟩, rfl⟩⟩
      · unfold ticksL
        rw [List.range_succ, List.map_append]
        exact paired_append ti9 (.cons htk .nil)
      · intro i j hi hj
        rcases Nat.lt_or_ge j n with z | z
        · exact t.nd i j hi z
        · have : j = n := by omega
          rw [this]
          exact hno i (by omega)
end
end Sw

end

section
set_option maxRecDepth 100000
set_option maxHeartbeats 4000000
/-! the law's own: a day -/
namespace Sw
open PySem PySem.Spec PyProof.Rows L2 SwA
/-- (swept, words, state) of a tick -/
def LDay (ok : Addr → Prop) (H : Hp) (t : Addr) (tk : TickM) : Prop := ∃ sw wo sb, H t = some (.tup [.ref sw, .ref wo, .ref sb]) ∧ (ok sw ∧ ok wo) ∧ H sw = some (.lst (iVn tk.swept)) ∧ H wo = some (.lst (tk.words.map sV)) ∧ LState ok H sb tk.state
theorem LDay.kp {ok ok' : Addr → Prop} {H H' : Hp} {a : Addr} {tk : TickM} (h : LDay ok H a tk) (s : Kp ok H H') (i : ∀ b, ok b → ok' b := by exact fun _ z => z) : LDay ok' H' a tk :=
  let ⟨sw, wo, sb, e1, ⟨o1, o2⟩, e2, e3, e4⟩ := h
  ⟨sw, wo, sb, s.t _ _ e1, ⟨i _ o1, i _ o2⟩, s.o _ _ o1 e2, s.o _ _ o2 e3, e4.kp s i⟩
theorem LDay.same {ok : Addr → Prop} {H H' : Hp} {a : Addr} {tk : TickM} (h : LDay ok H a tk) (s : Same H H') : LDay ok H' a tk := h.kp (.same s)
theorem LDay.mono {ok ok' : Addr → Prop} {H : Hp} {a : Addr} {tk : TickM} (h : LDay ok H a tk) (i : ∀ b, ok b → ok' b) : LDay ok' H a tk := h.kp (.same (Same.refl _)) i
theorem LState.key {ok : Addr → Prop} {H : Hp} {t0 t1 kt : Addr} {st : MSt} {ras : List Addr} (h0 : H t0 = some (.tup (iVn st.floor))) (h1 : H t1 = some (.tup (ras.map V.ref))) (hr : Paired (Rob3At H) ras st.robots) (hk : H kt = some (.tup [.ref t0, .ref t1])) : KeyN H (keyS st) kt :=
  ⟨.tup hk (.cons (.tup h0 (nk_nums _)) (.cons (.tup h1 (nk_robs hr)) .nil)), depth_keyS st⟩
end Sw

end

section
set_option maxRecDepth 100000
set_option maxHeartbeats 4000000
/-! the law's own: the cycle -/
namespace Sw
open PySem PySem.Spec PyProof.Rows L2 SwA
/-- (days, start) -/
def LCyc (ok : Addr → Prop) (H : Hp) (c : Addr) (pl : Plan) (n s : Nat) : Prop := ∃ (fl : Addr) (das : List Addr), H c = some (.tup [.ref fl, .int s]) ∧ ok fl ∧ H fl = some (.lst (das.map V.ref)) ∧ Paired (LDay ok H) das (ticksL pl n) ∧ Rep (stN pl) n s ∧ n ≤ 20000
theorem LCyc.kp {ok ok' : Addr → Prop} {H H' : Hp} {c : Addr} {pl : Plan} {n s : Nat} (h : LCyc ok H c pl n s) (k : Kp ok H H') (i : ∀ b, ok b → ok' b := by exact fun _ z => z) : LCyc ok' H' c pl n s :=
  let ⟨fl, das, e1, o1, e2, e3, e4⟩ := h
  ⟨fl, das, k.t _ _ e1, i _ o1, k.o _ _ o1 e2, Paired.mapP e3 fun _ _ q => q.kp k i, e4⟩
theorem LCyc.same {ok : Addr → Prop} {H H' : Hp} {c : Addr} {pl : Plan} {n s : Nat} (h : LCyc ok H c pl n s) (m : Same H H') : LCyc ok H' c pl n s := h.kp (.same m)
/-- a dict of keys is stored anew -/
theorem Kp.putD {P : Program} {w : World} {ok : Addr → Prop} {H : Hp} {x : Addr} {kvs : List KvN} {o' : HO} (hx : H x = some (DNo P w x kvs)) (n : ¬ ok x) : Kp ok H (upd H x o') :=
  ⟨fun b ys e => (upd_ne (ne_of e hx (fun z => nomatch z))).trans e, fun b o k e => (upd_ne (fun z : b = x => n (z ▸ k))).trans e, fun b ys e => (upd_ne (ne_of e hx (fun z => nomatch z))).trans e, fun b o ys e => (upd_ne (ne_of e hx (fun z => nomatch z))).trans e⟩
structure CycT (K : PySem.W.Frag) (mg : Str → Option Value) : Prop where
  l : LtT K mg
  cycle : DeT K mg "_law_cycle" s__law_cycle
section
variable {P : Program} {w : World} {K : PySem.W.Frag} {mg : Str → Option Value} {base : Heap}
structure TellL (P : Program) (w : World) (H0 H : Hp) (pa fl kd sa : Addr) (das : List Addr) (kvs : List KvN) (pl : Plan) (n : Nat) : Prop where
  sm : Same H0 H
  li : H fl = some (.lst (das.map V.ref))
  di : DictN P w H kd kvs
  st : LState (fun b => H0 b = none ∧ b ≠ fl ∧ b ≠ kd) H sa (stN pl n)
  ti : Paired (LDay (fun b => H0 b = none ∧ b ≠ fl ∧ b ≠ kd) H) das (ticksL pl n)
  se : SeenI (stN pl) n kvs
  nd : ∀ i j, i < j → j < n → stN pl i ≠ stN pl j
theorem TellL.same {H0 H H' : Hp} {pa fl kd sa : Addr} {das : List Addr} {kvs : List KvN} {pl : Plan} {n : Nat} (h : TellL P w H0 H pa fl kd sa das kvs pl n) (s : Same H H') : TellL P w H0 H' pa fl kd sa das kvs pl n :=
  ⟨h.sm.trans s, s _ _ h.li, h.di.same s, h.st.same s, Paired.mapP h.ti fun _ _ q => q.same s, h.se, h.nd⟩
def spCycle : Sp := fun vs H Q _ => ∃ (a : Addr) (pl : Plan), vs = [.ref a] ∧ PlanV H a pl ∧ WfP pl ∧ Early pl 20000 ∧ ∀ (c : Addr) (n s : Nat) (H' : Hp), H c = none → Same H H' → LCyc (fun b => H b = none) H' c pl n s → Q (.ref c) H'
abbrev cyN : List Str := ["_law_plan_here", "_law_state", "_law_found", "_law_keys", "_law_key"]
theorem sc_cyc : FnScope cyN ["_law_plan_here"] (defScope s__law_cycle) := ⟨rfl, rfl, rfl, by decide +kernel, rfl, by decide +kernel, by decide +kernel⟩
theorem ok_cyc (T : CycT K mg) : FnE P w K mg base CX0 2 ("_law_cycle", none) ["_law_plan_here"] spCycle := by
  obtain ⟨fd, F⟩ := T.cycle.d
  obtain ⟨fdE, GE, bE, kE⟩ := ok_empty (P := P) (w := w) (base := base) T.l
  obtain ⟨fdT, GT, bT, kT⟩ := ok_ltick (P := P) (w := w) (base := base) T.l
  refine ⟨fd, F.ok sc_cyc (fun vs H Q E h => ?_) (fun cdv A outer s H vs Q E hr h => ?_), F.bindsN fun _ _ _ _ _ _ us hl => match us, hl with | [_], _ => rfl, F.kp⟩
  · obtain ⟨a, pl, rfl, _⟩ := h
    rfl
  · obtain ⟨a, pl, rfl, hP, wf, hea, k⟩ := h
    have hr1 : Room 1 _ := hr.mono (by decide)
    refine ⟨_, PSs.nox (pss_cons (ps_par3 (i := 1) (j := 2) (l := 3) (by rfl) sc_cyc.nd rfl rfl rfl (by decide) (by decide) (by decide) rfl rfl rfl (pa_cons (pe_call GE hr1 rfl T.l.empty.g kE bE .nil pass0 (pa_cons (pv 0) pa_nil)) (pa_cons (pe_lst pa_nil) (pa_cons (pe_dnewN (P := P) (w := w) rfl rfl) pa_nil))) (by rfl))
      (pss_one (ps_while PassesOwn.never (pt_val pe_bl)
        (pss_cons (ps_set (i := 4) sc_cyc.nd rfl (.inl rfl) (pe_tup (pa_cons (pe_callTy call_tuple_of (by rfl) T.l.li.p.s.l.tuple (by decide +kernel) (pa_cons (pe_ix ix_list (pv 1) pe_int (fun _ _ => rfl)) pa_nil)) (pa_cons (pe_callTy call_tuple_of (by rfl) T.l.li.p.s.l.tuple (by decide +kernel) (pa_cons (pe_ix ix_list (pv 1) pe_int (fun _ _ => rfl)) pa_nil)) pa_nil))))
        (pss_cons (ps_if (pt_cmp (pc_nin (P := P) (w := w) rfl rfl (hu9_of hr) (pv 4) (pv 3)))
          (pss_one (ps_ret (pe_tup (pa_cons (pv 2) (pa_cons (pe_nget (P := P) (w := w) rfl rfl (hu9_of hr) (pv 3) (pv 4) (fun _ _ => rfl)) pa_nil))))) pss_nil)
        (pss_cons (ps_nput (P := P) (w := w) rfl rfl (hu9_of hr) (pv 3) (pv 4) (pe_callB call_len_seq (by rfl) T.l.li.p.s.l.len boot_len (pa_cons (pv 2) pa_nil)) rfl)
        (pss_cons (ps_expr (pe_bm PySem.F.plainAttrs_list PySem.F.slot_list_append PySem.F.type_list_append mt_append (pv 2) (pa_cons (pe_call GT hr1 rfl T.l.tick.g kT bT .nil pass0 (pa_cons (pv 0) (pa_cons (pv 1) pa_nil))) pa_nil)))
        (pss_one (ps_set (i := 1) sc_cyc.nd rfl (.inl rfl) (pe_ix ix_tup (pe_ix ix_list (pv 2) (pe_un un_neg pe_int) (fun _ _ => rfl)) pe_int (fun _ _ => rfl))))))))))), ?_⟩
    refine ⟨_, rfl, a, pl, rfl, hP, wf, fun sa0 H1 nsa s1 hst => ?_⟩
    refine ⟨(by show 0 ≤ sizeLine; decide), fun fl nfl => ?_⟩
    have n0fl := s1.free nfl
    obtain ⟨f0, r0, ras0, ⟨o1, o2, o3⟩, q1, q2, q3, q4⟩ := hst
    have a1 := ne_of_none q1 nfl
    have a2 := ne_of_none q2 nfl
    have a3 := ne_of_none q3 nfl
    have s2 := sameUpd (o := .lst []) (Same.refl H1) nfl
    have hfl := @upd_same H1 fl (.lst [])
    replace q1 := s2 _ _ q1
    replace q2 := s2 _ _ q2
    replace q3 := s2 _ _ q3
    replace s1 := s1.trans s2
    replace q4 := Paired.mapP q4 fun _ _ q => s2 _ _ q
    generalize upd H1 fl (.lst []) = H2 at *
    intro kd nkd
    have n0kd := s1.free nkd
    have b1 := ne_of_none q1 nkd
    have b2 := ne_of_none q2 nkd
    have b3 := ne_of_none q3 nkd
    have s3 := sameUpd (o := DNo P w kd []) (Same.refl H2) nkd
    have hkd := @upd_same H2 kd (DNo P w kd [])
    replace q1 := s3 _ _ q1
    replace q2 := s3 _ _ q2
    replace q3 := s3 _ _ q3
    replace hfl := s3 _ _ hfl
    replace s1 := s1.trans s3
    replace q4 := Paired.mapP q4 fun _ _ q => s3 _ _ q
    generalize upd H2 kd (DNo P w kd []) = H3 at *
    refine ⟨_, _, _, rfl, ?_⟩
    have T0 : TellL P w H H3 a fl kd sa0 [] [] pl 0 := ⟨s1, hfl, ⟨hkd, fun x hx => by cases hx⟩, ⟨f0, r0, ras0, ⟨⟨o1, a1, b1⟩, ⟨o2, a2, b2⟩, o3, a3, b3⟩, q1, q2, q3, q4⟩, .nil, rfl, fun i j _ hj => by omega⟩
    have hlt : ∀ {n : Nat}, (∀ i j, i < j → j < n → stN pl i ≠ stN pl j) → n ≤ 20000 := fun {n} nd => by
      obtain ⟨i, j, h1, h2, h3⟩ := hea
      rcases Nat.lt_or_ge j n with z | z
      · exact absurd h3 (nd i j h1 z)
      · omega
    refine ⟨fun m σ Hx => ∃ (sa : Addr) (das : List Addr) (kvs : List KvN) (n : Nat) (o4 : Option V), σ = [some (.ref a), some (.ref sa), some (.ref fl), some (.ref kd), o4] ∧ TellL P w H Hx a fl kd sa das kvs pl n ∧ m = 20001 - n, ⟨20001, sa0, [], [], 0, _, rfl, T0, rfl⟩, ?_⟩
    rintro m σ Hx ⟨sa, das, kvs, n, o4, rfl, t, rfl⟩
    have hn := hlt t.nd
    refine ⟨_, rfl, ?_⟩
    refine ⟨fun σ' H' => ∃ m', m' < 20001 - n ∧ ∃ (sa : Addr) (das : List Addr) (kvs : List KvN) (n : Nat) (o4 : Option V), σ' = [some (.ref a), some (.ref sa), some (.ref fl), some (.ref kd), o4] ∧ TellL P w H H' a fl kd sa das kvs pl n ∧ m' = 20001 - n, fun _ _ z => z, ?_⟩
    obtain ⟨f1, r1, ras, ⟨p1, p2, p3⟩, q1, q2, q3, q4⟩ := id t.st
    refine ⟨_, rfl, sa, _, _, _, rfl, rfl, SqL.of q1, atI_nat (j := 0) rfl, f1, _, rfl, .inl ⟨SqL.of q2, fun t0 nt0 => ?_⟩⟩
    have s4 := sameUpd (o := .tup (iVn (stN pl n).floor)) (Same.refl Hx) nt0
    have ht0 := @upd_same Hx t0 (.tup (iVn (stN pl n).floor))
    replace q1 := s4 _ _ q1
    replace q3 := s4 _ _ q3
    replace q4 := Paired.mapP q4 fun _ _ q => s4 _ _ q
    generalize upd Hx t0 (.tup (iVn (stN pl n).floor)) = H4 at *
    refine ⟨_, rfl, sa, _, _, _, rfl, rfl, SqL.of q1, atI_nat (j := 1) rfl, r1, _, rfl, .inl ⟨SqL.of q3, fun t1 nt1 => ?_⟩⟩
    have s5 := sameUpd (o := .tup (ras.map V.ref)) (Same.refl H4) nt1
    have ht1 := @upd_same H4 t1 (.tup (ras.map V.ref))
    replace ht0 := s5 _ _ ht0
    replace q4 := Paired.mapP q4 fun _ _ q => s5 _ _ q
    generalize upd H4 t1 (.tup (ras.map V.ref)) = H5 at *
    refine ⟨(by show 2 ≤ sizeLine; decide), fun kt nkt => ?_⟩
    have s6 := sameUpd (o := .tup [.ref t0, .ref t1]) (Same.refl H5) nkt
    have hkt := @upd_same H5 kt (.tup [.ref t0, .ref t1])
    replace ht0 := s6 _ _ ht0
    replace ht1 := s6 _ _ ht1
    replace q4 := Paired.mapP q4 fun _ _ q => s6 _ _ q
    generalize upd H5 kt (.tup [.ref t0, .ref t1]) = H6 at *
    have hk : KeyN H6 (keyS (stN pl n)) kt := LState.key (ok := fun _ => True) ht0 ht1 q4 hkt
    have t6 := t.same ((s4.trans s5).trans s6)
    refine ⟨_, rfl, _, rfl, kd, kvs, _, kt, rfl, rfl, t6.di, hk, ?_⟩
    have hlen : das.length = n := by rw [t.ti.length, ticksL, List.length_map, List.length_range]
    by_cases hse : ∃ s, s < n ∧ stN pl s = stN pl n
    · obtain ⟨s2, hs2, es⟩ := hse
      have hit := t.se.hit t.nd hs2 es
      rw [hit]
      refine ⟨_, rfl, iteT ?_⟩
      refine ⟨_, rfl, _, rfl, _, rfl, kd, kvs, _, kt, _, rfl, rfl, t6.di, hk, hit, (by show 2 ≤ sizeLine; decide), fun c nc => ?_⟩
      have s7 := sameUpd (o := .tup [.ref fl, .int s2]) (Same.refl H6) nc
      have t7 := t6.same s7
      exact k c n s2 _ (t6.sm.free nc) t7.sm ⟨fl, das, upd_same, n0fl, t7.li, Paired.mapP t7.ti fun _ _ q => q.mono fun b hb => hb.1, ⟨hs2, es.symm, t.nd⟩, hn⟩
    · have hno : ∀ i < n, stN pl i ≠ stN pl n := fun i hi z => hse ⟨i, hi, z⟩
      have miss := t.se.miss hno
      rw [miss]
      refine ⟨_, rfl, iteF ?_⟩
      have hn2 : n ≠ 20000 := fun z => by
        obtain ⟨i, j, h1, h2, h3⟩ := hea
        rcases Nat.lt_or_ge j n with y | y
        · exact t.nd i j h1 y h3
        · have : j = n := by omega
          rw [this] at h1 h3
          exact hno i h1 h3
      have hkl : kvs.length = n := by
        have := congrArg List.length t.se
        rw [List.length_map, List.length_map, List.length_range] at this
        exact this
      refine ⟨_, rfl, fl, _, rfl, .inl (SqL.of t6.li), ?_⟩
      rw [List.length_map, hlen]
      refine ⟨_, rfl, _, rfl, kd, kvs, _, kt, rfl, rfl, t6.di, hk, miss, by rw [hkl, sizeLine_eq]; omega, ?_⟩
      have kp := Kp.putD (ok := fun b => H b = none ∧ b ≠ fl ∧ b ≠ kd) (o' := DNo P w kd (kvs ++ [(keyS (stN pl n), kt, V.int n)])) t6.di.1 (fun z => z.2.2 rfl)
      have fk : fl ≠ kd := ne_of t6.li t6.di.1 (fun z => nomatch z)
      have li8 : (upd H6 kd (DNo P w kd (kvs ++ [(keyS (stN pl n), kt, V.int n)]))) fl = _ := (upd_ne fk).trans t6.li
      have st8 := t6.st.kp kp
      have ti8 := Paired.mapP t6.ti fun _ _ q => q.kp kp
      have sm8 := sameUpd (o := DNo P w kd (kvs ++ [(keyS (stN pl n), kt, V.int n)])) t6.sm n0kd
      have di8 : DictN P w (upd H6 kd (DNo P w kd (kvs ++ [(keyS (stN pl n), kt, V.int n)]))) kd (kvs ++ [(keyS (stN pl n), kt, V.int n)]) := ⟨upd_same, fun x hx => by
        rcases List.mem_append.mp hx with z | z
        · exact (t6.di.2 x z).keep kp.t
        · rw [List.mem_singleton.mp z]
          exact hk.keep kp.t⟩
      generalize upd H6 kd (DNo P w kd (kvs ++ [(keyS (stN pl n), kt, V.int n)])) = H8 at *
      have h16 := wf.n16
      have h3r := wf.r3
      refine ⟨_, rfl, .inl ⟨rfl, _, SqL.of li8⟩, _, rfl, _, rfl, a, sa, _, _, pl, _, rfl, hP.same sm8, ⟨_, st8⟩, st_wf wf.rt n, by omega, by omega, mvOk wf, fun td sw wo sb H9 s9 w1 w2 w3 w4 w5 w6 => ?_⟩
      have nkd9 : H8 kd ≠ none := by rw [di8.1]; simp
      have nfl9 : H8 fl ≠ none := by rw [li8]; simp
      have up : ∀ b, H8 b = none → H b = none ∧ b ≠ fl ∧ b ≠ kd := fun b hb => ⟨sm8.free hb, fun z => nfl9 (z ▸ hb), fun z => nkd9 (z ▸ hb)⟩
      have day : LDay (fun b => H b = none ∧ b ≠ fl ∧ b ≠ kd) H9 td (tkN pl n) := ⟨sw, wo, sb, w1, ⟨up _ w5, up _ w6⟩, w2, w3, w4.mono up⟩
      replace li8 := s9 _ _ li8
      replace ti8 := Paired.mapP ti8 fun _ _ q => q.same s9
      replace sm8 := sm8.trans s9
      replace di8 := di8.same s9
      refine ⟨fl, _, _, rfl, rfl, li8, by rw [List.length_map, hlen, sizeLine_eq]; omega, ?_⟩
      have kp2 := Kp.put (ok := fun b => H b = none ∧ b ≠ fl ∧ b ≠ kd) (o' := .lst (das.map V.ref ++ [V.ref td])) li8 (fun z => z.2.1 rfl)
      have li9 := @upd_same H9 fl (.lst (das.map V.ref ++ [V.ref td]))
      have ti9 := Paired.mapP ti8 fun _ _ q => q.kp kp2
      have sm9 := sameUpd (o := .lst (das.map V.ref ++ [V.ref td])) sm8 n0fl
      have di9 := di8.keep kp2.t (upd_ne (o := .lst (das.map V.ref ++ [V.ref td])) (Ne.symm fk))
      have day9 := day.kp kp2
      replace w1 := kp2.t _ _ w1
      have w49 := (w4.mono up).kp kp2
      generalize upd H9 fl (.lst (das.map V.ref ++ [V.ref td])) = H10 at *
      have hat : atI (das.map V.ref ++ [V.ref td]) (-1) = some (V.ref td) := by
        unfold atI ixN
        rw [if_neg (by decide), if_pos (by rw [List.length_append, List.length_singleton]; omega)]
        have e : ((-1 : Int) + ((das.map V.ref ++ [V.ref td]).length : Nat)).toNat = (das.map V.ref).length := by
          rw [List.length_append, List.length_singleton]
          omega
        rw [e]
        simp
      refine ⟨_, rfl, _, rfl, fl, _, _, _, rfl, rfl, SqL.of li9, hat, td, _, _, _, rfl, rfl, SqT.of w1, atI_nat (j := 2) rfl, ?_⟩
      refine ⟨20001 - (n + 1), by omega, sb, das ++ [td], _, n + 1, _, rfl, ⟨sm9, by rw [li9, List.map_append]; rfl, di9, w49, ?_, t.se.more, ?_⟩, rfl⟩
      · unfold ticksL
        rw [List.range_succ, List.map_append]
        exact paired_append ti9 (.cons day9 .nil)
      · intro i j hi hj
        rcases Nat.lt_or_ge j n with z | z
        · exact t.nd i j hi z
        · have : j = n := by omega
          rw [this]
          exact hno i (by omega)
end
end Sw

end

section
set_option maxRecDepth 100000
set_option maxHeartbeats 4000000
/-! the law's own: place (names as in SwZ05: not beside it) -/
namespace Sw
open PySem PySem.Spec PyProof.Rows L2 SwA
theorem LCyc.rep {ok : Addr → Prop} {H : Hp} {c : Addr} {pl : Plan} {n s : Nat} (h : LCyc ok H c pl n s) : Rep (stN pl) n s := let ⟨_, _, _, _, _, _, r, _⟩ := h; r
theorem LCyc.most {ok : Addr → Prop} {H : Hp} {c : Addr} {pl : Plan} {n s : Nat} (h : LCyc ok H c pl n s) : n ≤ 20000 := let ⟨_, _, _, _, _, _, _, r⟩ := h; r
structure PcT (K : PySem.W.Frag) (mg : Str → Option Value) : Prop where
  l : LawT K mg
  place : DeT K mg "_law_place" s__law_place
section
variable {P : Program} {w : World} {K : PySem.W.Frag} {mg : Str → Option Value} {base : Heap}
def spPlace : Sp := fun vs H Q _ => ∃ (c : Addr) (t n s : Nat) (pl : Plan), vs = [.ref c, .int t] ∧ (∃ ok, LCyc ok H c pl n s) ∧ Q (.int (foldT n s t : Nat)) H
abbrev pcN : List Str := ["_law_cycle_here", "_law_tick_here", "_law_many", "_law_start"]
theorem sc_place : FnScope pcN ["_law_cycle_here", "_law_tick_here"] (defScope s__law_place) := ⟨rfl, rfl, rfl, by decide +kernel, rfl, by decide +kernel, by decide +kernel⟩
theorem ok_place (T : PcT K mg) : FnE P w K mg base CX0 1 ("_law_place", none) ["_law_cycle_here", "_law_tick_here"] spPlace := by
  obtain ⟨fd, F⟩ := T.place.d
  refine ⟨fd, F.ok sc_place (fun vs H Q E h => ?_) (fun cdv A outer s H vs Q E hr h => ?_), F.bindsN fun _ _ _ _ _ _ us hl => match us, hl with | [_, _], _ => rfl, F.kp⟩
  · obtain ⟨c, t, n, s, pl, rfl, _⟩ := h
    rfl
  · obtain ⟨c, t, n, s2, pl, rfl, ⟨ok, fl, das, e1, e2, e3, e4, e5, e6⟩, k⟩ := h
    refine ⟨_, PSs.nox (pss_cons (ps_par (i := 2) (j := 3) (by rfl) sc_place.nd rfl rfl (by decide) rfl rfl (pa_cons (pe_callB call_len_seq (by rfl) T.l.len boot_len (pa_cons (pe_ix ix_tup (pv 0) pe_int (fun _ _ => rfl)) pa_nil)) (pa_cons (pe_ix ix_tup (pv 0) pe_int (fun _ _ => rfl)) pa_nil)) (by rfl))
      (pss_one (ps_ret (pe_ifExp (pt_cmpR op_lt (pv 1) (pv 2) (nomark _)) (pv 1) (pe_op op_add (pv 3) (pe_op op_mod (pe_op op_sub (pv 1) (pv 3)) (pe_op op_sub (pv 2) (pv 3)))))))), ?_⟩
    have hl : das.length = n := by rw [e4.length, ticksL, List.length_map, List.length_range]
    have hlt := e5.lt
    refine ⟨_, rfl, c, _, _, _, rfl, rfl, SqT.of e1, atI_nat (j := 0) rfl, fl, _, rfl, .inl (SqL.of e3), _, rfl, c, _, _, _, rfl, rfl, SqT.of e1, atI_nat (j := 1) rfl, _, _, rfl, ?_⟩
    rw [List.length_map, hl]
    refine ⟨_, rfl, _, rfl, _, _, rfl, rfl, _, rfl, ?_⟩
    by_cases h : t < n
    · rw [decide_eq_true (show (t : Int) < (n : Nat) by omega)]
      refine iteT ⟨_, rfl, ?_⟩
      unfold foldT at k
      rw [if_pos h] at k
      exact k
    · rw [decide_eq_false (show ¬ (t : Int) < (n : Nat) by omega)]
      refine iteF ⟨_, rfl, _, rfl, _, rfl, _, _, rfl, rfl, _, rfl, _, rfl, _, _, rfl, rfl, _, _, rfl, rfl, by omega, _, _, rfl, rfl, ?_⟩
      unfold foldT at k
      rw [if_neg h] at k
      have e6 : ((t : Int) - (s2 : Int)) % ((n : Int) - (s2 : Int)) = (((t - s2) % (n - s2) : Nat) : Int) := by
        rw [Int.natCast_emod]
        congr 1 <;> omega
      rw [e6]
      exact k
end
end Sw

end

section
set_option maxRecDepth 100000
set_option maxHeartbeats 4000000
/-! load, where all is well -/
namespace Sw
open PySem PySem.Spec PyProof.Rows L2 SwA
theorem FnE.calmG {P : Program} {w : World} {K : PySem.W.Frag} {mg : Str → Option Value} {base : Heap} {k : Nat} {p : Str × Option Str} {ps : List Str} {sp : Sp} (h : FnE P w K mg base (L2.CX P w) k p ps sp) :
    FnE P w K mg base CX0 k p ps (fun vs H Q _ => sp vs H Q fun _ _ _ => False) := by
  obtain ⟨fd, G, b, q⟩ := h
  refine ⟨fd, ⟨fun vs H Q E z => G.len vs H Q _ z, fun A outer s H args us vs Q E hr he hb hv hs => codeAny_mono (G.run A outer s H args us vs Q _ hr he hb hv hs) fun r s' z => ?_⟩, b, q⟩
  match r, z with
  | .ok (.ret u), z => exact z
  | .error e, ⟨_, _, _, _, _, _, _, _, _, _, _, _, f⟩ => exact f.elim
/-- the text is read as the plan -/
def Reads (text : Cs) (pl : Plan) : Prop := text.length ≤ 90000 ∧ ∃ n s, loads text = .ok (n, s) ∧ s.faults = [] ∧ planOf n s = pl
theorem FnE.impS {P : Program} {w : World} {K : PySem.W.Frag} {mg : Str → Option Value} {base : Heap} {CX : CXT} {k : Nat} {p : Str × Option Str} {ps : List Str} {sp sp' : Sp} (h : FnE P w K mg base CX k p ps sp) (i : ∀ vs H Q E, sp' vs H Q E → sp vs H Q E) : FnE P w K mg base CX k p ps sp' := by
  obtain ⟨fd, G, b, q⟩ := h
  exact ⟨fd, G.imp i, b, q⟩
section
variable {P : Program} {w : World} {K : PySem.W.Frag} {mg : Str → Option Value} {base : Heap}
def spRead (K : PySem.W.Frag) : Sp := fun vs H Q _ => ∃ (text : Cs) (pl : Plan), vs = [sV text] ∧ Reads text pl ∧ ∀ (a : Addr) (H' : Hp), H a = none → Same H H' → PlanAt K H' a pl → Q (.ref a) H'
theorem ok_read (T : LoadT K mg) : FnE P w K mg base CX0 8 ("load", none) ["plan"] (spRead K) := by
  refine ((ok_load (P := P) (w := w) (base := base) T).calmG).impS fun vs H Q E ⟨text, pl, e, ⟨hl, n, s, h1, h2, h3⟩, k⟩ => ⟨text, e, hl, fun n2 s2 h => ?_, fun l c h => by rw [h1] at h; cases h⟩
  rw [h1] at h
  cases h
  rw [h3]
  exact ⟨h2, k⟩
end
end Sw

end

section
set_option maxRecDepth 100000
set_option maxHeartbeats 4000000
/-! Story: size, happens -/
namespace Sw
open PySem PySem.Spec PyProof.Rows L2 SwA
structure HapT (K : PySem.W.Frag) (mg : Str → Option Value) : Prop where
  s : StoT K mg
  size : PrT K "Story" "size" "Story.size" s_Story_size
  happens : MeT K "Story" "happens" "Story.happens" s_Story_happens
theorem story_at {K : PySem.W.Frag} {H1 : Hp} {pa x dx : Addr} {pl : Plan} {Q : VK} {E : XK} (hpl : PlanAt K H1 pa pl) (hr : ∀ r ∈ pl.robots, r.1 < pl.floor.length) (hn : pl.floor.length ≤ 1000) (hm : pl.robots.length ≤ 1000) (hea : Early pl 20000) (nx : H1 x = none) (ndx : H1 dx = none)
    (k : ∀ (n s : Nat) (H' : Hp), Same H1 H' → StoryAt K H' x pl n s → Q .non H') : spStory K [.ref x, .ref pa] (upd (upd H1 dx (.own x)) x (.ins (He.ga K "Story") dx [])) Q E :=
  ⟨H1, x, dx, pa, pl, rfl, upd_same, sameUpd (sameUpd (Same.refl H1) ndx) nx, nx, hpl, hr, hn, hm, hea, k⟩
theorem story_wf {K : PySem.W.Frag} {H1 : Hp} {pa x dx : Addr} {pl : Plan} {Q : VK} {E : XK} (hpl : PlanAt K H1 pa pl) (wf : WfP pl) (hea : Early pl 20000) (nx : H1 x = none) (ndx : H1 dx = none)
    (k : ∀ (n s : Nat) (H' : Hp), Same H1 H' → StoryAt K H' x pl n s → Q .non H') : spStory K [.ref x, .ref pa] (upd (upd H1 dx (.own x)) x (.ins (He.ga K "Story") dx [])) Q E :=
  story_at hpl wf.rt (Nat.le_trans wf.n16 (by decide)) (Nat.le_trans wf.r3 (by decide)) hea nx ndx k
theorem lo_no_happens {a b : V} : List.lookup ("happens" : Str) (stoFs a b) = none := by kernel_rfl
theorem lo_no_count {a b : V} : List.lookup ("count" : Str) (stoFs a b) = none := by kernel_rfl
section
variable {P : Program} {w : World} {K : PySem.W.Frag} {mg : Str → Option Value} {base : Heap}
def spSize (K : PySem.W.Frag) : Sp := fun vs H Q _ => ∃ (a : Addr) (pl : Plan) (n s : Nat), vs = [.ref a] ∧ StoryAt K H a pl n s ∧ Q (.int ((n : Int) - (s : Int))) H
theorem sc_size : FnScope ["self"] ["self"] (defScope s_Story_size) := ⟨rfl, rfl, rfl, by decide +kernel, rfl, by decide +kernel, by decide +kernel⟩
theorem tas_len {K : PySem.W.Frag} {H : Hp} {tas : List Addr} {pl : Plan} {n : Nat} (h : Paired (TickAt K H) tas (ticksL pl n)) : tas.length = n := by rw [h.length, ticksL, List.length_map, List.length_range]
theorem ok_size (T : HapT K mg) : FnX P w K mg base CX0 1 (He5.wf K (He.ga K "Story") "property" "size") ["self"] (spSize K) := by
  obtain ⟨fd, F⟩ := T.size.d
  refine ⟨fd, F.ok sc_size (fun vs H Q E h => ?_) (fun cdv A outer s H vs Q E hr h => ?_), F.bindsN fun _ _ _ _ _ _ us hl => match us, hl with | [_], _ => rfl⟩
  · obtain ⟨a, pl, n, s, rfl, _⟩ := h
    rfl
  · obtain ⟨a, pl, n, s2, rfl, hS, k⟩ := h
    refine ⟨_, PSs.nox (pss_one (ps_ret (pe_op op_sub (pe_callB call_len_seq (by rfl) T.s.m.lo.p.l.len boot_len (pa_cons (pe_fld (pv 0) rfl) pa_nil)) (pe_fld (pv 0) rfl)))), ?_⟩
    obtain ⟨dx, tl, tas, e1, e2, e3, e4, e5⟩ := id hS
    have hl := tas_len e3
    refine ⟨_, rfl, a, _, dx, _, _, rfl, e1, T.s.sto.c, T.s.sto.n _ (by simp), lo_ticks, tl, _, rfl, .inl (SqL.of e2), _, rfl, a, _, dx, _, _, rfl, e1, T.s.sto.c, T.s.sto.n _ (by simp), lo_start, _, _, rfl, rfl, ?_⟩
    rw [List.length_map, hl]
    exact k
def spHappens (K : PySem.W.Frag) : Sp := fun vs H Q _ => ∃ (a : Addr) (pl : Plan) (n s t : Nat), vs = [.ref a, .int t] ∧ StoryAt K H a pl n s ∧ ∀ (ta : Addr), TickAt K H ta (tkN pl t) → Q (.ref ta) H
theorem sc_happens : FnScope ["self", "tick"] ["self", "tick"] (defScope s_Story_happens) := ⟨rfl, rfl, rfl, by decide +kernel, rfl, by decide +kernel, by decide +kernel⟩
theorem ok_happens (T : HapT K mg) : FnE P w K mg base CX0 3 ("Story", some "happens") ["self", "tick"] (spHappens K) := by
  obtain ⟨fd, F⟩ := T.happens.d
  obtain ⟨fdZ, GZ, bZ⟩ := ok_size (P := P) (w := w) (base := base) T
  refine ⟨fd, F.ok sc_happens (fun vs H Q E h => ?_) (fun cdv A outer s H vs Q E hr h => ?_), F.bindsN fun _ _ _ _ _ _ us hl => match us, hl with | [_, _], _ => rfl, F.kp⟩
  · obtain ⟨a, pl, n, s, t, rfl, _⟩ := h
    rfl
  · obtain ⟨a, pl, n, s2, t, rfl, hS, k⟩ := h
    refine ⟨_, PSs.nox (pss_one (ps_ret (pe_ix ix_list (pe_fld (pv 0) rfl) (pe_ifExp (pt_cmpR op_lt (pv 1) (pe_callB call_len_seq (by rfl) T.s.m.lo.p.l.len boot_len (pa_cons (pe_fld (pv 0) rfl) pa_nil)) (nomark _)) (pv 1) (pe_op op_add (pe_fld (pv 0) rfl) (pe_op op_mod (pe_op op_sub (pv 1) (pe_fld (pv 0) rfl)) (pe_prop (pv 0) T.s.sto.c T.size.p GZ hr bZ .nil pass0 rfl)))) (fun _ _ => rfl)))), ?_⟩
    obtain ⟨dx, tl, tas, e1, e2, e3, e4, e5⟩ := id hS
    have hl := tas_len e3
    have hlt := e4.lt
    have hfo : ∀ i : Nat, i = foldT n s2 t → atI (tas.map V.ref) (i : Int) = some (V.ref (tas.getD i 0)) ∧ TickAt K H (tas.getD i 0) (tkN pl t) := fun i hi => by
      have hi2 : i < n := by rw [hi]; exact foldT_lt hlt
      have hi3 : i < tas.length := by omega
      have eg : tas[i]? = some (tas.getD i 0) := by rw [List.getD_eq_getElem?_getD, List.getElem?_eq_getElem hi3]; rfl
      refine ⟨atI_nat (by rw [List.getElem?_map, eg]; rfl), ?_⟩
      obtain ⟨y, hy, hT⟩ := Paired_idx e3 eg
      unfold ticksL at hy
      rw [List.getElem?_map, List.getElem?_range hi2] at hy
      cases hy
      rw [← tk_fold e4 t, ← hi]
      exact hT
    refine ⟨_, rfl, a, _, dx, _, _, rfl, e1, T.s.sto.c, T.s.sto.n _ (by simp), lo_ticks, _, rfl, _, rfl, a, _, dx, _, _, rfl, e1, T.s.sto.c, T.s.sto.n _ (by simp), lo_ticks, tl, _, rfl, .inl (SqL.of e2), _, _, rfl, rfl, _, rfl, ?_⟩
    rw [List.length_map, hl]
    by_cases h : t < n
    · rw [decide_eq_true (show (t : Int) < (n : Nat) by omega)]
      obtain ⟨f1, f2⟩ := hfo t (by unfold foldT; rw [if_pos h])
      exact iteT ⟨_, rfl, tl, _, _, _, rfl, rfl, SqL.of e2, f1, k _ f2⟩
    · rw [decide_eq_false (show ¬ (t : Int) < (n : Nat) by omega)]
      obtain ⟨f1, f2⟩ := hfo (s2 + (t - s2) % (n - s2)) (by unfold foldT; rw [if_neg h])
      refine iteF ⟨_, rfl, a, _, dx, _, _, rfl, e1, T.s.sto.c, T.s.sto.n _ (by simp), lo_start, _, rfl, _, rfl, a, _, dx, _, _, rfl, e1, T.s.sto.c, T.s.sto.n _ (by simp), lo_start, _, _, rfl, rfl, _, rfl, a, dx, _, rfl, e1, a, pl, n, s2, rfl, hS, ?_⟩
      refine ⟨_, _, rfl, rfl, by omega, _, _, rfl, rfl, tl, _, _, _, rfl, rfl, SqL.of e2, ?_, k _ f2⟩
      rw [← f1]
      congr 1
      have e6 : ((t : Int) - (s2 : Int)) % ((n : Int) - (s2 : Int)) = (((t - s2) % (n - s2) : Nat) : Int) := by
        rw [Int.natCast_emod]
        congr 1 <;> omega
      rw [e6]
      rfl
end
end Sw

end

section
set_option maxRecDepth 100000
set_option maxHeartbeats 4000000
/-! numbers among numbers -/
namespace Sw
open PySem PySem.Spec PyProof.Rows L2 SwA
theorem in_nats {x : Nat} : ∀ {xs : List Nat}, inV (.int x) (xs.map fun n : Nat => V.int n) = decide (x ∈ xs)
  | [] => rfl
  | y :: ys => by
    have ih := in_nats (x := x) (xs := ys)
    unfold inV at ih ⊢
    rw [List.map_cons, List.any_cons, ih]
    by_cases h : x = y
    · subst h
      simp [eqV]
    · have : (y == x) = false := by simp; omega
      simp [eqV, h]
      omega
theorem flat_nats : ∀ {xs : List Nat}, (xs.map fun n : Nat => V.int n).all flatV = true
  | [] => rfl
  | _ :: ys => flat_nats (xs := ys)
theorem valV_at2 {kvs : List (Key × V)} {k j : Nat} {y : V} : valV (putK kvs (.inl (k : Int)) y) (.inl (j : Int)) = if j = k then some y else valV kvs (.inl (j : Int)) := by
  rw [valV_put]
  by_cases h : j = k
  · subst h
    rw [if_pos rfl, if_pos rfl]
  · rw [if_neg h, if_neg fun z => h (by
      have : (j : Int) = (k : Int) := Sum.inl.inj z
      omega)]
end Sw

end

section
set_option maxRecDepth 100000
set_option maxHeartbeats 4000000
/-! which tiles are swept for ever: plain -/
namespace Sw
open PySem PySem.Spec PyProof.Rows L2 SwA
/-- rising lists with the same members are the same -/
theorem rise_eq : ∀ {a b : List Nat}, a.Pairwise (· < ·) → b.Pairwise (· < ·) → (∀ k, k ∈ a ↔ k ∈ b) → a = b
  | [], [], _, _, _ => rfl
  | [], y :: ys, _, _, h => absurd ((h y).mpr List.mem_cons_self) (by simp)
  | x :: xs, [], _, _, h => absurd ((h x).mp List.mem_cons_self) (by simp)
  | x :: xs, y :: ys, p, q, h => by
    obtain ⟨p1, p2⟩ := List.pairwise_cons.mp p
    obtain ⟨q1, q2⟩ := List.pairwise_cons.mp q
    have e : x = y := by
      rcases List.mem_cons.mp ((h x).mp List.mem_cons_self) with z | z
      · exact z
      · rcases List.mem_cons.mp ((h y).mpr List.mem_cons_self) with z2 | z2
        · exact z2.symm
        · have := q1 x z
          have := p1 y z2
          omega
    subst e
    rw [rise_eq p2 q2 fun k => ⟨fun hk => ?_, fun hk => ?_⟩]
    · rcases List.mem_cons.mp ((h k).mp (List.mem_cons_of_mem _ hk)) with z | z
      · have := p1 k hk
        omega
      · exact z
    · rcases List.mem_cons.mp ((h k).mpr (List.mem_cons_of_mem _ hk)) with z | z
      · have := q1 k hk
        omega
      · exact z
theorem nodup_le : ∀ (L : Nat) {l : List Nat}, l.Nodup → (∀ m ∈ l, m < L) → l.length ≤ L
  | 0, [], _, _ => Nat.le_refl _
  | 0, x :: xs, _, h => absurd (h x List.mem_cons_self) (by omega)
  | L + 1, l, nd, h => by
    by_cases hL : L ∈ l
    · have h1 := nodup_le L (l := l.erase L) (nd.erase L) fun m hm => by
        have h2 := (nd.mem_erase_iff).mp hm
        have := h m h2.2
        have := h2.1
        omega
      have h3 := List.length_erase_of_mem hL
      omega
    · have h1 := nodup_le L (l := l) nd fun m hm => by
        have := h m hm
        have : m ≠ L := fun z => hL (z ▸ hm)
        omega
      omega
/-- a set of numbers by its members -/
def SetIs (S : Int → Bool) (n : Nat) (l : List Nat) : Prop := l.Nodup ∧ n = l.length ∧ ∀ k : Int, S k = true ↔ ∃ m ∈ l, k = (m : Int)
theorem SetIs.none : SetIs (fun _ => false) 0 [] := ⟨List.nodup_nil, rfl, fun k => ⟨fun z => Bool.noConfusion z, fun ⟨m, z, _⟩ => absurd z (by simp)⟩⟩
theorem SetIs.add {S : Int → Bool} {n : Nat} {l : List Nat} (h : SetIs S n l) (c : Nat) : ∃ l', SetIs (fun j => S j || decide (j = (c : Int))) (if S (c : Int) = true then n else n + 1) l' ∧ ∀ m, m ∈ l' ↔ m ∈ l ∨ m = c := by
  obtain ⟨h1, h2, h3⟩ := h
  by_cases hc : c ∈ l
  · have hS : S (c : Int) = true := (h3 c).mpr ⟨c, hc, rfl⟩
    refine ⟨l, ⟨h1, by rw [if_pos hS]; exact h2, fun k => ?_⟩, fun m => ⟨.inl, fun z => z.elim id fun e => e ▸ hc⟩⟩
    rw [Bool.or_eq_true, decide_eq_true_eq, h3]
    exact ⟨fun z => z.elim id fun e => ⟨c, hc, e⟩, .inl⟩
  · have hS : ¬ S (c : Int) = true := fun z => by
      obtain ⟨m, hm, e⟩ := (h3 c).mp z
      have : c = m := by omega
      exact hc (this ▸ hm)
    refine ⟨c :: l, ⟨List.nodup_cons.mpr ⟨hc, h1⟩, by rw [if_neg hS, List.length_cons, h2], fun k => ?_⟩, fun m => by rw [List.mem_cons]; exact Or.comm⟩
    rw [Bool.or_eq_true, decide_eq_true_eq, h3]
    constructor
    · rintro (⟨m, hm, e⟩ | e)
      · exact ⟨m, List.mem_cons_of_mem _ hm, e⟩
      · exact ⟨c, List.mem_cons_self, e⟩
    · rintro ⟨m, hm, e⟩
      rcases List.mem_cons.mp hm with z | z
      · exact .inr (z ▸ e)
      · exact .inl ⟨m, z, e⟩
/-- the rising list of a set -/
theorem SetIs.list {S : Int → Bool} {n : Nat} {l : List Nat} (h : SetIs S n l) {ns : List Int} (hp : ns.Pairwise (· < ·)) (hm : ∀ k : Int, k ∈ ns ↔ S k = true) :
    ∃ ms : List Nat, ns = ms.map (fun m : Nat => (m : Int)) ∧ ms.Pairwise (· < ·) ∧ ∀ m, m ∈ ms ↔ m ∈ l := by
  have hk : ∀ k ∈ ns, 0 ≤ k := fun k hk => by
    obtain ⟨m, _, e⟩ := (h.2.2 k).mp ((hm k).mp hk)
    omega
  have e : ns = (ns.map Int.toNat).map (fun m : Nat => (m : Int)) := by
    rw [List.map_map]
    refine (List.map_id' ns).symm.trans (List.map_congr_left fun k hk' => ?_)
    have := hk k hk'
    show k = ((Int.toNat k : Nat) : Int)
    omega
  refine ⟨ns.map Int.toNat, e, ?_, fun m => ?_⟩
  · rw [List.pairwise_map]
    refine hp.imp_of_mem fun {a b} ha hb hab => ?_
    have := hk a ha
    have := hk b hb
    omega
  · rw [List.mem_map]
    constructor
    · rintro ⟨k, hk', rfl⟩
      obtain ⟨m, hm', e⟩ := (h.2.2 k).mp ((hm k).mp hk')
      have : k.toNat = m := by omega
      rw [this]
      exact hm'
    · intro hm'
      exact ⟨(m : Int), (hm _).mpr ((h.2.2 _).mpr ⟨m, hm', rfl⟩), by omega⟩
/-- the tiles that are swept again and again -/
def Lasts (pl : Plan) (ns : List Nat) : Prop := ns.Pairwise (· < ·) ∧ ∀ k, k ∈ ns ↔ ∀ t, ∃ u, t ≤ u ∧ k ∈ (tkN pl u).swept
theorem Lasts.unique {pl : Plan} {a b : List Nat} (h : Lasts pl a) (g : Lasts pl b) : a = b := rise_eq h.1 g.1 fun k => (h.2 k).trans (g.2 k).symm
theorem ever_of {pl : Plan} {n s : Nat} (h : Rep (stN pl) n s) (k : Nat) : (∀ t, ∃ u, t ≤ u ∧ k ∈ (tkN pl u).swept) ↔ ∃ u, s ≤ u ∧ u < n ∧ k ∈ (tkN pl u).swept := by
  have hlt := h.lt
  constructor
  · intro H
    obtain ⟨u, hu, hk⟩ := H s
    refine ⟨foldT n s u, ?_, foldT_lt hlt, by rw [tk_fold h]; exact hk⟩
    unfold foldT
    split <;> omega
  · rintro ⟨u, h1, h2, hk⟩ t
    have hz : 1 ≤ n - s := by omega
    refine ⟨u + (n - s) * t, ?_, by rw [tk_again h h1]; exact hk⟩
    have := Nat.mul_le_mul_right t hz
    omega
theorem lasts_of {pl : Plan} {n s : Nat} (h : Rep (stN pl) n s) {ns : List Nat} (hp : ns.Pairwise (· < ·)) (hm : ∀ k, k ∈ ns ↔ ∃ u, s ≤ u ∧ u < n ∧ k ∈ (tkN pl u).swept) : Lasts pl ns :=
  ⟨hp, fun k => (hm k).trans (ever_of h k).symm⟩
/-- swept at some time -/
theorem some_of {pl : Plan} {n s : Nat} (h : Rep (stN pl) n s) (k : Nat) : (∃ u, k ∈ (tkN pl u).swept) ↔ ∃ u, u < n ∧ k ∈ (tkN pl u).swept :=
  ⟨fun ⟨u, hk⟩ => ⟨foldT n s u, foldT_lt h.lt, by rw [tk_fold h]; exact hk⟩, fun ⟨u, _, hk⟩ => ⟨u, hk⟩⟩
theorem swept_lt {pl : Plan} (wf : WfP pl) {v k : Nat} (h : k ∈ (tkN pl v).swept) : k < pl.floor.length := by
  have h1 : k ∈ (stN pl v).robots.map (·.1) := h
  obtain ⟨r, hr, rfl⟩ := List.mem_map.mp h1
  exact (st_wf wf.rt v).ti r hr
theorem Lasts.lt {pl : Plan} (wf : WfP pl) {ns : List Nat} (h : Lasts pl ns) : ∀ k ∈ ns, k < pl.floor.length := fun k hk => by
  obtain ⟨u, _, hu⟩ := (h.2 k).mp hk 0
  exact swept_lt wf hu
theorem rise_nodup {a : List Nat} (h : a.Pairwise (· < ·)) : a.Nodup := h.imp fun h => Nat.ne_of_lt h
theorem Lasts.le {pl : Plan} (wf : WfP pl) {ns : List Nat} (h : Lasts pl ns) : ns.length ≤ pl.floor.length := nodup_le _ (rise_nodup h.1) (h.lt wf)
end Sw

end

section
set_option maxRecDepth 100000
set_option maxHeartbeats 4000000
/-! longest_wait -/
namespace Sw
open PySem PySem.Spec PyProof.Rows L2 SwA
structure LwT (K : PySem.W.Frag) (mg : Str → Option Value) : Prop where
  h : HapT K mg
  range : mg "range" = none
  lw : DeT K mg "longest_wait" s_longest_wait
/-- ticks in which a tile is swept -/
def ticksOf (pl : Plan) (tile m : Nat) : List Nat := (List.range m).filter fun t => decide (tile ∈ (tkN pl t).swept)
/-- (wait, its first tick) of neighbours -/
def gaps : List Nat → List (Nat × Nat)
  | a :: b :: r => (b - a, a) :: gaps (b :: r)
  | _ => []
abbrev Wt := Nat × Nat × Nat
def waitsOf (pl : Plan) (tile m : Nat) : List Wt := (gaps (ticksOf pl tile m)).map fun g => (g.1, tile, g.2)
def allW (pl : Plan) (k m : Nat) : List Wt := (List.range k).flatMap fun tile => waitsOf pl tile m
def bestStep (best : Option Wt) (x : Wt) : Option Wt := match best with
  | none => some x
  | some y => if y.1 < x.1 then some x else some y
def bestW (best : Option Wt) (l : List Wt) : Option Wt := l.foldl bestStep best
def longM (pl : Plan) (n s : Nat) : Option Wt := bestW none (allW pl pl.floor.length (n + (n - s)))
theorem bestW_app (b : Option Wt) (l m : List Wt) : bestW b (l ++ m) = bestW (bestW b l) m := List.foldl_append
theorem allW_succ (pl : Plan) (k m : Nat) : allW pl (k + 1) m = allW pl k m ++ waitsOf pl k m := by
  unfold allW
  rw [List.range_succ, List.flatMap_append]
  simp
theorem gaps_len : ∀ l : List Nat, (gaps l).length = l.length - 1
  | [] => rfl
  | [_] => rfl
  | a :: b :: r => by
    have := gaps_len (b :: r)
    simp only [gaps, List.length_cons] at this ⊢
    omega
theorem gaps_at : ∀ (l : List Nat) (j a b : Nat), l[j]? = some a → l[j + 1]? = some b → (gaps l)[j]? = some (b - a, a)
  | [], j, a, b, h, _ => by simp at h
  | [x], j, a, b, h, h2 => by simp at h2
  | x :: y :: r, 0, a, b, h, h2 => by
    have h : x = a := by simpa using h
    have h2 : y = b := by simpa using h2
    subst h h2
    rfl
  | x :: y :: r, j + 1, a, b, h, h2 => gaps_at (y :: r) j a b (by simpa using h) (by simpa using h2)
/-- a wait or None in the heap -/
def WtV (H : Hp) (v : V) : Option Wt → Prop
  | none => v = .non
  | some x => ∃ p : Addr, v = .ref p ∧ H p = some (.tup [.int x.1, .int x.2.1, .int x.2.2])
theorem WtV.same {H H' : Hp} {v : V} : ∀ {o : Option Wt}, WtV H v o → Same H H' → WtV H' v o
  | none, h, _ => h
  | some _, ⟨p, e, h⟩, s => ⟨p, e, s _ _ h⟩
section
variable {P : Program} {w : World} {K : PySem.W.Frag} {mg : Str → Option Value} {base : Heap}
def spLw (K : PySem.W.Frag) : Sp := fun vs H Q _ => ∃ (text : Cs) (pl : Plan), vs = [sV text] ∧ Reads text pl ∧ WfP pl ∧ Early pl 20000 ∧
  ∀ (n s : Nat) (v : V) (H' : Hp), Rep (stN pl) n s → Same H H' → WtV H' v (longM pl n s) → Q v H'
abbrev lwN : List Str := ["plan", "parsed", "story", "best", "tile", "ticks", "tick", "place", "wait"]
theorem sc_lw : FnScope lwN ["plan"] (defScope s_longest_wait) := ⟨rfl, rfl, rfl, by decide +kernel, rfl, by decide +kernel, by decide +kernel⟩
theorem ok_lw (T : LwT K mg) : FnE P w K mg base CX0 9 ("longest_wait", none) ["plan"] (spLw K) := by
  obtain ⟨fd, F⟩ := T.lw.d
  obtain ⟨fdL, GL, bL, kL⟩ := ok_read (P := P) (w := w) (base := base) T.h.s.m.lo
  obtain ⟨fdS, GS, bS, kS⟩ := ok_story (P := P) (w := w) (base := base) T.h.s
  obtain ⟨fdH, GH, bH, kH⟩ := ok_happens (P := P) (w := w) (base := base) T.h
  obtain ⟨fdZ, GZ, bZ⟩ := ok_size (P := P) (w := w) (base := base) T.h
  refine ⟨fd, F.ok sc_lw (fun vs H Q E h => ?_) (fun cdv A outer s H vs Q E hr h => ?_), F.bindsN fun _ _ _ _ _ _ us hl => match us, hl with | [_], _ => rfl, F.kp⟩
  · obtain ⟨text, pl, rfl, _⟩ := h
    rfl
  · obtain ⟨text, pl, rfl, hR, wf, hea, k⟩ := h
    have hr2 : Room 2 _ := hr.mono (by decide)
    have hr3 : Room 3 _ := hr.mono (by decide)
    have hr6 : Room 6 _ := hr.mono (by decide)
    have hr8 : Room 8 _ := hr.mono (by decide)
    have hu := hu_of hr
    refine ⟨_, PSs.nox (pss_cons (ps_set (i := 1) sc_lw.nd rfl (.inl rfl) (pe_call GL hr8 rfl T.h.s.m.lo.g_load kL bL .nil pass0 (pa_cons (pv 0) pa_nil)))
      (pss_cons (ps_asg (pe_tup (pa_cons (pe_make T.h.s.sto.m GS hr6 rfl T.h.s.sto.g bS .nil pass0 (pa_cons (pv 1) pa_nil)) (pa_cons pe_non pa_nil)))
        (pg_tup rfl (pgs_cons (pg_name (i := 2) sc_lw.nd rfl (.inr rfl)) (pgs_cons (pg_name (i := 3) sc_lw.nd rfl (.inl rfl)) pgs_nil))))
      (pss_cons (ps_for PassesOwn.never rfl (pi_range1 (by rfl) T.range (pa_cons (pe_callB call_len_seq (by rfl) T.h.s.m.lo.p.l.len boot_len (pa_cons (pe_fld (pv 1) rfl) pa_nil)) pa_nil)) (pg_name (i := 4) sc_lw.nd rfl (.inr rfl))
        (pss_cons (ps_setLc (i := 5) (own := [("tick", 6)]) (g := (gName 6)) (tt := tTest (tOp (rIn K false) (tVar 4) (tFld K (tMeth (He.ga K "Story") "happens" (spHappens K) [] E0 (tVar 2) (tCons (tVar 6) tNil)) "swept"))) rfl sc_lw.nd rfl rfl (sw_true rfl rfl rfl (by decide +kernel)) (pi_range1 (by rfl) T.range (pa_cons (pe_op op_add (pe_callB call_len_seq (by rfl) T.h.s.m.lo.p.l.len boot_len (pa_cons (pe_fld (pv 2) rfl) pa_nil)) (pe_prop (pv 2) T.h.s.sto.c T.h.size.p GZ hr2 bZ .nil pass0 rfl)) pa_nil)) (blkOk_by (own := [("tick", 6)]) (N := lwN) (sc := defScope s_longest_wait) (by decide +kernel)) (fun _ _ _ _ _ => (pg_name (i := 6) sc_lw.nd rfl (.inl rfl))) (fun _ _ _ _ _ => (pts_one (pt_cmpR op_in_seq (pv 4) (pe_fld (pe_meth (pv 2) T.h.s.sto.c T.h.happens.m GH hr3 bH .nil pass0 (pa_cons (pv 6) pa_nil)) rfl) (by rfl)))) (fun _ _ _ _ _ => (pv 6)))
        (pss_one (ps_for PassesOwn.never rfl (pi_range1 (by rfl) T.range (pa_cons (pe_op op_sub (pe_callB call_len_seq (by rfl) T.h.s.m.lo.p.l.len boot_len (pa_cons (pv 5) pa_nil)) pe_int) pa_nil)) (pg_name (i := 7) sc_lw.nd rfl (.inl rfl))
          (pss_cons (ps_set (i := 8) sc_lw.nd rfl (.inl rfl) (pe_op op_sub (pe_ix ix_list (pv 5) (pe_op op_add (pv 7) pe_int) (fun _ _ => rfl)) (pe_ix ix_list (pv 5) (pv 7) (fun _ _ => rfl))))
          (pss_one (ps_if (PW.pt (pw_or (pt_cmpR op_isN (pv 3) pe_non (nomark _)) (pw_or1 (pt_cmpR op_gt (pv 8) (pe_ix ix_tup (pv 3) pe_int (fun _ _ => rfl)) (nomark _)))))
            (pss_one (ps_set (i := 3) sc_lw.nd rfl (.inl rfl) (pe_tup (pa_cons (pv 8) (pa_cons (pv 4) (pa_cons (pe_ix ix_list (pv 5) (pv 7) (fun _ _ => rfl)) pa_nil)))))) pss_nil)))))))
      (pss_one (ps_ret (pv 3)))))), ?_⟩
    refine ⟨_, rfl, text, pl, rfl, hR, fun pa H1 npa s1 hpl => ?_⟩
    refine ⟨_, rfl, ?_⟩
    intro y dy ny ndy ney
    refine story_wf hpl wf hea ny ndy fun n s2 H2 s12 hS => ⟨rfl, ?_⟩
    refine ⟨(by show 2 ≤ sizeLine; decide), fun t0 nt0 => ?_⟩
    have s23 := sameUpd (o := .tup [.ref y, .non]) (Same.refl H2) nt0
    have ht0 := @upd_same H2 t0 (.tup [.ref y, .non])
    generalize upd H2 t0 (.tup [.ref y, .non]) = H3 at *
    refine ⟨t0, _, rfl, SqT.of ht0, rfl, _, _, rfl, _, _, rfl, rfl, ?_⟩
    have hS3 := hS.same s23
    obtain ⟨dx, tl, tas, e1, e2, e3, e4, e5⟩ := id hS3
    have hl := tas_len e3
    have hlt := e4.lt
    have s13 := s12.trans s23
    have s03 := s1.trans s13
    obtain ⟨dp, sga, mda, fla, rba, rda, ras3, p1, p2, p3, p4, p5⟩ := id hpl
    have hn16 := wf.n16
    refine ⟨_, rfl, pa, _, dp, _, _, rfl, s13 _ _ p1, T.h.s.m.lo.plan.c, T.h.s.m.lo.plan.n _ (by simp), lpl_floor, fla, _, rfl, .inr (SqT.of (s13 _ _ p4)), _, rfl, by rw [List.length_map]; omega, by rw [List.length_map]; omega, ?_⟩
    rw [List.length_map]
    clear ht0 hS
    refine for_range (lo := 0) (n := ((pl.floor.length : Nat) : Int).toNat) (fun i σ Hx => ∃ (vb : V) (o4 o5 o7 o8 : Option V), σ = [some (sV text), some (.ref pa), some (.ref y), some vb, o4, o5, none, o7, o8] ∧ Same H3 Hx ∧ WtV Hx vb (bestW none (allW pl i (n + (n - s2))))) ⟨.non, none, none, none, none, rfl, Same.refl _, rfl⟩ ?_ ?_
    · rintro i σ Hx hi ⟨vb, o4, o5, o7, o8, rfl, sm, hvb⟩
      rw [Int.toNat_natCast] at hi
      rw [Int.zero_add, allW_succ, bestW_app]
      refine ⟨_, rfl, y, _, dx, _, _, rfl, sm _ _ e1, T.h.s.sto.c, T.h.s.sto.n _ (by simp), lo_ticks, tl, _, rfl, .inl (SqL.of (sm _ _ e2)), _, rfl, y, dx, _, rfl, sm _ _ e1, y, pl, n, s2, rfl, hS3.same sm, ?_⟩
      rw [List.length_map, hl]
      refine ⟨_, _, rfl, rfl, _, rfl, by omega, by omega, fun D nD => ?_⟩
      have em : ((n : Int) + ((n : Int) - (s2 : Int))).toNat = n + (n - s2) := by omega
      have hmm : n + (n - s2) ≤ 40000 := by omega
      refine lc_range (lo := 0) (n := ((n : Int) + ((n : Int) - (s2 : Int))).toNat) (fun j Hy => Same Hx Hy ∧ Hy D = some (.lst ((ticksOf pl i j).map fun n : Nat => V.int n))) ⟨sameUpd (Same.refl Hx) nD, upd_same⟩ ?_ ?_
      · rintro j Hy hj ⟨sy, hD⟩
        rw [em] at hj
        rw [Int.zero_add]
        have hS5 := hS3.same (sm.trans sy)
        refine ⟨rfl, _, rfl, _, rfl, y, dx, _, rfl, sy _ _ (sm _ _ e1), lo_no_happens, _, rfl, y, pl, n, s2, j, rfl, hS5, fun ta hT => ?_⟩
        obtain ⟨dt, sw, wo, sb, w1, w2, w3, w4⟩ := id hT
        refine ⟨ta, _, dt, _, _, rfl, w1, T.h.s.m.tick.c, T.h.s.m.tick.n _ (by simp), lt_swept, sw, _, rfl, .inr w2.sq, rfl, flat_nats, _, rfl, ?_⟩
        rw [if_neg (by decide), in_nats]
        have htl : (ticksOf pl i j).length ≤ j := by
          have := List.length_filter_le (fun t => decide (i ∈ (tkN pl t).swept)) (List.range j)
          rw [List.length_range] at this
          exact this
        have hts : ticksOf pl i (j + 1) = ticksOf pl i j ++ if i ∈ (tkN pl j).swept then [j] else [] := by
          unfold ticksOf
          rw [List.range_succ, List.filter_append]
          by_cases z : i ∈ (tkN pl j).swept <;> simp [z]
        by_cases hin : i ∈ (tkN pl j).swept
        · rw [decide_eq_true hin]
          refine iteT ⟨_, rfl, _, hD, by rw [List.length_map, sizeLine_eq]; omega, sameUpd sy nD, ?_⟩
          rw [upd_same, hts, if_pos hin, List.map_append]
          rfl
        · rw [decide_eq_false hin]
          refine iteF ⟨sy, ?_⟩
          rw [hts, if_neg hin, List.append_nil]
          exact hD
      · rintro Hy ⟨sy, hD⟩
        rw [em] at hD
        have htl : (ticksOf pl i (n + (n - s2))).length ≤ n + (n - s2) := by
          have := List.length_filter_le (fun t => decide (i ∈ (tkN pl t).swept)) (List.range (n + (n - s2)))
          rw [List.length_range] at this
          exact this
        have hpw : (ticksOf pl i (n + (n - s2))).Pairwise (· < ·) := List.pairwise_lt_range.filter _
        have hwl : (waitsOf pl i (n + (n - s2))).length = (ticksOf pl i (n + (n - s2))).length - 1 := by
          unfold waitsOf
          rw [List.length_map, gaps_len]
        have hwa : ∀ (j a b : Nat), (ticksOf pl i (n + (n - s2)))[j]? = some a → (ticksOf pl i (n + (n - s2)))[j + 1]? = some b → (waitsOf pl i (n + (n - s2)))[j]? = some (b - a, i, a) := fun j a b h1 h2 => by
          unfold waitsOf
          rw [List.getElem?_map, gaps_at _ _ _ _ h1 h2]
          rfl
        replace hvb := hvb.same sy
        have smy := sm.trans sy
        generalize ticksOf pl i (n + (n - s2)) = tk at *
        generalize bestW none (allW pl i (n + (n - s2))) = B0 at *
        generalize waitsOf pl i (n + (n - s2)) = ws at *
        refine ⟨_, rfl, D, _, rfl, .inl (SqL.of hD), ?_⟩
        rw [List.length_map]
        refine ⟨_, _, rfl, rfl, _, rfl, by omega, by omega, ?_⟩
        refine for_range (lo := 0) (n := ((tk.length : Int) - 1).toNat) (fun j σ Hz => ∃ (vb : V) (o7 o8 : Option V), σ = [some (sV text), some (.ref pa), some (.ref y), some vb, some (.int i), some (.ref D), none, o7, o8] ∧ Same Hy Hz ∧ WtV Hz vb (bestW B0 (ws.take j))) ⟨vb, o7, o8, rfl, Same.refl _, hvb⟩ ?_ ?_
        · rintro j σ Hz hj ⟨vb, o7, o8, rfl, sz, hvb⟩
          have hj1 : j + 1 < tk.length := by omega
          have ha : tk[j]? = some tk[j] := List.getElem?_eq_getElem (by omega)
          have hb : tk[j + 1]? = some tk[j + 1] := List.getElem?_eq_getElem hj1
          have hab : tk[j] < tk[j + 1] := (List.pairwise_iff_getElem.mp hpw) j (j + 1) (by omega) hj1 (by omega)
          have hw := hwa j _ _ ha hb
          have htake : ws.take (j + 1) = ws.take j ++ [(tk[j + 1] - tk[j], i, tk[j])] := by
            rw [List.take_succ, hw]
            rfl
          rw [htake, bestW_app]
          generalize bestW B0 (ws.take j) = B1 at *
          have ez : (0 : Int) + (j : Nat) = (j : Nat) := by omega
          rw [ez]
          have ez2 : (j : Int) + 1 = ((j + 1 : Nat) : Int) := by push_cast; rfl
          have hDz := sz _ _ hD
          have hm1 : (tk.map fun n : Nat => V.int n)[j]? = some (V.int (tk[j] : Nat)) := by rw [List.getElem?_map, ha]; rfl
          have hm2 : (tk.map fun n : Nat => V.int n)[j + 1]? = some (V.int (tk[j + 1] : Nat)) := by rw [List.getElem?_map, hb]; rfl
          refine ⟨_, rfl, _, rfl, _, _, rfl, rfl, ?_⟩
          refine ⟨D, _, (j : Int) + 1, _, rfl, rfl, SqL.of hDz, (by rw [ez2]; exact atI_nat hm2), _, rfl, _, rfl, D, _, _, _, rfl, rfl, SqL.of hDz, atI_nat hm1, _, _, rfl, rfl, ?_⟩
          dsimp only
          have ew : ((tk[j + 1] : Nat) : Int) - ((tk[j] : Nat) : Int) = ((tk[j + 1] - tk[j] : Nat) : Int) := by omega
          rw [ew]
          generalize tk[j + 1] - tk[j] = wt at *
          generalize tk[j] = a at *
          refine ⟨_, rfl, rfl, _, rfl, ?_⟩
          have fin : ∀ (Q' : Option Wt), Q' = some (wt, i, a) → ∀ q, Hz q = none → ∃ (vb' : V) (o7 o8 : Option V), [some (sV text), some (.ref pa), some (.ref y), some (.ref q), some (.int i), some (.ref D), none, some (.int (j : Int)), some (.int (wt : Int))] = [some (sV text), some (.ref pa), some (.ref y), some vb', some (.int (i : Int)), some (.ref D), none, o7, o8] ∧ Same Hy (upd Hz q (.tup [.int (wt : Int), .int (i : Int), .int (a : Int)])) ∧ WtV (upd Hz q (.tup [.int (wt : Int), .int (i : Int), .int (a : Int)])) vb' Q' := by
            rintro _ rfl q nq
            exact ⟨_, _, _, rfl, sameUpd sz (sz.free nq), q, rfl, upd_same⟩
          cases B1 with
          | none =>
            obtain rfl : vb = .non := hvb
            rw [decide_eq_true rfl]
            refine iteT (iteT ⟨_, rfl, _, rfl, _, rfl, _, rfl, D, _, _, _, rfl, rfl, SqL.of hDz, atI_nat hm1, (by show 3 ≤ sizeLine; decide), fun q nq => fin _ rfl q nq⟩)
          | some x =>
            obtain ⟨p, rfl, hp⟩ := hvb
            rw [decide_eq_false (fun z => by cases z)]
            refine iteF ⟨_, rfl, _, rfl, p, _, _, _, rfl, rfl, SqT.of hp, atI_nat (j := 0) rfl, _, _, rfl, rfl, _, rfl, ?_⟩
            by_cases hlt2 : x.1 < wt
            · rw [decide_eq_true (show ((x.1 : Nat) : Int) < (wt : Int) by omega)]
              refine iteT ⟨_, rfl, _, rfl, _, rfl, _, rfl, D, _, _, _, rfl, rfl, SqL.of hDz, atI_nat hm1, (by show 3 ≤ sizeLine; decide), fun q nq => fin _ (by show (if x.1 < wt then some (wt, i, a) else some x) = _; rw [if_pos hlt2]) q nq⟩
            · rw [decide_eq_false (show ¬ ((x.1 : Nat) : Int) < (wt : Int) by omega)]
              refine iteF ⟨_, _, _, rfl, sz, ?_⟩
              rw [show bestW (some x) [(wt, i, a)] = some x by show (if x.1 < wt then some (wt, i, a) else some x) = _; rw [if_neg hlt2]]
              exact ⟨p, rfl, hp⟩
        · rintro σ Hz ⟨vb, o7, o8, rfl, sz, hvb⟩
          refine ⟨vb, _, _, _, _, rfl, smy.trans sz, ?_⟩
          rw [List.take_of_length_le (by omega)] at hvb
          exact hvb
    · rintro σ Hx ⟨vb, o4, o5, o7, o8, rfl, sm, hvb⟩
      rw [Int.toNat_natCast] at hvb
      exact ⟨_, rfl, k n s2 vb Hx e4 (s03.trans sm) hvb⟩
end
end Sw

end

section
set_option maxRecDepth 100000
set_option maxHeartbeats 4000000
/-! parts of a list by slices -/
namespace Sw
open PySem PySem.Spec PyProof.Rows L2 SwA
theorem cut_takeB {xs : List V} (n : Nat) : cutV xs none (some (n : Int)) = xs.take n := by
  show (xs.drop 0).take (HT.sIx xs.length xs.length (some (n : Int)) - 0) = xs.take n
  rw [HT.sIx_nat, List.drop_zero, Nat.sub_zero, ← List.take_eq_take_min]
theorem cut_dropB {xs : List V} (n : Nat) : cutV xs (some (n : Int)) none = xs.drop n := by
  show (xs.drop (HT.sIx xs.length 0 (some (n : Int)))).take (HT.sIx xs.length xs.length none - HT.sIx xs.length 0 (some (n : Int))) = xs.drop n
  rw [HT.sIx_none, HT.sIx_nat]
  rcases Nat.le_total n xs.length with h | h
  · rw [Nat.min_eq_left h]
    exact List.take_of_length_le (by rw [List.length_drop]; omega)
  · rw [Nat.min_eq_right h, List.drop_length, List.take_nil, List.drop_of_length_le h]
end Sw

end

section
set_option maxRecDepth 100000
set_option maxHeartbeats 4000000
/-! the law's own: the tiles that are swept for ever -/
namespace Sw
open PySem PySem.Spec PyProof.Rows L2 SwA
structure LasT (K : PySem.W.Frag) (mg : Str → Option Value) : Prop where
  l : LtT K mg
  sorted : mg "sorted" = none
  set : mg "set" = none
  las : DeT K mg "_law_lasting" s__law_lasting
/-- what is found, no tile too often -/
structure FewL (F : List Nat) (M : Nat → Prop) : Prop where
  me : ∀ m, m ∈ F ↔ M m
  fe : ∃ l : List Nat, l.Nodup ∧ (∀ m ∈ l, m ∈ F) ∧ F.length ≤ 3 * l.length
theorem FewL.add {F : List Nat} {M : Nat → Prop} (h : FewL F M) {sw : List Nat} (h3 : sw.length ≤ 3) : FewL (F ++ sw.filter fun k => decide (k ∉ F)) fun m => M m ∨ m ∈ sw := by
  obtain ⟨me, l, nd, hl, hf⟩ := h
  refine ⟨fun m => ?_, ?_⟩
  · rw [List.mem_append, List.mem_filter, decide_eq_true_eq, ← me]
    by_cases z : m ∈ F
    · simp [z]
    · simp [z]
  · have hle : (sw.filter fun k => decide (k ∉ F)).length ≤ 3 := Nat.le_trans (List.length_filter_le _ _) h3
    cases e : sw.filter fun k => decide (k ∉ F) with
    | nil => exact ⟨l, nd, fun m hm => by rw [List.append_nil]; exact hl m hm, by rw [List.append_nil]; exact hf⟩
    | cons x xs =>
      have hx : x ∈ sw.filter fun k => decide (k ∉ F) := by rw [e]; exact List.mem_cons_self
      have hxF : x ∉ F := of_decide_eq_true (List.mem_filter.mp hx).2
      refine ⟨x :: l, List.nodup_cons.mpr ⟨fun z => hxF (hl x z), nd⟩, fun m hm => ?_, ?_⟩
      · rcases List.mem_cons.mp hm with z | z
        · rw [z]; exact List.mem_append_right _ List.mem_cons_self
        · exact List.mem_append_left _ (hl m z)
      · rw [e] at hle
        rw [List.length_append, List.length_cons (a := x) (as := l)]
        omega
theorem FewL.le {F : List Nat} {M : Nat → Prop} (h : FewL F M) {L : Nat} (hM : ∀ m, M m → m < L) : F.length ≤ 3 * L := by
  obtain ⟨me, l, nd, hl, hf⟩ := h
  have := nodup_le L nd fun m hm => hM m ((me m).mp (hl m hm))
  omega
theorem FewL.congr {F : List Nat} {M M' : Nat → Prop} (h : FewL F M) (e : ∀ m, M m ↔ M' m) : FewL F M' := ⟨fun m => (h.me m).trans (e m), h.fe⟩
section
variable {P : Program} {w : World} {K : PySem.W.Frag} {mg : Str → Option Value} {base : Heap}
def spLas : Sp := fun vs H Q _ => ∃ (ok : Addr → Prop) (c : Addr) (pl : Plan) (n s : Nat), vs = [.ref c] ∧ LCyc ok H c pl n s ∧ WfP pl ∧
  ∀ (ns : List Nat) (p : Addr) (H' : Hp), H p = none → Same H H' → H' p = some (.lst (ns.map fun n : Nat => V.int n)) → Lasts pl ns → Q (.ref p) H'
abbrev lasN : List Str := ["_law_cycle_here", "_law_found", "_law_one", "_law_tile"]
theorem sc_las : FnScope lasN ["_law_cycle_here"] (defScope s__law_lasting) := ⟨rfl, rfl, rfl, by decide +kernel, rfl, by decide +kernel, by decide +kernel⟩
theorem ok_las (T : LasT K mg) : FnE P w K mg base CX0 1 ("_law_lasting", none) ["_law_cycle_here"] spLas := by
  obtain ⟨fd, F⟩ := T.las.d
  refine ⟨fd, F.ok sc_las (fun vs H Q E h => ?_) (fun cdv A outer s H vs Q E hr h => ?_), F.bindsN fun _ _ _ _ _ _ us hl => match us, hl with | [_], _ => rfl, F.kp⟩
  · obtain ⟨ok, c, pl, n, s, rfl, _⟩ := h
    rfl
  · obtain ⟨ok, c, pl, n, s2, rfl, hC, wf, k⟩ := h
    refine ⟨_, PSs.nox (pss_cons (ps_set (i := 1) sc_las.nd rfl (.inr rfl) (pe_lst pa_nil))
      (pss_cons (ps_for PassesOwn.never rfl (pi_list (pe_slice sl_list (pe_ix ix_tup (pv 0) pe_int (fun _ _ => rfl)) (po_some (pe_ix ix_tup (pv 0) pe_int (fun _ _ => rfl))) po_none)) (pg_name (i := 2) sc_las.nd rfl (.inl rfl))
        (pss_one (ps_set (i := 1) sc_las.nd rfl (.inr rfl) (pe_op op_cat (pv 1) (pe_lc (own := [("_law_tile", 3)]) (g := (gName 3)) (tt := tTest (tOp (rIn K true) (tVar 3) (tVar 1))) rfl sc_las.nd (pi_list (pe_ix ix_tup (pv 2) pe_int (fun _ _ => rfl))) (blkOk_by (own := [("_law_tile", 3)]) (N := lasN) (sc := defScope s__law_lasting) (by decide +kernel)) (fun _ _ _ _ _ => (pg_name (i := 3) sc_las.nd rfl (.inl rfl))) (fun _ _ _ _ _ => (pts_one (pt_cmpR op_notIn_seq (pv 3) (pv 1) (by rfl)))) (fun _ _ _ _ _ => (pv 3)))))))
      (pss_one (ps_ret (pe_callB (cr_sortedSet rfl) (by rfl) T.sorted (by decide +kernel) (pa_cons (pe_callTy (cr_setI rfl) (by rfl) T.set (by decide +kernel) (pa_cons (pv 1) pa_nil)) pa_nil)))))), ?_⟩
    obtain ⟨fl, das, e1, o1, e2, e3, e4, e5⟩ := id hC
    have hl : das.length = n := by rw [e3.length, ticksL, List.length_map, List.length_range]
    refine ⟨(by show 0 ≤ sizeLine; decide), fun f0 nf0 => ?_⟩
    have s1 := sameUpd (o := .lst []) (Same.refl H) nf0
    have hf0 := @upd_same H f0 (.lst [])
    replace e1 := s1 _ _ e1
    replace e2 := s1 _ _ e2
    generalize upd H f0 (.lst []) = H1 at *
    refine ⟨_, rfl, c, _, _, _, rfl, rfl, SqT.of e1, atI_nat (j := 0) rfl, _, rfl, c, _, _, _, rfl, rfl, SqT.of e1, atI_nat (j := 1) rfl, _, rfl, fl, _, rfl, SqL.of e2, fun l nl => ?_⟩
    rw [cut_dropB, ← List.map_drop]
    have s2' := sameUpd (o := .lst ((das.drop s2).map V.ref)) (Same.refl H1) nl
    have hL := @upd_same H1 l (.lst ((das.drop s2).map V.ref))
    replace hf0 := s2' _ _ hf0
    replace s1 := s1.trans s2'
    generalize upd H1 l (.lst ((das.drop s2).map V.ref)) = H2 at *
    refine ⟨l, rfl, ⟨_, SqL.of hL⟩, ?_⟩
    refine for_list (K := K) (a := l) (xs := (das.drop s2).map V.ref) (fun i σ Hx => ∃ (f : Addr) (F : List Nat) (o2 : Option V), σ = [some (.ref c), some (.ref f), o2, none] ∧ Same H2 Hx ∧ Hx f = some (.lst (F.map fun n : Nat => V.int n)) ∧ FewL F fun m => ∃ u, s2 ≤ u ∧ u < s2 + i ∧ m ∈ (tkN pl u).swept)
      ⟨f0, [], none, rfl, Same.refl _, hf0, ⟨fun m => ⟨fun z => absurd z (by simp), fun ⟨u, h1, h2, _⟩ => by omega⟩, [], List.nodup_nil, fun m hm => hm, Nat.le_refl _⟩⟩ (fun i σ Hx _ ⟨_, _, _, _, sm, _⟩ => SqL.of (sm _ _ hL)) ?_ ?_
    · rintro i x σ Hx hx ⟨f, F, o2, rfl, sm, hf, few⟩
      rw [List.getElem?_map, List.getElem?_drop] at hx
      obtain ⟨ai, hai, rfl⟩ := Option.map_eq_some_iff.mp hx
      obtain ⟨tk, htk, hT⟩ := Paired_idx e3 hai
      have hin : s2 + i < n := by
        have := (List.getElem?_eq_some_iff.mp hai).1
        omega
      unfold ticksL at htk
      rw [List.getElem?_map, List.getElem?_range hin] at htk
      cases htk
      obtain ⟨sw, wo, sb, d1, ⟨oo1, oo2⟩, d2, d3, d4⟩ := hT.same (s1.trans sm)
      have hsw3 : (tkN pl (s2 + i)).swept.length ≤ 3 := by
        show ((stN pl (s2 + i)).robots.map (·.1)).length ≤ 3
        rw [List.length_map, (st_wf wf.rt (s2 + i)).ro]
        exact wf.r3
      have hF : F.length ≤ 48 := few.le (L := 16) fun m ⟨u, _, _, hm⟩ => Nat.lt_of_lt_of_le (swept_lt wf hm) wf.n16
      refine ⟨_, rfl, _, rfl, ai, _, _, _, rfl, rfl, SqT.of d1, atI_nat (j := 0) rfl, sw, rfl, ⟨_, SqL.of d2⟩, fun D nD => ?_⟩
      refine lc_list (K := K) (a := sw) (xs := (tkN pl (s2 + i)).swept.map fun n : Nat => V.int n) (fun j Hy => Same Hx Hy ∧ Hy D = some (.lst ((((tkN pl (s2 + i)).swept.take j).filter fun k => decide (k ∉ F)).map fun n : Nat => V.int n))) ⟨sameUpd (Same.refl Hx) nD, upd_same⟩ (fun j Hy _ ⟨sy, _⟩ => SqL.of (sy _ _ d2)) ?_ ?_
      · rintro j y Hy hy ⟨sy, hD⟩
        rw [List.getElem?_map] at hy
        obtain ⟨t, ht, rfl⟩ := Option.map_eq_some_iff.mp hy
        refine ⟨rfl, _, rfl, _, rfl, f, _, rfl, .inl (SqL.of (sy _ _ hf)), rfl, flat_nats, _, rfl, ?_⟩
        rw [if_pos rfl, in_nats]
        have e5 : ((tkN pl (s2 + i)).swept.take (j + 1)).filter (fun k => decide (k ∉ F)) = ((tkN pl (s2 + i)).swept.take j).filter (fun k => decide (k ∉ F)) ++ if t ∈ F then [] else [t] := by
          rw [List.take_succ, ht, List.filter_append]
          by_cases z : t ∈ F <;> simp [z]
        have hlen : (((tkN pl (s2 + i)).swept.take j).filter fun k => decide (k ∉ F)).length ≤ 3 := Nat.le_trans (List.length_filter_le _ _) (by rw [List.length_take]; omega)
        by_cases z : t ∈ F
        · rw [decide_eq_true z]
          refine iteF ⟨sy, ?_⟩
          rw [e5, if_pos z, List.append_nil]
          exact hD
        · rw [decide_eq_false z]
          refine iteT ⟨_, rfl, _, hD, by rw [List.length_map, sizeLine_eq]; omega, sameUpd sy nD, ?_⟩
          rw [upd_same, e5, if_neg z, List.map_append]
          rfl
      · rintro Hy ⟨sy, hD⟩
        rw [List.length_map, List.take_length] at hD
        have hlen : ((tkN pl (s2 + i)).swept.filter fun k => decide (k ∉ F)).length ≤ 3 := Nat.le_trans (List.length_filter_le _ _) hsw3
        refine ⟨f, D, _, _, rfl, rfl, sy _ _ hf, hD, by rw [List.length_map, List.length_map, sizeLine_eq]; omega, fun p np => ?_⟩
        rw [← List.map_append]
        refine ⟨p, _, _, rfl, sameUpd (sm.trans sy) ((sm.trans sy).free np), upd_same, (few.add hsw3).congr fun m => ?_⟩
        constructor
        · rintro (⟨u, h1, h2, h3⟩ | h)
          · exact ⟨u, h1, by omega, h3⟩
          · exact ⟨s2 + i, by omega, by omega, h⟩
        · rintro ⟨u, h1, h2, h3⟩
          rcases Nat.lt_or_ge u (s2 + i) with z | z
          · exact .inl ⟨u, h1, z, h3⟩
          · have : u = s2 + i := by omega
            exact .inr (this ▸ h3)
    · rintro σ Hx ⟨f, F, o2, rfl, sm, hf, few⟩
      rw [List.length_map, List.length_drop, hl] at few
      have hF : F.length ≤ 48 := few.le (L := 16) fun m ⟨u, _, _, hm⟩ => Nat.lt_of_lt_of_le (swept_lt wf hm) wf.n16
      have hf' : SqL K Hx f ((F.map fun n : Nat => (n : Int)).map V.int) := by
        rw [List.map_map]
        exact SqL.of hf
      refine ⟨_, rfl, f, _, rfl, hf', by rw [List.length_map]; show F.length + 1 < 4096; omega, fun q c0 nq hc0 ⟨ls, nd, hls, hmem⟩ => ?_⟩
      have hc48 : c0 ≤ 48 := by
        rw [List.length_map] at hc0
        omega
      refine ⟨q, _, c0, rfl, upd_same, by omega, fun ns p hp hm hln np => ?_⟩
      have sA := s1.trans sm
      have sB := sameUpd (o := SetO w q (fun j => decide (j ∈ F.map fun n : Nat => (n : Int))) c0) sA (sA.free nq)
      have hpos : ∀ k ∈ ns, ∃ m : Nat, m ∈ F ∧ k = (m : Int) := fun k hk => by
        have := of_decide_eq_true ((hm k).mp hk)
        obtain ⟨m, h1, h2⟩ := List.mem_map.mp this
        exact ⟨m, h1, h2.symm⟩
      have e6 : ns = (ns.map Int.toNat).map (fun m : Nat => (m : Int)) := by
        rw [List.map_map]
        refine (List.map_id' ns).symm.trans (List.map_congr_left fun k hk => ?_)
        obtain ⟨m, _, e⟩ := hpos k hk
        show k = ((Int.toNat k : Nat) : Int)
        omega
      have hlast : Lasts pl (ns.map Int.toNat) := lasts_of e4 (by
        rw [List.pairwise_map]
        refine hp.imp_of_mem fun {a b} ha hb hab => ?_
        obtain ⟨_, _, e⟩ := hpos a ha
        obtain ⟨_, _, e'⟩ := hpos b hb
        omega) fun m => by
        rw [List.mem_map]
        constructor
        · rintro ⟨k, hk, rfl⟩
          obtain ⟨m, h1, e⟩ := hpos k hk
          obtain ⟨u, h2, h3, h4⟩ := (few.me m).mp h1
          have : k.toNat = m := by omega
          exact ⟨u, h2, by omega, this ▸ h4⟩
        · rintro ⟨u, h2, h3, h4⟩
          have hmF := (few.me m).mpr ⟨u, h2, by omega, h4⟩
          exact ⟨(m : Int), (hm _).mpr (decide_eq_true (List.mem_map.mpr ⟨m, hmF, rfl⟩)), by omega⟩
      have hres : ns.map V.int = (ns.map Int.toNat).map fun n : Nat => V.int n := by
        conv => lhs; rw [e6]
        rw [List.map_map, List.map_map, List.map_map]
        rfl
      rw [hres]
      exact k _ p _ (sB.free np) (sameUpd sB (sB.free np)) upd_same hlast
end
end Sw

end

section
set_option maxRecDepth 100000
set_option maxHeartbeats 4000000
/-! the law's own: longest, sum (k06) -/
namespace Sw
open PySem PySem.Spec PyProof.Rows L2 SwA
/-! ### plain -/
theorem ticksOf_succ (pl : Plan) (i j : Nat) : ticksOf pl i (j + 1) = ticksOf pl i j ++ if i ∈ (tkN pl j).swept then [j] else [] := by
  unfold ticksOf
  rw [List.range_succ, List.filter_append]
  by_cases z : i ∈ (tkN pl j).swept <;> simp [z]
theorem ticksOf_lt {pl : Plan} {i j x : Nat} (h : x ∈ ticksOf pl i j) : x < j := List.mem_range.mp (List.mem_filter.mp h).1
theorem gaps_snoc : ∀ (l : List Nat) (x : Nat), gaps (l ++ [x]) = gaps l ++ (match l.getLast? with | none => [] | some y => [(x - y, y)])
  | [], x => rfl
  | [a], x => rfl
  | a :: b :: r, x => by
    have h := gaps_snoc (b :: r) x
    have e : (a :: b :: r).getLast? = (b :: r).getLast? := by simp [List.getLast?_cons_cons]
    rw [e]
    show (b - a, a) :: gaps (b :: r ++ [x]) = (b - a, a) :: gaps (b :: r) ++ _
    rw [h]
    rfl
theorem waits_succ (pl : Plan) (i j : Nat) : waitsOf pl i (j + 1) = waitsOf pl i j ++ if i ∈ (tkN pl j).swept then (match (ticksOf pl i j).getLast? with | none => [] | some y => [(j - y, i, y)]) else [] := by
  unfold waitsOf
  rw [ticksOf_succ]
  by_cases z : i ∈ (tkN pl j).swept
  · rw [if_pos z, if_pos z, gaps_snoc, List.map_append]
    cases (ticksOf pl i j).getLast? <;> rfl
  · rw [if_neg z, if_neg z, List.append_nil, List.append_nil]
/-- None or a number -/
def lastV : Option Nat → V
  | none => .non
  | some y => .int (y : Nat)
theorem LCyc.row {ok : Addr → Prop} {H : Hp} {c : Addr} {pl : Plan} {n s : Nat} (h : LCyc ok H c pl n s) (t : Nat) : ∃ (fl : Addr) (das : List Addr) (da sw wo sb : Addr), H c = some (.tup [.ref fl, .int s]) ∧ H fl = some (.lst (das.map V.ref)) ∧ das.length = n ∧ das[foldT n s t]? = some da ∧ H da = some (.tup [.ref sw, .ref wo, .ref sb]) ∧ H sw = some (.lst ((tkN pl t).swept.map fun n : Nat => V.int n)) ∧ H wo = some (.lst ((tkN pl t).words.map sV)) := by
  obtain ⟨fl, das, g1, g2, g3, g4, g5, g6⟩ := id h
  have hlt := foldT_lt (t := t) g5.lt
  have hdl : das.length = n := by rw [g4.length, ticksL, List.length_map, List.length_range]
  have hda : das[foldT n s t]? = some das[foldT n s t] := List.getElem?_eq_getElem (by omega)
  obtain ⟨tk, htk, sw, wo, sb, d1, d2, d3, d4, d5⟩ := Paired_idx g4 hda
  have etk : tk = tkN pl t := by
    unfold ticksL at htk
    rw [List.getElem?_map, List.getElem?_range hlt] at htk
    have := Option.some.inj htk
    rw [← this, tk_fold g5]
  subst etk
  exact ⟨fl, das, _, sw, wo, sb, g1, g3, hdl, hda, d1, d3, d4⟩
structure LgT (K : PySem.W.Frag) (mg : Str → Option Value) : Prop where
  pc : PcT K mg
  range : mg "range" = none
  lg : DeT K mg "_law_longest" s__law_longest
section
variable {P : Program} {w : World} {K : PySem.W.Frag} {mg : Str → Option Value} {base : Heap}
def spLg : Sp := fun vs H Q _ => ∃ (pa c : Addr) (pl : Plan) (n s : Nat), vs = [.ref pa, .ref c] ∧ PlanV H pa pl ∧ (∃ ok, LCyc ok H c pl n s) ∧ WfP pl ∧ ∀ (v : V) (H' : Hp), Same H H' → WtV H' v (longM pl n s) → Q v H'
abbrev lgN : List Str := ["_law_plan_here", "_law_cycle_here", "_law_best", "_law_tile", "_law_last", "_law_tick_here"]
theorem sc_lg : FnScope lgN ["_law_plan_here", "_law_cycle_here"] (defScope s__law_longest) := ⟨rfl, rfl, rfl, by decide +kernel, rfl, by decide +kernel, by decide +kernel⟩
theorem ok_lg (T : LgT K mg) : FnE P w K mg base CX0 2 ("_law_longest", none) ["_law_plan_here", "_law_cycle_here"] spLg := by
  obtain ⟨fd, F⟩ := T.lg.d
  obtain ⟨fdPC, GPC, bPC, kPC⟩ := ok_place (P := P) (w := w) (base := base) T.pc
  refine ⟨fd, F.ok sc_lg (fun vs H Q E h => ?_) (fun cdv A outer s H vs Q E hr h => ?_), F.bindsN fun _ _ _ _ _ _ us hl => match us, hl with | [_, _], _ => rfl, F.kp⟩
  · obtain ⟨pa, c, pl, n, s, rfl, _⟩ := h
    rfl
  · obtain ⟨pa, c, pl, n, s2, rfl, hP, hC, wf, k⟩ := h
    have hr1 : Room 1 _ := hr.mono (by decide)
    refine ⟨_, PSs.nox (pss_cons (ps_set (i := 2) sc_lg.nd rfl (.inl rfl) pe_non)
      (pss_cons (ps_for PassesOwn.never rfl (pi_range1 (by rfl) T.range (pa_cons (pe_callB call_len_seq (by rfl) T.pc.l.len boot_len (pa_cons (pe_ix ix_tup (pv 0) pe_int (fun _ _ => rfl)) pa_nil)) pa_nil)) (pg_name (i := 3) sc_lg.nd rfl (.inl rfl))
        (pss_cons (ps_set (i := 4) sc_lg.nd rfl (.inl rfl) pe_non)
        (pss_one (ps_for PassesOwn.never rfl (pi_range1 (by rfl) T.range (pa_cons (pe_op op_sub (pe_op op_mul pe_int (pe_callB call_len_seq (by rfl) T.pc.l.len boot_len (pa_cons (pe_ix ix_tup (pv 1) pe_int (fun _ _ => rfl)) pa_nil))) (pe_ix ix_tup (pv 1) pe_int (fun _ _ => rfl))) pa_nil)) (pg_name (i := 5) sc_lg.nd rfl (.inl rfl))
          (pss_one (ps_if (pt_cmpR op_in_seq (pv 3) (pe_ix ix_tup (pe_ix ix_list (pe_ix ix_tup (pv 1) pe_int (fun _ _ => rfl)) (pe_call GPC hr1 rfl T.pc.place.g kPC bPC .nil pass0 (pa_cons (pv 1) (pa_cons (pv 5) pa_nil))) (fun _ _ => rfl)) pe_int (fun _ _ => rfl)) (by rfl))
            (C8.pss_cut (ps_if (PW.pt (pw_and (pt_cmpR op_notN (pv 4) pe_non (nomark _)) (pw_and1 (PW.pt (pw_or (pt_cmpR op_isN (pv 2) pe_non (nomark _)) (pw_or1 (pt_cmpR op_gt (pe_op op_sub (pv 5) (pv 4)) (pe_ix ix_tup (pv 2) pe_int (fun _ _ => rfl)) (nomark _))))))))
              (pss_one (ps_set (i := 2) sc_lg.nd rfl (.inl rfl) (pe_tup (pa_cons (pe_op op_sub (pv 5) (pv 4)) (pa_cons (pv 3) (pa_cons (pv 4) pa_nil)))))) pss_nil)
            (pss_one (ps_set (i := 4) sc_lg.nd rfl (.inl rfl) (pv 5)))) pss_nil))))))
      (pss_one (ps_ret (pv 2))))), ?_⟩
    obtain ⟨sa, ma, fa, ra, rd, ras, e0, e1, e2, e3, e4⟩ := id hP
    obtain ⟨ok, hC⟩ := hC
    have hrep := hC.rep
    have hmost := hC.most
    have hlt := hrep.lt
    have hn16 := wf.n16
    refine ⟨_, rfl, pa, _, _, _, rfl, rfl, SqT.of e0, atI_nat (j := 2) rfl, fa, _, rfl, .inr (SqT.of e3), _, rfl, by rw [List.length_map]; omega, by rw [List.length_map]; omega, ?_⟩
    rw [List.length_map]
    refine for_range (lo := 0) (n := ((pl.floor.length : Nat) : Int).toNat) (fun i σ Hx => ∃ (vb : V) (o3 o4 o5 : Option V), σ = [some (.ref pa), some (.ref c), some vb, o3, o4, o5] ∧ Same H Hx ∧ WtV Hx vb (bestW none (allW pl i (n + (n - s2))))) ⟨.non, none, none, none, rfl, Same.refl _, rfl⟩ ?_ ?_
    · rintro i σ Hx hi ⟨vb, o3, o4, o5, rfl, sm, hvb⟩
      rw [Int.toNat_natCast] at hi
      rw [Int.zero_add, allW_succ, bestW_app]
      have hCx := hC.same sm
      obtain ⟨fl, das, _, _, _, _, g1, g2, g3, _⟩ := hCx.row 0
      generalize bestW none (allW pl i (n + (n - s2))) = B0 at *
      refine ⟨_, rfl, c, _, _, _, rfl, rfl, SqT.of g1, atI_nat (j := 0) rfl, fl, _, rfl, .inl (SqL.of g2), _, _, rfl, rfl, .inl ⟨by decide, by decide⟩, _, rfl, c, _, _, _, rfl, rfl, SqT.of g1, atI_nat (j := 1) rfl, _, _, rfl, rfl, ?_⟩
      rw [List.length_map, g3]
      have em : ((2 : Int) * (n : Nat) - (s2 : Nat)).toNat = n + (n - s2) := by omega
      refine ⟨_, rfl, by omega, by omega, ?_⟩
      refine for_range (lo := 0) (n := ((2 : Int) * (n : Nat) - (s2 : Nat)).toNat) (fun j σ Hy => ∃ (vb : V) (o5 : Option V), σ = [some (.ref pa), some (.ref c), some vb, some (.int (i : Nat)), some (lastV (ticksOf pl i j).getLast?), o5] ∧ Same Hx Hy ∧ WtV Hy vb (bestW B0 (waitsOf pl i j))) ⟨vb, o5, rfl, Same.refl _, hvb⟩ ?_ ?_
      · rintro j σ Hy hj ⟨vb, o5, rfl, sy, hvb⟩
        rw [em] at hj
        rw [Int.zero_add, waits_succ, bestW_app, ticksOf_succ]
        have hCy := hCx.same sy
        obtain ⟨fl, das, da, sw, wo, sb, g1, g2, g3, g4, g5, g6, g7⟩ := hCy.row j
        generalize bestW B0 (waitsOf pl i j) = B1 at *
        have hlst : ∀ y, (ticksOf pl i j).getLast? = some y → y < j := fun y hy => ticksOf_lt (List.mem_of_getLast? hy)
        generalize ticksOf pl i j = tk at *
        by_cases hin : i ∈ (tkN pl j).swept
        · rw [if_pos hin, if_pos hin]
          refine ⟨_, rfl, _, rfl, c, _, _, _, rfl, rfl, SqT.of g1, atI_nat (j := 0) rfl, _, rfl, _, rfl, c, j, n, s2, pl, rfl, ⟨ok, hCy⟩, fl, _, _, _, rfl, rfl, SqL.of g2, atI_nat (by rw [List.getElem?_map, g4]; rfl), da, _, _, _, rfl, rfl, SqT.of g5, atI_nat (j := 0) rfl, sw, _, rfl, .inl (SqL.of g6), rfl, flat_nats, _, rfl, ?_⟩
          rw [if_neg (by decide), in_nats, decide_eq_true hin]
          refine iteT ⟨fun σ' H' => ∃ vb' : V, σ' = [some (.ref pa), some (.ref c), some vb', some (.int (i : Nat)), some (lastV tk.getLast?), some (.int (j : Nat))] ∧ Same Hx H' ∧ WtV H' vb' (bestW B1 (match tk.getLast? with | none => [] | some y => [(j - y, i, y)])), ?_, ?_⟩
          · cases hL : tk.getLast? with
            | none => exact ⟨_, rfl, rfl, _, rfl, iteF ⟨vb, rfl, sy, hvb⟩⟩
            | some y =>
              have hy := hlst y hL
              have ew : ((j : Nat) : Int) - ((y : Nat) : Int) = ((j - y : Nat) : Int) := by omega
              have fin : ∀ (Q' : Option Wt), Q' = some (j - y, i, y) → ∀ q, Hy q = none → ∃ vb' : V, [some (V.ref pa), some (.ref c), some (.ref q), some (.int (i : Nat)), some (lastV (some y)), some (.int (j : Nat))] = [some (V.ref pa), some (.ref c), some vb', some (.int (i : Nat)), some (lastV (some y)), some (.int (j : Nat))] ∧ Same Hx (upd Hy q (.tup [.int ((j : Int) - (y : Int)), .int (i : Nat), .int (y : Nat)])) ∧ WtV (upd Hy q (.tup [.int ((j : Int) - (y : Int)), .int (i : Nat), .int (y : Nat)])) vb' Q' := by
                rintro _ rfl q nq
                rw [ew]
                exact ⟨_, rfl, sameUpd sy (sy.free nq), q, rfl, upd_same⟩
              refine ⟨_, rfl, rfl, _, rfl, iteT ?_⟩
              refine ⟨_, rfl, rfl, _, rfl, ?_⟩
              cases B1 with
              | none =>
                obtain rfl : vb = .non := hvb
                rw [decide_eq_true rfl]
                refine iteT (iteT ⟨_, rfl, _, rfl, _, _, rfl, rfl, _, rfl, _, rfl, (by show 3 ≤ sizeLine; decide), fun q nq => ?_⟩)
                exact fin _ rfl q nq
              | some x =>
                obtain ⟨p, rfl, hp⟩ := hvb
                rw [decide_eq_false (fun z => by cases z)]
                refine iteF ⟨_, rfl, _, rfl, _, _, rfl, rfl, _, rfl, p, _, _, _, rfl, rfl, SqT.of hp, atI_nat (j := 0) rfl, _, _, rfl, rfl, _, rfl, ?_⟩
                by_cases hlt2 : x.1 < j - y
                · rw [decide_eq_true (show ((x.1 : Nat) : Int) < (j : Int) - (y : Int) by omega)]
                  refine iteT ⟨_, rfl, _, rfl, _, _, rfl, rfl, _, rfl, _, rfl, (by show 3 ≤ sizeLine; decide), fun q nq => ?_⟩
                  exact fin _ (by show (if x.1 < j - y then some (j - y, i, y) else some x) = _; rw [if_pos hlt2]) q nq
                · rw [decide_eq_false (show ¬ ((x.1 : Nat) : Int) < (j : Int) - (y : Int) by omega)]
                  refine iteF ⟨_, rfl, sy, ?_⟩
                  rw [show bestW (some x) [(j - y, i, y)] = some x by show (if x.1 < j - y then some (j - y, i, y) else some x) = _; rw [if_neg hlt2]]
                  exact ⟨p, rfl, hp⟩
          · rintro σ' H' ⟨vb', rfl, sy', hvb'⟩
            refine ⟨_, rfl, vb', some (.int (j : Nat)), ?_, sy', hvb'⟩
            rw [List.getLast?_append]
            rfl
        · rw [if_neg hin, if_neg hin, List.append_nil]
          refine ⟨_, rfl, _, rfl, c, _, _, _, rfl, rfl, SqT.of g1, atI_nat (j := 0) rfl, _, rfl, _, rfl, c, j, n, s2, pl, rfl, ⟨ok, hCy⟩, fl, _, _, _, rfl, rfl, SqL.of g2, atI_nat (by rw [List.getElem?_map, g4]; rfl), da, _, _, _, rfl, rfl, SqT.of g5, atI_nat (j := 0) rfl, sw, _, rfl, .inl (SqL.of g6), rfl, flat_nats, _, rfl, ?_⟩
          rw [if_neg (by decide), in_nats, decide_eq_false hin]
          exact iteF ⟨vb, _, rfl, sy, hvb⟩
      · rintro σ Hy ⟨vb, o5, rfl, sy, hvb⟩
        rw [em] at hvb
        exact ⟨vb, _, _, _, rfl, sm.trans sy, hvb⟩
    · rintro σ Hx ⟨vb, o3, o4, o5, rfl, sm, hvb⟩
      rw [Int.toNat_natCast] at hvb
      exact ⟨_, rfl, k _ _ sm hvb⟩
end
end Sw

end

section
set_option maxRecDepth 100000
set_option maxHeartbeats 4000000
/-! check_tick, where all is well -/
namespace Sw
open PySem PySem.Spec PyProof.Rows L2 SwA
structure CkT (K : PySem.W.Frag) (mg : Str → Option Value) : Prop where
  h : HapT K mg
  MAXT : ∃ t, mg "MAX_TICK" = some (.int 1000000000000000000 t)
  ck : DeT K mg "check_tick" s_check_tick
section
variable {P : Program} {w : World} {K : PySem.W.Frag} {mg : Str → Option Value} {base : Heap}
def spCkTick (K : PySem.W.Frag) : Sp := fun vs H Q _ => ∃ (t : Nat), vs = [.int t] ∧ t ≤ 1000000000000000000 ∧ Q .non H
theorem sc_ckt : FnScope ["tick"] ["tick"] (defScope s_check_tick) := ⟨rfl, rfl, rfl, by decide +kernel, rfl, by decide +kernel, by decide +kernel⟩
theorem ok_ckt (T : CkT K mg) : FnE P w K mg base CX0 2 ("check_tick", none) ["tick"] (spCkTick K) := by
  obtain ⟨fd, F⟩ := T.ck.d
  obtain ⟨fdI, GI, bI, kI⟩ := ok_is_int_in (P := P) (w := w) (base := base) T.h.s.m
  obtain ⟨tMT, mMT⟩ := T.MAXT
  refine ⟨fd, F.ok sc_ckt (fun vs H Q E h => ?_) (fun cdv A outer s H vs Q E hr h => ?_), F.bindsN fun _ _ _ _ _ _ us hl => match us, hl with | [_], _ => rfl, F.kp⟩
  · obtain ⟨t, rfl, _⟩ := h
    rfl
  · obtain ⟨t, rfl, ht, k⟩ := h
    refine ⟨_, PSs.nox (pss_one (ps_if (pt_not (pt_val (pe_call GI hr rfl T.h.s.m.is_int_in.g kI bI .nil pass0 (pa_cons (pv 0) (pa_cons pe_int (pa_cons (pe_glob (v := .int 1000000000000000000) rfl mMT ⟨_, rfl⟩) pa_nil))))))
        (pss_one ps_no) pss_nil)), ?_⟩
    have hI : isIntIn (.int t) 0 1000000000000000000 = true := by
      unfold isIntIn
      simp
      omega
    refine ⟨_, rfl, .int t, _, 0, 1000000000000000000, rfl, .int _, ?_⟩
    rw [hI]
    exact ⟨_, rfl, k⟩
end
end Sw

end

section
set_option maxRecDepth 100000
set_option maxHeartbeats 4000000
/-! check_tile, next_swept -/
namespace Sw
open PySem PySem.Spec PyProof.Rows L2 SwA
structure TilT (K : PySem.W.Frag) (mg : Str → Option Value) : Prop where
  c : CkT K mg
  ct : DeT K mg "check_tile" s_check_tile
structure NxT (K : PySem.W.Frag) (mg : Str → Option Value) : Prop where
  t : TilT K mg
  range : mg "range" = none
  ns : DeT K mg "next_swept" s_next_swept
/-- when tile is swept next, from t on -/
def NextSw (pl : Plan) (tile t : Nat) : Option Nat → Prop
  | some u => t ≤ u ∧ tile ∈ (tkN pl u).swept ∧ ∀ v, t ≤ v → v < u → tile ∉ (tkN pl v).swept
  | none => ∀ v, t ≤ v → tile ∉ (tkN pl v).swept
/-- what does not happen for so long never happens -/
theorem never_of {pl : Plan} {n s : Nat} (h : Rep (stN pl) n s) {F : TickM → Prop} {t : Nat} (hn : ∀ v, t ≤ v → v < t + n + (n - s) → ¬ F (tkN pl v)) : ∀ v, t ≤ v → ¬ F (tkN pl v) := by
  intro v hv hF
  have hlt := h.lt
  rcases Nat.lt_or_ge v (t + n + (n - s)) with z | z
  · exact hn v hv z hF
  · have hz : 0 < n - s := by omega
    let v' := (t + n) + (v - (t + n)) % (n - s)
    have h1 : v' < t + n + (n - s) := by
      have := Nat.mod_lt (v - (t + n)) hz
      show (t + n) + (v - (t + n)) % (n - s) < _
      omega
    have h2 : tkN pl v' = tkN pl v := by
      have hm := st_mul h (v' - s) ((v - (t + n)) / (n - s))
      have e1 : s + (v' - s) = v' := by show s + ((t + n) + (v - (t + n)) % (n - s) - s) = (t + n) + (v - (t + n)) % (n - s); omega
      have e2 : v' + (n - s) * ((v - (t + n)) / (n - s)) = v := by
        have := Nat.mod_add_div (v - (t + n)) (n - s)
        show (t + n) + (v - (t + n)) % (n - s) + _ = v
        omega
      rw [e1, e2] at hm
      unfold tkN
      rw [hm]
    exact hn v' (by show t ≤ (t + n) + _; omega) h1 (h2 ▸ hF)
section
variable {P : Program} {w : World} {K : PySem.W.Frag} {mg : Str → Option Value} {base : Heap}
def spCkTile (K : PySem.W.Frag) : Sp := fun vs H Q _ => ∃ (pa : Addr) (pl : Plan) (tile : Nat), vs = [.ref pa, .int tile] ∧ PlanAt K H pa pl ∧ tile < pl.floor.length ∧ Q .non H
theorem sc_ctl : FnScope ["parsed", "tile"] ["parsed", "tile"] (defScope s_check_tile) := ⟨rfl, rfl, rfl, by decide +kernel, rfl, by decide +kernel, by decide +kernel⟩
theorem ok_ctl (T : TilT K mg) : FnE P w K mg base CX0 2 ("check_tile", none) ["parsed", "tile"] (spCkTile K) := by
  obtain ⟨fd, F⟩ := T.ct.d
  obtain ⟨fdI, GI, bI, kI⟩ := ok_is_int_in (P := P) (w := w) (base := base) T.c.h.s.m
  refine ⟨fd, F.ok sc_ctl (fun vs H Q E h => ?_) (fun cdv A outer s H vs Q E hr h => ?_), F.bindsN fun _ _ _ _ _ _ us hl => match us, hl with | [_, _], _ => rfl, F.kp⟩
  · obtain ⟨pa, pl, tile, rfl, _⟩ := h
    rfl
  · obtain ⟨pa, pl, tile, rfl, hpl, hti, k⟩ := h
    refine ⟨_, PSs.nox (pss_one (ps_if (pt_not (pt_val (pe_call GI hr rfl T.c.h.s.m.is_int_in.g kI bI .nil pass0 (pa_cons (pv 1) (pa_cons pe_int (pa_cons (pe_op op_sub (pe_callB call_len_seq (by rfl) T.c.h.s.m.lo.p.l.len boot_len (pa_cons (pe_fld (pv 0) rfl) pa_nil)) pe_int) pa_nil))))))
        (pss_one ps_no) pss_nil)), ?_⟩
    obtain ⟨dp, sga, mda, fla, rba, rda, ras3, z1, z2, z3, z4, z5⟩ := id hpl
    have hI : isIntIn (.int tile) 0 ((pl.floor.length : Int) - 1) = true := by
      unfold isIntIn
      simp
      omega
    refine ⟨_, rfl, _, rfl, pa, _, dp, _, _, rfl, z1, T.c.h.s.m.lo.plan.c, T.c.h.s.m.lo.plan.n _ (by simp), lpl_floor, fla, _, rfl, .inr (SqT.of z4), _, _, rfl, rfl, .int tile, _, 0, (pl.floor.length : Int) - 1, ?_, .int _, ?_⟩
    · rw [List.length_map]
      rfl
    · rw [hI]
      exact ⟨_, rfl, k⟩
def spNext (K : PySem.W.Frag) : Sp := fun vs H Q _ => ∃ (text : Cs) (pl : Plan) (tile t : Nat), vs = [sV text, .int tile, .int t] ∧ Reads text pl ∧ WfP pl ∧ Early pl 20000 ∧ tile < pl.floor.length ∧ t ≤ 1000000000000000000 ∧
  ∀ (r : Option Nat) (H' : Hp), Same H H' → NextSw pl tile t r → Q (oV r) H'
abbrev nsN : List Str := ["plan", "tile", "tick", "parsed", "story", "later"]
theorem sc_ns : FnScope nsN ["plan", "tile", "tick"] (defScope s_next_swept) := ⟨rfl, rfl, rfl, by decide +kernel, rfl, by decide +kernel, by decide +kernel⟩
theorem ok_next (T : NxT K mg) : FnE P w K mg base CX0 9 ("next_swept", none) ["plan", "tile", "tick"] (spNext K) := by
  obtain ⟨fd, F⟩ := T.ns.d
  obtain ⟨fdL, GL, bL, kL⟩ := ok_read (P := P) (w := w) (base := base) T.t.c.h.s.m.lo
  obtain ⟨fdC, GC, bC, kC⟩ := ok_ckt (P := P) (w := w) (base := base) T.t.c
  obtain ⟨fdCT, GCT, bCT, kCT⟩ := ok_ctl (P := P) (w := w) (base := base) T.t
  obtain ⟨fdS, GS, bS, kS⟩ := ok_story (P := P) (w := w) (base := base) T.t.c.h.s
  obtain ⟨fdH, GH, bH, kH⟩ := ok_happens (P := P) (w := w) (base := base) T.t.c.h
  obtain ⟨fdZ, GZ, bZ⟩ := ok_size (P := P) (w := w) (base := base) T.t.c.h
  refine ⟨fd, F.ok sc_ns (fun vs H Q E h => ?_) (fun cdv A outer s H vs Q E hr h => ?_), F.bindsN fun _ _ _ _ _ _ us hl => match us, hl with | [_, _, _], _ => rfl, F.kp⟩
  · obtain ⟨text, pl, tile, t, rfl, _⟩ := h
    rfl
  · obtain ⟨text, pl, tile, t, rfl, hR, wf, hea, hti, ht, k⟩ := h
    have hr2 : Room 2 _ := hr.mono (by decide)
    have hr3 : Room 3 _ := hr.mono (by decide)
    have hr6 : Room 6 _ := hr.mono (by decide)
    have hr8 : Room 8 _ := hr.mono (by decide)
    refine ⟨_, PSs.nox (pss_cons (ps_set (i := 3) sc_ns.nd rfl (.inl rfl) (pe_call GL hr8 rfl T.t.c.h.s.m.lo.g_load kL bL .nil pass0 (pa_cons (pv 0) pa_nil)))
      (pss_cons (ps_expr (pe_call GCT hr2 rfl T.t.ct.g kCT bCT .nil pass0 (pa_cons (pv 3) (pa_cons (pv 1) pa_nil))))
      (pss_cons (ps_expr (pe_call GC hr2 rfl T.t.c.ck.g kC bC .nil pass0 (pa_cons (pv 2) pa_nil)))
      (pss_cons (ps_set (i := 4) sc_ns.nd rfl (.inl rfl) (pe_make T.t.c.h.s.sto.m GS hr6 rfl T.t.c.h.s.sto.g bS .nil pass0 (pa_cons (pv 3) pa_nil)))
      (pss_cons (ps_for PassesOwn.never rfl (pi_range2 (by rfl) T.range (pa_cons (pv 2) (pa_cons (pe_op op_add (pe_op op_add (pv 2) (pe_callB call_len_seq (by rfl) T.t.c.h.s.m.lo.p.l.len boot_len (pa_cons (pe_fld (pv 4) rfl) pa_nil))) (pe_prop (pv 4) T.t.c.h.s.sto.c T.t.c.h.size.p GZ hr2 bZ .nil pass0 rfl)) pa_nil))) (pg_name (i := 5) sc_ns.nd rfl (.inl rfl))
        (pss_one (ps_if (pt_cmpR op_in_seq (pv 1) (pe_fld (pe_meth (pv 4) T.t.c.h.s.sto.c T.t.c.h.happens.m GH hr3 bH .nil pass0 (pa_cons (pv 5) pa_nil)) rfl) (by rfl))
          (pss_one (ps_ret (pv 5))) pss_nil)))
      (pss_one (ps_ret pe_non))))))), ?_⟩
    refine ⟨_, rfl, text, pl, rfl, hR, fun pa H1 npa s1 hpl => ?_⟩
    refine ⟨_, rfl, _, rfl, pa, pl, tile, rfl, hpl, hti, ?_⟩
    refine ⟨_, rfl, t, rfl, ht, ?_⟩
    refine ⟨_, rfl, ?_⟩
    intro x dx nx ndx ne
    refine story_wf hpl wf hea nx ndx fun n s2 H2 s12 hS => ⟨rfl, ?_⟩
    obtain ⟨dy, tl, tas, e1, e2, e3, e4, e5⟩ := id hS
    have hl := tas_len e3
    have hlt := e4.lt
    have hs02 := s1.trans s12
    refine ⟨_, rfl, _, rfl, _, rfl, x, _, dy, _, _, rfl, e1, T.t.c.h.s.sto.c, T.t.c.h.s.sto.n _ (by simp), lo_ticks, tl, _, rfl, .inl (SqL.of e2), _, _, rfl, rfl, _, rfl, x, dy, _, rfl, e1, x, pl, n, s2, rfl, hS, ?_⟩
    rw [List.length_map, hl]
    refine ⟨_, _, rfl, rfl, _, _, rfl, ⟨by omega, by omega, by omega, by omega⟩, ?_⟩
    refine for_range (lo := (t : Int)) (n := ((t : Int) + (n : Nat) + ((n : Int) - (s2 : Int)) - (t : Int)).toNat) (fun i σ Hx => (∃ o5, σ = [some (sV text), some (.int tile), some (.int t), some (.ref pa), some (.ref x), o5]) ∧ Hx = H2 ∧ ∀ v, t ≤ v → v < t + i → tile ∉ (tkN pl v).swept) ⟨⟨none, rfl⟩, rfl, fun v h1 h2 => by omega⟩ ?_ ?_
    · rintro i σ Hx hi ⟨⟨o5, rfl⟩, rfl, hno⟩
      have ez : (t : Int) + (i : Nat) = ((t + i : Nat) : Int) := by push_cast; rfl
      rw [ez]
      refine ⟨_, rfl, _, rfl, x, dy, _, rfl, e1, lo_no_happens, _, rfl, x, pl, n, s2, t + i, rfl, hS, fun ta hT => ?_⟩
      obtain ⟨dt, sw, wo, sb, w1, w2, w3, w4⟩ := id hT
      refine ⟨ta, _, dt, _, _, rfl, w1, T.t.c.h.s.m.tick.c, T.t.c.h.s.m.tick.n _ (by simp), lt_swept, sw, _, rfl, .inr w2.sq, rfl, flat_nats, _, rfl, ?_⟩
      rw [if_neg (by decide), in_nats]
      by_cases hin : tile ∈ (tkN pl (t + i)).swept
      · rw [decide_eq_true hin]
        exact iteT ⟨_, rfl, k (some (t + i)) Hx hs02 ⟨by omega, hin, fun v h1 h2 => hno v h1 h2⟩⟩
      · rw [decide_eq_false hin]
        refine iteF ⟨⟨_, rfl⟩, rfl, fun v h1 h2 => ?_⟩
        rcases Nat.lt_or_ge v (t + i) with z | z
        · exact hno v h1 z
        · have : v = t + i := by omega
          rw [this]
          exact hin
    · rintro σ Hx ⟨⟨o5, rfl⟩, rfl, hno⟩
      rw [show ((t : Int) + (n : Nat) + ((n : Int) - (s2 : Int)) - (t : Int)).toNat = n + (n - s2) by omega] at hno
      exact k none Hx hs02 (never_of e4 (F := fun tk => tile ∈ tk.swept) fun v h1 h2 => hno v h1 (by omega))
end
end Sw

end

section
set_option maxRecDepth 100000
set_option maxHeartbeats 4000000
/-! a lambda with parameters, handed to a method that calls it: its object is tracked, what it captured lies in a larger base -/
namespace SwA
open PySem PySem.Spec PyProof.Rows L2 LamX NdefX
/-- the object at f is the lambda F, its body e -/
def LamO (f : Addr) (F : NF) (e : Expr) : HO := .ext fun h => ∃ (od : Option Addr) (sl : Array (Option Value)) (pm ctv : Value), h.get? f = some (⟨.type "function", od, .func (PySem.W.kla_fn F.name F.qual F.params e F.scope F.cl pm (.ref F.c) ctv), sl⟩ : Obj)
theorem lamO_ne {f : Addr} {F : NF} {e : Expr} (ps : Array Value) : LamO f F e ≠ .tbl ps := fun z => by
  unfold LamO at z
  cases z
theorem lamO_at {P : Program} {w : World} {H : Hp} {h : Heap} {f : Addr} {F : NF} {e : Expr} (hok : HOk P w H h) (q : H f = some (LamO f F e)) :
    ∃ (od : Option Addr) (sl : Array (Option Value)) (pm ctv : Value), h.get? f = some (⟨.type "function", od, .func (PySem.W.kla_fn F.name F.qual F.params e F.scope F.cl pm (.ref F.c) ctv), sl⟩ : Obj) := (hok f _ q).1
section
variable {X : Cx} {pins : List (Addr × Obj)} {σ : L2.St} {H : Hp} {s : Shared}
theorem inv_lam {F : NF} {e : Expr} {o : Obj} {tk : Nat} {pm ctv : Value} (I : Inv X pins σ H s) (ho : o = PySem.W.kla_obj F.name F.qual F.params e F.scope F.cl pm F.c ctv) :
    Inv X pins σ (upd H s.heap.objs.size (LamO s.heap.objs.size F e)) { s with heap := s.heap.push o, toks := tk } := by
  have g : (s.heap.push o).get? s.heap.objs.size = some o := Heap.get?_push_size _ (by rw [ho]; rfl)
  refine I.laid (a := s.heap.objs.size) (fun b u q => Heap.get?_push_of_some _ q) (Nat.le_refl _) ⟨⟨none, #[], pm, ctv, ?_⟩, ⟨o, g⟩, fun h1 h2 z st => ?_⟩
  · rw [g, ho]
  · obtain ⟨a, b, c, d, z⟩ := z
    exact ⟨a, b, c, d, st _ z⟩
abbrev mkL (X : Cx) (params : Arguments) (scope : Scope) (c' : Addr) : NF := ⟨"<lambda>", X.env.qual ++ "<lambda>", params, [], scope, cloFrom X.env.cells scope.names [], c'⟩
theorem lam_track {T : List (Addr × Str)} {c P : Addr} {params : Arguments} {body : Expr} {scope : Scope} {pos : Pos} {E Q : Value → Shared → Prop} (I : Inv X pins σ H s) (TB : TabB X.base X.mg c P) (hcode : X.env.code = .ref c)
    (hm : (P, X.env.qual ++ "<lambda>") ∈ T) (hu : ∀ p ∈ T, p.1 = P → p.2 = X.env.qual ++ "<lambda>") (hT : Tabs T H) (hdef : defaultsOf params X.env = ([], [])) (hfree : ∀ y ∈ scope.names, y.2 = .free → ∃ c, X.env.cells.lookup y.1 = some c)
    (h : ∀ (f c' : Addr) (H1 : Hp) (s' : Shared), Inv X pins σ H1 s' → ExtN H H1 → Tabs T H1 → H f = none → H1 f = some (LamO f (mkL X params scope c') body) → H1 c' = some (CodeO c' (X.env.qual ++ "<lambda>")) → Q (.ref f) s') :
    wpAny (model X.prog X.w) X.A (eval (.Lambda params body scope pos) X.env) Q E s := by
  obtain ⟨ps, hP, ht, ha⟩ := hT _ hm
  have bP := TB.bm.keeps I.bk
  have gP : s.heap.get? P = some { cls := .none, data := .fields ps } := I.hok P _ hP
  refine PySem.W.kla_eval hdef ?_
  -- the end: the function's object is tracked
  have fin : ∀ (H1 : Hp) (h1 : Heap) (t1 tk : Nat) (c' : Addr) (ctv : Value), Inv X pins σ H1 { s with heap := h1, toks := t1 } → ExtN H H1 → Tabs T H1 → H1 c' = some (CodeO c' (X.env.qual ++ "<lambda>")) → s.heap.objs.size ≤ h1.objs.size →
      Q (.ref h1.objs.size) { s with heap := h1.push (PySem.W.kla_obj "<lambda>" (X.env.qual ++ "<lambda>") params body scope (cloFrom X.env.cells scope.names []) ((X.mg "__name__").getD .none) c' ctv), toks := tk } := fun H1 h1 t1 tk c' ctv I1 e1 T1 hc hz => by
    have n1 : H1 h1.objs.size = none := I1.hok.fresh (Nat.le_refl _)
    have I2 := inv_lam (F := mkL X params scope c') (e := body) (tk := tk) (pm := (X.mg "__name__").getD .none) (ctv := ctv) I1 rfl
    have up : ∀ b o, H1 b = some o → upd H1 h1.objs.size (LamO h1.objs.size (mkL X params scope c') body) b = some o := fun b o q => (upd_ne (ne_of_none q n1)).trans q
    exact h h1.objs.size c' _ _ I2 (fun b o q n => up b o (e1 b o q n)) (T1.ext up) (I.hok.fresh hz) upd_same (up _ _ hc)
  cases hc : codeAmong pos ps.toList with
  | some cv =>
    obtain ⟨c', e, hco⟩ := ha pos cv hc
    subst e
    exact PySem.W.kla_makeFunctionHit (mg := X.mg) (c := c) (P := P) (ps := ps) (closure_ok hfree) I.ok.glob (I.mod.glob.keeps I.bk) hcode (TB.code.keeps I.bk) gP ht hc bP fun ctv h' tk hx hz =>
      fin H h' tk tk c' ctv (I.kept hx) (ExtN.refl H) hT hco hz
  | none =>
    refine PySem.W.kla_makeFunction (mg := X.mg) (c := c) (P := P) (ps := ps) (closure_ok hfree) I.ok.glob (I.mod.glob.keeps I.bk) hcode (TB.code.keeps I.bk) gP ht hc TB.gP bP fun c' ctv h' tk hx hge hlt hrec htb => ?_
    obtain ⟨c2, oc, vs, t, e2, r⟩ := hrec
    cases e2
    have nC : H c' = none := I.hok.fresh hge
    have I1 := inv_table (t' := tk) (more := #[rawInt pos.line, rawInt pos.col, .ref c']) (h' := h') (q := X.env.qual ++ "<lambda>") I hP (fun b o nb q => hx b o nb q) htb hge ⟨oc, vs, t, r⟩
    have up : ExtN H (upd (upd H P (.tbl (ps ++ #[rawInt pos.line, rawInt pos.col, .ref c']))) c' (CodeO c' (X.env.qual ++ "<lambda>"))) := fun b o q n =>
      (upd_ne (ne_of_none q nC)).trans ((upd_ne fun (z : b = P) => n ps (Option.some.inj (q.symm.trans (by rw [z]; exact hP)))).trans q)
    refine fin _ h' tk tk c' ctv I1 up (fun p hp => ?_) upd_same (Nat.le_trans hge (Nat.le_of_lt hlt))
    by_cases hb : p.1 = P
    · have eL : (ps ++ #[rawInt pos.line, rawInt pos.col, .ref c']).toList = ps.toList ++ [rawInt pos.line, rawInt pos.col, .ref c'] := by simp
      rw [hu p hp hb, hb]
      refine ⟨_, (upd_ne (ne_of_none hP nC)).trans upd_same, eL ▸ PySem.TriplesOk_snoc _ _ _ _ ht, fun p' cv hcv => ?_⟩
      rcases among_app _ ht (eL ▸ hcv) with z | z
      · obtain ⟨c0, z1, z2⟩ := ha p' cv z
        exact ⟨c0, z1, up _ _ z2 codeO_ne⟩
      · exact ⟨c', z, upd_same⟩
    · obtain ⟨qs, a1, a2, a3⟩ := hT p hp
      refine ⟨qs, (upd_ne (ne_of_none a1 nC)).trans ((upd_ne hb).trans a1), a2, fun p' cv hcv => ?_⟩
      obtain ⟨c0, z1, z2⟩ := a3 p' cv hcv
      exact ⟨c0, z1, up _ _ z2 codeO_ne⟩
end
/-- the reading of a lambda: a new function that is known from now on -/
def tLamT (T : List (Addr × Str)) (mk : Addr → NF) (e : Expr) : TE := fun σ H Q => Tabs T H ∧ ∀ (f c' : Addr) (H1 : Hp), ExtN H H1 → Tabs T H1 → H f = none → H1 f = some (LamO f (mk c') e) → H1 c' = some (CodeO c' (mk c').qual) → Q (.ref f) H1
theorem pe_lamT {X : Cx} {T : List (Addr × Str)} {c P : Addr} {params : Arguments} {body : Expr} {scope : Scope} {pos : Pos} (TB : TabB X.base X.mg c P) (hcode : X.env.code = .ref c) (hm : (P, X.env.qual ++ "<lambda>") ∈ T) (hu : ∀ p ∈ T, p.1 = P → p.2 = X.env.qual ++ "<lambda>")
    (hdef : defaultsOf params X.env = ([], [])) (hfree : ∀ y ∈ scope.names, y.2 = .free → X.env.scope.names.lookup y.1 = some .cell ∨ X.env.scope.names.lookup y.1 = some .free) : PE X (.Lambda params body scope pos) (tLamT T (mkL X params scope) body) :=
  ⟨fun pins s σ H Q I ⟨hT, h⟩ => lam_track I TB hcode hm hu hT hdef (fun y hy e => (hfree y hy e).elim (fun z => I.ok.has _ (.inl z)) fun z => I.ok.has _ (.inr z)) fun f c' H1 s' I1 e1 T1 n f1 c1 => ⟨.ref f, H1, I1, rfl, h f c' H1 e1 T1 n f1 c1⟩⟩
/-- what the function at f promises while G stands -/
structure VOk (P : Program) (w : World) (K : PySem.W.Frag) (mg : Str → Option Value) (base : Heap) (CX : CXT) (k : Nat) (f : Addr) (G : Hp → Prop) (sp : Sp) : Prop where
  isf : ∀ {H : Hp} {h : Heap}, HOk P w H h → G H → PySem.W.FnAt f h
  run : ∀ (A : Around) (outer : List Env) (s : Shared) (H : Hp) (us : List Value) (vs : List V) (Q : VK) (E : XK), Room k A → Env0 P w K mg base A outer s H → G H → Vals vs us → sp vs H Q E → codeAny (model P w) A (.call (.ref f) ⟨us, []⟩) (CR CX outer P w H s Q E) s
abbrev gLam (f : Addr) (F : NF) (e : Expr) : Hp → Prop := fun H => H f = some (LamO f F e) ∧ H F.c = some (CodeO F.c F.qual)
section
variable {CX : CXT} {P : Program} {w : World} {K : PySem.W.Frag} {mg : Str → Option Value} {base : Heap} {N ps fr : List Str} {F : NF} {f : Addr} {e : Expr} {k j : Nat} {sp : Sp} {ws : List (Option V)}
theorem cells_base {cl : List (Str × Addr)} {h : Heap} {H : Hp} (C : CellsAt cl fr ws base fun _ => none) (hb : ∀ b o, base.get? b = some o → h.get? b = some o ∧ H b = none) : CellsAt cl fr ws h H := by
  have kp : ∀ {c : Addr} {v : Option Value}, base.IsCell c v → h.IsCell c v ∧ H c = none := fun ⟨o, ho, hd⟩ => ⟨⟨o, (hb _ _ ho).1, hd⟩, (hb _ _ ho).2⟩
  refine ⟨C.len, fun y c q => ?_, C.inj, fun i y q => ?_⟩
  · obtain ⟨_, v, z⟩ := C.all y c q
    exact ⟨(kp z).2, v, (kp z).1⟩
  · obtain ⟨c, hc, hv⟩ := C.has i y q
    refine ⟨c, hc, fun v ev => ?_⟩
    obtain ⟨u, r, z⟩ := hv v ev
    exact ⟨u, r, (kp z).1⟩
/-- a lambda by its body, what it captured lies in the base -/
theorem vok_lam (S : NScope N ps fr F.scope) (hbind : ∀ (pm ctv : Value) (us : List Value), us.length = ps.length → bindArgs (PySem.W.kla_fn F.name F.qual F.params e F.scope F.cl pm (.ref F.c) ctv) ⟨us, []⟩ = pure (ps.zip us)) (C : CellsAt F.cl fr ws base fun _ => none)
    (len : ∀ vs H Q E, sp vs H Q E → vs.length = ps.length)
    (hbody : ∀ (A : Around) (outer : List Env) (s : Shared) (H : Hp) (vs : List V) (Q : VK) (E : XK), Room k (A.deeper (envF F f s.heap.objs.size)) → sp vs H Q E → ∃ t, PE (ncx CX P w K mg base N F f A outer s H E) e t ∧ t (startF N vs ws) H Q) :
    VOk P w K mg base CX (k + 1) f (gLam f F e) sp := by
  refine ⟨fun hok ⟨g, _⟩ => ?_, fun A outer s H us vs Q E hr e0 ⟨hf, hc⟩ r hsp => ?_⟩
  · obtain ⟨od, sl, pm, ctv, z⟩ := lamO_at hok g
    exact ⟨_, od, _, sl, z⟩
  have hl := len _ _ _ _ hsp
  obtain ⟨od, sl, pm, ctv, ho⟩ := lamO_at e0.hok hf
  refine PySem.W.kla_callFunE hr.depth ho rfl S.co S.gen rfl (codeO_at e0.hok hc) ?_
  rw [hbind pm ctv us (by rw [← r.length]; exact hl)]
  have lim : s.heap.NoLimit := e0.mod.nolimit.keeps fun b o q => (e0.bs b o q).1
  refine wpAny_pure (wpAny_newFunctionEnv S.nocell (fun ⟨n, _⟩ hy => S.par n (List.of_mem_zip hy).1) (fun h₁ hns hsb => ⟨lim.fresh _ hsb, ?_⟩) S.kind)
  show codeAny _ _ (.expr e (envF F f s.heap.objs.size)) _ _
  have kp : ∀ b o, s.heap.get? b = some o → h₁.get? b = some o := fun b o q => hsb.extBut b o (Nat.ne_of_lt (Heap.lt_size q)) (Heap.get?_push_of_some _ q)
  obtain ⟨t, ht, hq⟩ := hbody A outer s H vs Q E (hr.deeper _) hsp
  have J := inv_startN (CX := CX) (E := E) (f := f) (tk := s.toks + (ps.zip us).length) S hr.hd e0 hl r (cells_base C e0.bs) hns kp
  refine PySem.W.kla_codeExpr (wpAny_mono (ht.run [] _ (startF N vs ws) H Q J hq) (fun v s' z => ?_) fun _ _ z => z)
  obtain ⟨x, H', J', rv, q⟩ := z
  exact ⟨x, H', J'.os, J'.bare, J'.base, J'.hok, rv, q⟩
end
/-- x(..), x a name that holds the function at f -/
def tCallVal (f : Addr) (G : Hp → Prop) (i : Nat) (sp : Sp) (E : XK) (t : TA) : TE := fun σ H Q => σ[i]? = some (some (.ref f)) ∧ G H ∧ t σ H fun vs H1 => G H1 ∧ sp vs H1 Q E
section
variable {X : Cx} {CX : CXT} {i j k : Nat} {x : Str} {f : Addr} {G : Hp → Prop} {sp : Sp} {E : XK} {t : TA} {e : Expr} {es : List Expr} {p pos apos : Pos}
theorem run_val {pins : List (Addr × Obj)} {σ : L2.St} {H : Hp} {s : Shared} {Q : VK} {us : List Value} {vs : List V} (V : VOk X.prog X.w X.K X.mg X.base CX k f G sp) (hr : Room k X.A) (hx : Passes CX X E) (I : Inv X pins σ H s) (g : G H) (r : Vals vs us) (q : sp vs H Q E) :
    wpAny (model X.prog X.w) X.A (call (.ref f) us) (EP X pins σ Q) X.xe s := by
  refine wpAny_call (codeAny_mono (V.run X.A X.stack s H us vs Q E hr I.env0 g r q) fun r s' hq => ?_)
  match r, hq with
  | .error e, hq => exact hx pins σ H s e s' I hq
  | .ok (.ret u), hq => exact I.after hq
theorem pe_callVal (V : VOk X.prog X.w X.K X.mg X.base CX k f G sp) (hr : Room k X.A) (hx : Passes CX X E) (hN : X.N[i]? = some x) (hv : Vis X.env.scope x) (ha : PA X (e :: es) t)
    (hd : (x == ("__debug__" : Str)) = false := by decide) (hcd : (x == ("__classdict__" : Str)) = false := by decide)
    (he : starEach (e :: es) X.env = (false, eval e X.env) :: starEach es X.env := by rfl) (hpl : (backTo pos (starEach es X.env)).any (·.1) = false := by rfl) :
    PE X (.Call (.Name x p) (e :: es) [] pos) (tCallVal f G i sp E t) := by
  refine ⟨fun pins s σ H Q I ⟨hs, g, ht⟩ => ?_⟩
  refine wpAny_Call_Name_kw (thn ((pe_var (pos := p) hN hv hd hcd).run pins s σ H (fun v H1 => v = .ref f ∧ H1 = H) I ⟨.ref f, hs, rfl, rfl⟩) fun u s1 ⟨v, H1, I1, r1, ev, eH⟩ => ?_)
  subst ev eH
  obtain rfl : u = Value.ref f := r1
  exact PySem.W.callWith_F (first := []) (V.isf I1.hok g) (thn (ha.run pos pins s1 σ _ _ I1 ht) fun us s2 ⟨vs, H2, I2, r, g2, q⟩ => ⟨V.isf I2.hok g2, run_val V hr hx I2 g2 r q⟩) he hpl
end
/-! a method whose argument reads cells of the running def: the base grows by all that is not tracked -/
theorem frames_base {h base base' : Heap} : ∀ {l : List Env}, (∀ b ∈ frs l, base'.get? b = none) → h.FunFrames base l → h.FunFrames base' l
  | [], _, _ => trivial
  | env :: r, hn, ⟨hk, ⟨L, o, hf, _, ho⟩, hr⟩ => by
    have e : frs (env :: r) = L :: frs r := by
      unfold frs
      rw [List.filterMap_cons, hf]
    rw [e] at hn
    exact ⟨hk, ⟨L, o, hf, hn L List.mem_cons_self, ho⟩, frames_base (fun b hb => hn b (List.mem_cons_of_mem _ hb)) hr⟩
section
variable {X : Cx} {CX : CXT} {k : Nat} {C g : Addr} {fd : FuncData} {ps : List Str} {E : XK} {m : Str} {p pos apos : Pos} {z o : Expr} {zs : List Expr} {ta : TE} {t : TA} {cl : List (Str × Addr)} {fr : List Str} {js : List Nat} {ws : List (Option V)}
theorem run_lent {pins : List (Addr × Obj)} {σ : L2.St} {H : Hp} {s : Shared} {Q : VK} {us : List Value} {vs : List V} {sp : Sp} (I : Inv X pins σ H s) (hfn : ∀ y, X.fn y = true) (hcl : ∀ y c, cl.lookup y = some c → X.env.cells.lookup y = some c) (Cs : CellsAt cl fr ws s.heap H)
    (F : ∀ base' : Heap, (∀ b ob, X.base.get? b = some ob → base'.get? b = some ob) → (CellsAt cl fr ws base' fun _ => none) → FnOk X.prog X.w X.K X.mg base' CX k g fd ps sp) (hr : Room k X.A) (hb : L2.Binds X.K fd ps []) (hx : Passes CX X E) (r : Vals vs us) (h : sp vs H Q E) :
    wpAny (model X.prog X.w) X.A (call (.ref g) us) (EP X pins σ Q) X.xe s := by
  obtain ⟨B, hB⟩ : ∃ B, B = PySem.W.hideAll s.heap (trk s.heap H ++ frs X.stack) := ⟨_, rfl⟩
  have hid : ∀ b, b ∈ trk s.heap H ++ frs X.stack → B.get? b = none := fun b hb => hB ▸ PySem.W.hideAll_none _ hb
  have ofB : ∀ b ob, B.get? b = some ob → s.heap.get? b = some ob ∧ H b = none := fun b ob q => by
    have q' : s.heap.get? b = some ob := PySem.W.of_hideAll _ (hB ▸ q)
    refine ⟨q', ?_⟩
    cases hz : H b with
    | none => rfl
    | some u =>
      have := hid b (List.mem_append_left _ (List.mem_filter.mpr ⟨List.mem_range.mpr (Heap.lt_size q'), by rw [hz]; rfl⟩))
      rw [this] at q
      cases q
  have toB : ∀ b ob, s.heap.get? b = some ob → H b = none → b ∉ frs X.stack → B.get? b = some ob := fun b ob q n nf => by
    rw [hB]
    refine PySem.W.hideAll_get _ q fun hm => ?_
    rcases List.mem_append.mp hm with z | z
    · have z2 := (List.mem_filter.mp z).2
      rw [n] at z2
      cases z2
    · exact nf z
  have kb : ∀ b ob, X.base.get? b = some ob → B.get? b = some ob := fun b ob q => toB b ob (I.bs b ob q).1 (I.bs b ob q).2 fun z => by
    have := (I.stack.mem z).1
    rw [q] at this
    cases this
  have nfr : ∀ y c, cl.lookup y = some c → c ∉ frs X.stack := fun y c q z => by
    have qe := hcl y c q
    rcases List.mem_cons.mp (I.stkSub c z) with z | z
    · exact I.cne y c qe z
    · obtain ⟨_, ob, ho, _⟩ := I.ok.funs.mem z
      exact absurd (Nat.lt_of_lt_of_le (Heap.lt_size ho) (I.ok.cab y c (hfn y) qe)) (Nat.lt_irrefl _)
  have cB : CellsAt cl fr ws B fun _ => none := by
    have kc : ∀ {y c} {v : Option Value}, cl.lookup y = some c → s.heap.IsCell c v → B.IsCell c v := fun {y c v} q ⟨ob, ho, hd⟩ => ⟨ob, toB c ob ho (Cs.all y c q).1 (nfr y c q), hd⟩
    refine ⟨Cs.len, fun y c q => ?_, Cs.inj, fun i y q => ?_⟩
    · obtain ⟨_, v, z⟩ := Cs.all y c q
      exact ⟨rfl, v, kc q z⟩
    · obtain ⟨c, hc, hv⟩ := Cs.has i y q
      refine ⟨c, hc, fun v ev => ?_⟩
      obtain ⟨u, ru, z⟩ := hv v ev
      exact ⟨u, ru, kc hc z⟩
  have M : Mod X.K X.mg B := ⟨I.mod.kin.keeps kb, I.mod.glob.keeps kb, let ⟨mb, h1, h2⟩ := I.mod.blt; ⟨mb, h1.keeps kb, h2⟩, I.mod.nolimit.keeps kb⟩
  have e0 : Env0 X.prog X.w X.K X.mg B X.A X.stack s H := ⟨I.ok.frames, M, ofB, Nat.le_of_eq (by rw [hB, PySem.W.hideAll_size]), frames_base (fun b hb => hid b (List.mem_append_right _ hb)) I.stack, I.stkFree, I.hok, I.bare⟩
  have Fn := F B kb cB
  have hl : (us ++ []).length = ps.length := by
    rw [List.append_nil, ← r.length]
    exact Fn.len _ _ _ _ h
  have hb2 := hb s us I.kIn hl
  rw [List.append_nil] at hb2
  refine wpAny_call (codeAny_mono (Fn.run X.A X.stack s H ⟨us, []⟩ us vs Q E hr e0 hb2 r h) fun r s' hq => ?_)
  match r, hq with
  | .error e, hq => exact hx pins σ H s e s' I hq
  | .ok (.ret u), hq => exact I.after hq
/-- o.m(e, ..), one of the arguments a lambda that was just made -/
def tMethB (C : Addr) (m : Str) (sp : Addr → Addr → List (Option V) → Sp) (js : List Nat) (E : XK) (ta : TE) (t : TA) : TE := fun σ H Q => ta σ H fun x H1 => ∃ a dx fs, x = .ref a ∧ H1 a = some (.ins C dx fs) ∧ fs.lookup m = none ∧
  t σ H1 fun vs H2 => ∃ f c', sp f c' (js.map (slotAt σ)) (x :: vs) H2 Q E
theorem pe_methB {pl : Sem Bool} {sp : Addr → Addr → List (Option V) → Sp} (hfn : ∀ y, X.fn y = true) (he : PE X o ta) (c : Cls X.K C) (hm : Meth X.K C m g) (cp : X.Ok → NdefX.Caps X cl fr js)
    (F : ∀ (f c' : Addr) (ws : List (Option V)) (base' : Heap), (∀ b ob, X.base.get? b = some ob → base'.get? b = some ob) → (CellsAt cl fr ws base' fun _ => none) → FnOk X.prog X.w X.K X.mg base' CX k g fd ps (sp f c' ws))
    (hr : Room k X.A) (hb : L2.Binds X.K fd ps []) (hx : Passes CX X E) (ha : PA X (z :: zs) t)
    (hst : starEach (z :: zs) X.env = (false, eval z X.env) :: starEach zs X.env := by rfl)
    (hpl : (backTo pos (starEach zs X.env)).any (·.1) = false := by rfl)
    (ht : eval (.Call (.Attribute o m apos) (z :: zs) [] pos) X.env = (do let ov ← eval o X.env; standAt apos.atName; let (f, first) ← holding [ov] (getMethod ov m pl); callWith pos f first (backTo pos (starEach (z :: zs) X.env)) (backToKw pos (keywordEach [] X.env))) := by rfl) :
    PE X (.Call (.Attribute o m apos) (z :: zs) [] pos) (tMethB C m sp js E ta t) := by
  refine ⟨fun pins s σ H Q I h => ?_⟩
  refine PySem.W.methodCall_KW (pl := pl) (thn (he.run pins s σ H _ I h) fun u s1 ⟨x, H1, I1, rx, a, dx, fs, ex, ea, l, q⟩ => by
    subst ex
    cases (show u = Value.ref a from rx)
    refine getmeth_ok I1 ea c hm l (PySem.W.callWith_K (first := [.ref a]) (h₀ := X.base) I.ok.mod.kin hm.kp (thn (ha.run pos pins s1 σ H1 _ I1 q) fun us s2 ⟨vs, H2, I2, r, f, c', q2⟩ => ⟨I2.kIn, ?_⟩) hst hpl)
    exact run_lent (us := .ref a :: us) (vs := .ref a :: vs) I2 hfn (cp I2.ok).sub (cells_of I2 (cp I2.ok)) (F f c' _) hr hb hx (.cons rfl r) q2) ht
end
end SwA

end

section
set_option maxRecDepth 100000
set_option maxHeartbeats 4000000
/-! heaps without the tables of code objects -/
namespace Sw
open PySem PySem.Spec PyProof.Rows L2 SwA
def NT (H : Hp) (b : Addr) : Prop := ∀ ps, H b ≠ some (.tbl ps)
theorem nt {H : Hp} {b : Addr} {o : HO} (e : H b = some o) (n : ∀ ps, o ≠ .tbl ps := by intro ps z; cases z) : NT H b := fun ps z => by
  rw [e] at z
  exact n ps (Option.some.inj z)
/-- the heap without tables -/
def noT (H : Hp) : Hp := fun b => match H b with
  | some (.tbl _) => none
  | o => o
theorem noT_some {H : Hp} {b : Addr} {o : HO} (e : noT H b = some o) : H b = some o ∧ ∀ ps, o ≠ .tbl ps := by
  unfold noT at e
  split at e
  · cases e
  · rename_i n
    refine ⟨e, fun ps z => ?_⟩
    subst z
    exact n _ e
theorem noT_of {H : Hp} {b : Addr} {o : HO} (e : H b = some o) (n : ∀ ps, o ≠ .tbl ps := by intro ps z; cases z) : noT H b = some o := by
  unfold noT
  rw [e]
  cases o with
  | tbl ps => exact absurd rfl (n ps)
  | _ => rfl
theorem noT_sub (H : Hp) : Same (noT H) H := fun b o e => (noT_some e).1
theorem ext_same {H H' : Hp} (e : LamX.ExtN H H') : Same (noT H) H' := fun b o z => e b o (noT_some z).1 (noT_some z).2
theorem ext_noT {H H' : Hp} (e : LamX.ExtN H H') : Same (noT H) (noT H') := fun b o z => noT_of (e b o (noT_some z).1 (noT_some z).2) (noT_some z).2
theorem ext_of {H H' : Hp} (s : Same H H') : LamX.ExtN H H' := fun b o e _ => s b o e
theorem TupN.trT {H : Hp} {a : Addr} {xs : List V} (h : TupN H a xs) : TupN (noT H) a xs := h.mono fun _ z => noT_of z
end Sw

end

section
set_option maxRecDepth 100000
set_option maxHeartbeats 4000000
/-! Story.count, count_swept -/
namespace Sw
open PySem PySem.Spec PyProof.Rows L2 SwA LamX NdefX
structure CntT (K : PySem.W.Frag) (mg : Str → Option Value) : Prop where
  t : TilT K mg
  sum : mg "sum" = none
  divmod : mg "divmod" = none
  count : MeT K "Story" "count" "Story.count" s_Story_count
  cs : DeT K mg "count_swept" s_count_swept
/-! the plain part -/
def sumN (l : List Nat) : Nat := l.sum
def cntN (pl : Plan) (meas : TickM → Nat) (t : Nat) : Nat := ((List.range t).map fun v => meas (tkN pl v)).sum
theorem cnt_succ (pl : Plan) (meas : TickM → Nat) (t : Nat) : cntN pl meas (t + 1) = cntN pl meas t + meas (tkN pl t) := by
  unfold cntN
  rw [List.range_succ, List.map_append, List.sum_append]
  simp
theorem cnt_le {pl : Plan} {meas : TickM → Nat} {b : Nat} (h : ∀ v, meas (tkN pl v) ≤ b) : ∀ t, cntN pl meas t ≤ t * b
  | 0 => by simp [cntN]
  | t + 1 => by
    rw [cnt_succ, Nat.add_mul]
    have := cnt_le h t
    have := h t
    omega
theorem cnt_win (pl : Plan) (meas : TickM → Nat) {n s : Nat} (h : Rep (stN pl) n s) : ∀ m, cntN pl meas (s + m + (n - s)) = cntN pl meas (s + m) + (cntN pl meas n - cntN pl meas s)
  | 0 => by
    have e : s + 0 + (n - s) = n := by have := h.lt; omega
    have mono : ∀ k, cntN pl meas s ≤ cntN pl meas (s + k) := fun k => by
      induction k with
      | zero => exact Nat.le_refl _
      | succ k ih => rw [← Nat.add_assoc, cnt_succ]; omega
    have := mono (n - s)
    rw [show s + (n - s) = n by have := h.lt; omega] at this
    rw [e, Nat.add_zero]
    omega
  | m + 1 => by
    have ih := cnt_win pl meas h m
    have e1 : s + (m + 1) + (n - s) = s + m + (n - s) + 1 := by omega
    have e2 : s + (m + 1) = s + m + 1 := by omega
    have e3 : tkN pl (s + m + (n - s)) = tkN pl (s + m) := by
      have := tk_again h (v := s + m) (k := 1) (by omega)
      rw [Nat.mul_one] at this
      exact this
    rw [e1, e2, cnt_succ, cnt_succ, ih, e3]
    omega
theorem cnt_rounds (pl : Plan) (meas : TickM → Nat) {n s : Nat} (h : Rep (stN pl) n s) (m : Nat) : ∀ r, cntN pl meas (s + m + (n - s) * r) = cntN pl meas (s + m) + r * (cntN pl meas n - cntN pl meas s)
  | 0 => by simp
  | r + 1 => by
    have ih := cnt_rounds pl meas h m r
    have e : s + m + (n - s) * (r + 1) = s + (m + (n - s) * r) + (n - s) := by rw [Nat.mul_add, Nat.mul_one]; omega
    rw [e, cnt_win pl meas h, ← Nat.add_assoc, ih, Nat.add_mul, Nat.one_mul]
    omega
def knownL (pl : Plan) (meas : TickM → Nat) (n : Nat) : List Nat := (List.range n).map fun v => meas (tkN pl v)
theorem known_take (pl : Plan) (meas : TickM → Nat) {n t : Nat} (h : t ≤ n) : ((knownL pl meas n).take t).sum = cntN pl meas t := by
  unfold knownL cntN
  rw [← List.map_take, List.take_range, Nat.min_eq_left h]
theorem known_drop (pl : Plan) (meas : TickM → Nat) {n s : Nat} (h : s ≤ n) : ((knownL pl meas n).drop s).sum = cntN pl meas n - cntN pl meas s := by
  have e := congrArg List.sum (List.take_append_drop s (knownL pl meas n))
  rw [List.sum_append, known_take pl meas h] at e
  have e2 : (knownL pl meas n).sum = cntN pl meas n := rfl
  omega
theorem iVn_sum (l : List Nat) : (l.map fun n : Nat => (n : Int)).sum = ((l.sum : Nat) : Int) := by
  induction l with
  | nil => rfl
  | cons a l ih => rw [List.map_cons, List.sum_cons, List.sum_cons, ih]; push_cast; rfl
theorem iVn_eq (l : List Nat) : (l.map fun n : Nat => V.int n) = (l.map fun n : Nat => (n : Int)).map V.int := by rw [List.map_map]; rfl
theorem icount (l : List Nat) (t : Nat) : (l.map fun n : Nat => (n : Int)).count (t : Int) = l.count t := by
  induction l with
  | nil => rfl
  | cons a l ih =>
    rw [List.map_cons, List.count_cons, List.count_cons, ih]
    have : ((a : Int) == (t : Int)) = (a == t) := by
      rw [Bool.eq_iff_iff]
      simp
      omega
    rw [this]
section
variable {P : Program} {w : World} {K : PySem.W.Frag} {mg : Str → Option Value} {base : Heap}
/-- what a measure of a tick promises -/
def spMeas (K : PySem.W.Frag) (meas : TickM → Nat) : Sp := fun vs H Q _ => ∃ (a : Addr) (tk : TickM), vs = [.ref a] ∧ TickAt K H a tk ∧ Q (.int (meas tk)) H
def spCount (K : PySem.W.Frag) (f : Addr) (G : Hp → Prop) (meas : TickM → Nat) : Sp := fun vs H Q _ => ∃ (a : Addr) (pl : Plan) (n s t : Nat), vs = [.ref a, .int t, .ref f] ∧ StoryAt K H a pl n s ∧ G H ∧ (∀ v, meas (tkN pl v) ≤ 3) ∧
  ∀ H', Same H H' → Q (.int (cntN pl meas t)) H'
abbrev coN : List Str := ["self", "ticks", "measure", "known", "one", "rounds", "rest"]
theorem sc_count : FnScope coN ["self", "ticks", "measure"] (defScope s_Story_count) := ⟨rfl, rfl, rfl, by decide +kernel, rfl, by decide +kernel, by decide +kernel⟩
theorem ok_count (T : CntT K mg) {fd : FuncData} (F : FunD K "count" "Story.count" (defArgs s_Story_count) (defBody s_Story_count) (defScope s_Story_count) [] [] (He.fAd K ("Story", some "count")) fd) {f : Addr} {G : Hp → Prop} {meas : TickM → Nat} (hG : ∀ H H', Same H H' → G H → G H') (VF : VOk P w K mg base CX0 1 f G (spMeas K meas)) :
    FnOk P w K mg base CX0 3 (He.fAd K ("Story", some "count")) fd ["self", "ticks", "measure"] (spCount K f G meas) := by
  obtain ⟨fdZ, GZ, bZ⟩ := ok_size (P := P) (w := w) (base := base) T.t.c.h
  refine F.ok sc_count (fun vs H Q E h => ?_) (fun cdv A outer s H vs Q E hr h => ?_)
  · obtain ⟨a, pl, n, s, t, rfl, _⟩ := h
    rfl
  · obtain ⟨a, pl, n, s2, t, rfl, hS, hg, hm, k⟩ := h
    have hr1 : Room 1 _ := hr.mono (by decide)
    have hr2 : Room 2 _ := hr.mono (by decide)
    refine ⟨_, PSs.nox (pss_cons (ps_setLc (i := 3) (own := [("one", 4)]) (g := (gName 4)) (tt := tYes) (te := tCallVal f G 2 (spMeas K meas) E0 (tCons (tVar 4) tNil)) rfl sc_count.nd rfl rfl (sw_true rfl rfl rfl (by decide +kernel)) (pi_list (pe_fld (pv 0) rfl)) (blkOk_by (own := [("one", 4)]) (N := coN) (sc := defScope s_Story_count) (by decide +kernel)) (fun _ _ _ _ _ => (pg_name (i := 4) sc_count.nd rfl (.inl rfl))) (fun _ _ _ _ _ => pts_nil) (fun _ _ _ _ _ => (pe_callVal VF hr1 pass0 rfl (by first | exact Or.inl rfl | exact Or.inr (Or.inl rfl) | exact Or.inr (Or.inr rfl)) (pa_cons (pv 4) pa_nil))))
      (pss_cons (ps_if (pt_cmpR op_le (pv 1) (pe_callB call_len_seq (by rfl) T.t.c.h.s.m.lo.p.l.len boot_len (pa_cons (pv 3) pa_nil)) (nomark _))
        (pss_one (ps_ret (pe_callB (cr_sum rfl) (by rfl) T.sum (by decide +kernel) (pa_cons (pe_slice sl_list (pv 3) po_none (po_some (pv 1))) pa_nil)))) pss_nil)
      (pss_cons (ps_asg (pe_callB call_divmod (by rfl) T.divmod (by decide +kernel) (pa_cons (pe_op op_sub (pv 1) (pe_fld (pv 0) rfl)) (pa_cons (pe_prop (pv 0) T.t.c.h.s.sto.c T.t.c.h.size.p GZ hr2 bZ .nil pass0 rfl) pa_nil)))
        (pg_tup rfl (pgs_cons (pg_name (i := 5) sc_count.nd rfl (.inl rfl)) (pgs_cons (pg_name (i := 6) sc_count.nd rfl (.inl rfl)) pgs_nil))))
      (pss_one (ps_ret (pe_op op_add (pe_callB (cr_sum rfl) (by rfl) T.sum (by decide +kernel) (pa_cons (pe_slice sl_list (pv 3) po_none (po_some (pe_op op_add (pe_fld (pv 0) rfl) (pv 6)))) pa_nil)) (pe_op op_mul (pv 5) (pe_callB (cr_sum rfl) (by rfl) T.sum (by decide +kernel) (pa_cons (pe_slice sl_list (pv 3) (po_some (pe_fld (pv 0) rfl)) po_none) pa_nil))))))))), ?_⟩
    obtain ⟨dx, tl, tas, e1, e2, e3, e4, e5⟩ := id hS
    have hlt := e4.lt
    have hl := tas_len e3
    refine ⟨_, rfl, a, _, dx, _, _, rfl, e1, T.t.c.h.s.sto.c, T.t.c.h.s.sto.n _ (by simp), lo_ticks, tl, rfl, ⟨_, SqL.of e2⟩, fun D nD => ?_⟩
    refine lc_list (K := K) (a := tl) (xs := tas.map V.ref) (fun i H5 => Same H H5 ∧ H5 D = some (.lst (((knownL pl meas n).take i).map fun n : Nat => V.int n))) ⟨sameUpd (Same.refl H) nD, upd_same⟩ (fun i H5 _ ⟨sm, _⟩ => SqL.of (sm _ _ e2)) ?_ ?_
    · rintro i x H5 hx ⟨sm, hD⟩
      rw [List.getElem?_map] at hx
      obtain ⟨ai, hai, rfl⟩ := Option.map_eq_some_iff.mp hx
      obtain ⟨tk, htk, hT⟩ := Paired_idx e3 hai
      have hin : i < n := by
        have := (List.getElem?_eq_some_iff.mp hai).1
        omega
      unfold ticksL at htk
      rw [List.getElem?_map, List.getElem?_range hin] at htk
      cases htk
      have g5 := hG _ _ sm hg
      refine ⟨rfl, rfl, g5, _, rfl, g5, ai, _, rfl, hT.same sm, _, hD, by rw [List.length_map, List.length_take, sizeLine_eq]; omega, sameUpd sm nD, ?_⟩
      have ek : (knownL pl meas n)[i]? = some (meas (tkN pl i)) := by
        unfold knownL
        rw [List.getElem?_map, List.getElem?_range hin]
        rfl
      rw [upd_same, List.take_succ, ek, List.map_append]
      rfl
    · rintro H5 ⟨sm, hD⟩
      have hkl : (knownL pl meas n).length = n := by simp [knownL]
      rw [List.length_map, hl, List.take_of_length_le (by omega), iVn_eq] at hD
      refine ⟨_, rfl, _, rfl, D, _, rfl, .inl (SqL.of hD), _, _, rfl, rfl, _, rfl, ?_⟩
      rw [List.length_map, List.length_map, hkl]
      have hS5 := hS.same sm
      obtain ⟨dx, tl, tas, e1, _⟩ := id hS5
      by_cases h : t ≤ n
      · rw [decide_eq_true (show (t : Int) ≤ (n : Nat) by omega)]
        refine iteT ⟨_, rfl, _, rfl, _, rfl, D, _, rfl, SqL.of hD, fun l nl => ?_⟩
        rw [cut_takeB, ← List.map_take, ← List.map_take]
        refine ⟨l, _, rfl, SqL.of upd_same, ?_⟩
        rw [iVn_sum, known_take pl meas h]
        exact k _ (sameUpd sm (sm.free nl))
      · rw [decide_eq_false (show ¬ (t : Int) ≤ (n : Nat) by omega)]
        refine iteF ⟨_, rfl, _, rfl, a, _, dx, _, _, rfl, e1, T.t.c.h.s.sto.c, T.t.c.h.s.sto.n _ (by simp), lo_start, _, _, rfl, rfl, _, rfl, a, dx, _, rfl, e1, a, pl, n, s2, rfl, hS5, _, _, rfl, ⟨by omega, by omega⟩, fun p np => ?_⟩
        have s6 := sameUpd (o := .tup [.int (((t : Int) - (s2 : Int)) / ((n : Int) - (s2 : Int))), .int (((t : Int) - (s2 : Int)) % ((n : Int) - (s2 : Int)))]) (Same.refl H5) np
        have hp := @upd_same H5 p (.tup [.int (((t : Int) - (s2 : Int)) / ((n : Int) - (s2 : Int))), .int (((t : Int) - (s2 : Int)) % ((n : Int) - (s2 : Int)))])
        generalize upd H5 p (.tup [.int (((t : Int) - (s2 : Int)) / ((n : Int) - (s2 : Int))), .int (((t : Int) - (s2 : Int)) % ((n : Int) - (s2 : Int)))]) = H6 at *
        have ea : ((t : Int) - (s2 : Int)) = ((t - s2 : Nat) : Int) := by omega
        have eb : ((n : Int) - (s2 : Int)) = ((n - s2 : Nat) : Int) := by omega
        rw [ea, eb, ← Int.natCast_ediv, ← Int.natCast_emod] at hp
        refine ⟨p, _, rfl, SqT.of hp, rfl, _, _, rfl, _, _, rfl, rfl, ?_⟩
        replace hD := s6 _ _ hD
        replace e1 := s6 _ _ e1
        have sm6 := sm.trans s6
        have hmod := Nat.mod_lt (t - s2) (show 0 < n - s2 by omega)
        generalize hR : (t - s2) / (n - s2) = R at *
        generalize hM : (t - s2) % (n - s2) = M at *
        have ht : t = s2 + M + (n - s2) * R := by
          have := Nat.mod_add_div (t - s2) (n - s2)
          rw [hR, hM] at this
          omega
        refine ⟨_, rfl, _, rfl, a, _, dx, _, _, rfl, e1, T.t.c.h.s.sto.c, T.t.c.h.s.sto.n _ (by simp), lo_start, _, rfl, _, _, rfl, rfl, _, rfl, D, _, rfl, SqL.of hD, fun l nl => ?_⟩
        rw [show ((s2 : Int) + (M : Int)) = ((s2 + M : Nat) : Int) by push_cast; rfl, cut_takeB, ← List.map_take, ← List.map_take]
        have s7 := sameUpd (o := .lst (((knownL pl meas n).take (s2 + M)).map (fun n : Nat => (n : Int)) |>.map V.int)) (Same.refl H6) nl
        refine ⟨l, _, rfl, SqL.of upd_same, _, rfl, _, rfl, _, rfl, a, _, dx, _, _, rfl, s7 _ _ e1, T.t.c.h.s.sto.c, T.t.c.h.s.sto.n _ (by simp), lo_start, _, rfl, D, _, rfl, SqL.of (s7 _ _ hD), fun l2 nl2 => ?_⟩
        rw [cut_dropB, ← List.map_drop, ← List.map_drop]
        refine ⟨l2, _, rfl, SqL.of upd_same, ?_⟩
        rw [iVn_sum, iVn_sum, known_take pl meas (by omega), known_drop pl meas (by omega)]
        have hb := cnt_le hm n
        refine ⟨_, _, rfl, rfl, .inr ⟨by omega, by omega⟩, _, _, rfl, rfl, ?_⟩
        have hc := cnt_rounds pl meas e4 M R
        rw [← ht] at hc
        have hz := k _ (sameUpd (o := .lst (((knownL pl meas n).drop s2).map (fun n : Nat => (n : Int)) |>.map V.int)) (sm6.trans s7) ((sm6.trans s7).free nl2))
        rw [hc] at hz
        push_cast at hz
        exact hz
/-! count_swept -/
abbrev ctA (K : PySem.W.Frag) : Addr := He.codeOf K ("count_swept", none)
abbrev ctP (K : PySem.W.Frag) : Addr := He.tabOf K (ctA K)
def lamC : Arguments × Expr × Scope := match (defBody s_count_swept).getLast? with
  | some (.Return (some (.Call _ [_, .Lambda p b sc _] _ _)) _) => (p, b, sc)
  | _ => default
abbrev qtC : Str := (envOfC "count_swept" (defScope s_count_swept) 0 0 .none).qual ++ "<lambda>"
abbrev csN : List Str := ["plan", "tile", "ticks", "parsed"]
theorem sc_cs : FnScope csN ["plan", "tile", "ticks"] (defScope s_count_swept) := ⟨rfl, rfl, rfl, by decide +kernel, rfl, by decide +kernel, by decide +kernel⟩
theorem sc_lamC : NScope ["one", "tile"] ["one"] ["tile"] lamC.2.2 := nscope_by (by decide +kernel)
def spCntSw (K : PySem.W.Frag) : Sp := fun vs H Q _ => ∃ (text : Cs) (pl : Plan) (tile t : Nat), vs = [sV text, .int tile, .int t] ∧ Reads text pl ∧ WfP pl ∧ Early pl 20000 ∧ tile < pl.floor.length ∧ t ≤ 1000000000000000000 ∧ Tabs [(ctP K, qtC)] H ∧
  ∀ H' : Hp, ExtN H H' → Tabs [(ctP K, qtC)] H' → Q (.int (cntN pl (fun tk => tk.swept.count tile) t)) H'
theorem StateAt.trT {H : Hp} {a : Addr} {st : MSt} (h : StateAt K H a st) : StateAt K (noT H) a st :=
  let ⟨dx, fa, ra, ras, e1, e2, e3, e4⟩ := h
  ⟨dx, fa, ra, ras, noT_of e1, noT_of e2, noT_of e3, Paired.mapP e4 fun _ _ q => noT_of q⟩
theorem TickAt.trT {H : Hp} {a : Addr} {tk : TickM} (h : TickAt K H a tk) : TickAt K (noT H) a tk :=
  let ⟨dx, sw, wo, sa, e1, e2, e3, e4⟩ := h
  ⟨dx, sw, wo, sa, noT_of e1, TupN.trT e2, noT_of e3, StateAt.trT e4⟩
theorem StoryAt.trT {H : Hp} {a : Addr} {pl : Plan} {n s : Nat} (h : StoryAt K H a pl n s) : StoryAt K (noT H) a pl n s :=
  let ⟨dx, tl, tas, e1, e2, e3, e4⟩ := h
  ⟨dx, tl, tas, noT_of e1, noT_of e2, Paired.mapP e3 fun _ _ q => TickAt.trT q, e4⟩
theorem mkL_cl {X : Cx} {params : Arguments} {scope : Scope} {c' : Addr} : (mkL X params scope c').cl = cloFrom X.env.cells scope.names [] := rfl
/-- the measure of count_swept -/
theorem ok_meas (T : CntT K mg) {f : Addr} {F : NF} (hp : F.params = lamC.1) (hs : F.scope = lamC.2.2) {tile : Nat} (C : CellsAt F.cl ["tile"] [some (.int tile)] base fun _ => none) :
    VOk P w K mg base CX0 1 f (gLam f F lamC.2.1) (spMeas K fun tk => tk.swept.count tile) := by
  refine vok_lam (N := ["one", "tile"]) (ps := ["one"]) (fr := ["tile"]) (ws := [some (.int tile)]) (hs ▸ sc_lamC) (fun _ _ us hl => ?_) C (fun vs H Q E h => ?_) (fun A outer s H vs Q E hr h => ?_)
  · rw [hp]
    exact match us, hl with | [_], _ => rfl
  · obtain ⟨a, tk, rfl, _⟩ := h
    rfl
  · obtain ⟨a, tk, rfl, ht, k⟩ := h
    obtain ⟨nm, ql, pr, bo, scp, cl, c⟩ := F
    cases hp
    cases hs
    refine ⟨_, pe_bmN PySem.F.slot_tuple_count PySem.F.type_tuple_count mt_tcount (pe_fld (pv 0) rfl) (pa_cons (pv 1) pa_nil), ?_⟩
    obtain ⟨dt, sw, wo, sb, w1, w2, w3, w4⟩ := id ht
    have w2' : SqT K H sw ((tk.swept.map fun n : Nat => (n : Int)).map V.int) := by
      rw [← iVn_eq]
      exact w2.sq
    refine ⟨_, rfl, a, _, dt, _, _, rfl, w1, T.t.c.h.s.m.tick.c, T.t.c.h.s.m.tick.n _ (by simp), lt_swept, ⟨sw, _, rfl, w2⟩, _, rfl, sw, _, tile, rfl, rfl, w2', ?_⟩
    rw [icount]
    exact k
theorem swept_few {pl : Plan} (wf : WfP pl) (tile v : Nat) : (tkN pl v).swept.count tile ≤ 3 := by
  have h1 : (tkN pl v).swept.length ≤ 3 := by
    show ((stN pl v).robots.map (·.1)).length ≤ 3
    rw [List.length_map, (st_wf wf.rt v).ro]
    exact wf.r3
  exact Nat.le_trans List.count_le_length h1
theorem fnOk_ex {α : Type} {C : α → Prop} {CX : CXT} {k : Nat} {f : Addr} {fd : FuncData} {ps : List Str} {sp : α → Sp} (h : ∀ a, C a → FnOk P w K mg base CX k f fd ps (sp a)) : FnOk P w K mg base CX k f fd ps (fun vs H Q E => ∃ a, C a ∧ sp a vs H Q E) :=
  ⟨fun vs H Q E ⟨a, c, z⟩ => (h a c).len _ _ _ _ z, fun A outer s H args us vs Q E hr he hb hv ⟨a, c, z⟩ => (h a c).run A outer s H args us vs Q E hr he hb hv z⟩
theorem ok_cs (T : CntT K mg) (TBC : TabB base mg (ctA K) (ctP K)) : FnE P w K mg base CX0 9 ("count_swept", none) ["plan", "tile", "ticks"] (spCntSw K) := by
  obtain ⟨fd, F⟩ := T.cs.d
  obtain ⟨fdL, GL, bL, kL⟩ := ok_read (P := P) (w := w) (base := base) T.t.c.h.s.m.lo
  obtain ⟨fdC, GC, bC, kC⟩ := ok_ckt (P := P) (w := w) (base := base) T.t.c
  obtain ⟨fdCT, GCT, bCT, kCT⟩ := ok_ctl (P := P) (w := w) (base := base) T.t
  obtain ⟨fdS, GS, bS, kS⟩ := ok_story (P := P) (w := w) (base := base) T.t.c.h.s
  obtain ⟨fdCO, FCO⟩ := T.count.d
  have bCO := FCO.bindsN (ps := ["self", "ticks", "measure"]) fun _ _ _ _ _ _ us hl => match us, hl with | [_, _, _], _ => rfl
  have kp := F.kp
  have bn := F.bindsN (ps := ["plan", "tile", "ticks"]) fun _ _ _ _ _ _ us hl => match us, hl with | [_, _, _], _ => rfl
  obtain ⟨oc, od, dV, kV, doc, pm, an, cd, ct, osl, rfl, lk, hcd, _, _⟩ := F.ex
  obtain ⟨cA, rfl⟩ := He.codeIn_ref hcd
  have hc : He.codeOf K ("count_swept", none) = cA := He.codeOf_eq lk rfl
  have TB : TabB base mg cA (ctP K) := hc ▸ TBC
  refine ⟨_, fn_of lk hcd sc_cs (fun vs H Q E h => ?_) (fun A outer s H vs Q E hr h => ?_), bn, kp⟩
  · obtain ⟨text, pl, tile, t, rfl, _⟩ := h
    rfl
  · obtain ⟨text, pl, tile, t, rfl, hR, wf, hea, hti, ht, hT, k⟩ := h
    have hr2 : Room 2 _ := hr.mono (by decide)
    have hr3 : Room 3 _ := hr.mono (by decide)
    have hr6 : Room 6 _ := hr.mono (by decide)
    have hr8 : Room 8 _ := hr.mono (by decide)
    obtain ⟨X, hX⟩ : ∃ X : Cx, X = (cxOf CX0 P w K mg base csN "count_swept" (defScope s_count_swept) (He.fAd K ("count_swept", none)) (.ref cA) A outer s H E).nox := ⟨_, rfl⟩
    have hnd : ndefB (defScope s_count_swept) lamC.2.2 ["tile"] = true := by decide +kernel
    have hfree := ndef_free hnd
    have hfr := ndef_fr hnd
    let sp : Addr → Addr → List (Option V) → Sp := fun f c' ws => fun vs H Q E => ∃ tile : Nat, ws = [some (.int tile)] ∧ spCount K f (gLam f (mkL X lamC.1 lamC.2.2 c') lamC.2.1) (fun tk => tk.swept.count tile) vs H Q E
    have hF : ∀ (f c' : Addr) (ws : List (Option V)) (base' : Heap), (∀ b ob, base.get? b = some ob → base'.get? b = some ob) → (CellsAt (cloFrom X.env.cells lamC.2.2.names []) ["tile"] ws base' fun _ => none) → FnOk P w K mg base' CX0 3 (He.fAd K ("Story", some "count")) fdCO ["self", "ticks", "measure"] (sp f c' ws) := fun f c' ws base' _ hC => fnOk_ex fun tile e => by
      subst e
      exact ok_count (P := P) (w := w) (base := base') T FCO (fun H H' s g => ⟨s _ _ g.1, s _ _ g.2⟩) (ok_meas (P := P) (w := w) (base := base') T rfl rfl hC)
    subst hX
    refine ⟨_, PSs.nox (pss_cons (ps_set (i := 3) sc_cs.nd rfl (.inl rfl) (pe_call GL hr8 rfl T.t.c.h.s.m.lo.g_load kL bL .nil pass0 (pa_cons (pv 0) pa_nil)))
      (pss_cons (ps_expr (pe_call GCT hr2 rfl T.t.ct.g kCT bCT .nil pass0 (pa_cons (pv 3) (pa_cons (pv 1) pa_nil))))
      (pss_cons (ps_expr (pe_call GC hr2 rfl T.t.c.ck.g kC bC .nil pass0 (pa_cons (pv 2) pa_nil)))
      (pss_one (ps_ret (pe_methB (fr := ["tile"]) (js := [1]) (sp := sp) (fun _ => rfl) (pe_make T.t.c.h.s.sto.m GS hr6 rfl T.t.c.h.s.sto.g bS .nil pass0 (pa_cons (pv 3) pa_nil)) T.t.c.h.s.sto.c T.count.m (fun ok => NdefX.Caps.made ok hfree hfr rfl) hF hr3 bCO pass0 (pa_cons (pv 2) (pa_cons (pe_lamT (T := [(ctP K, qtC)]) TB rfl (List.mem_singleton.mpr rfl) (fun q hq _ => by rw [List.mem_singleton.mp hq]; rfl) rfl hfree) pa_nil)))))))), ?_⟩
    refine ⟨_, rfl, text, pl, rfl, hR, fun pa H1 npa s1 hpl => ?_⟩
    refine ⟨_, rfl, _, rfl, pa, pl, tile, rfl, hpl, hti, ?_⟩
    refine ⟨_, rfl, t, rfl, ht, ?_⟩
    refine ⟨_, rfl, ?_⟩
    intro x dx nx ndx ne
    refine story_wf hpl wf hea nx ndx fun n s2 H2 s12 hS => ⟨rfl, ?_⟩
    obtain ⟨dy, tl, tas, e1, _⟩ := id hS
    have s02 := s1.trans s12
    refine ⟨x, dy, _, rfl, e1, lo_no_count, _, rfl, hT.ext s02, fun f c' H3 eN T3 nf hf hc => ?_⟩
    refine ⟨f, c', tile, rfl, x, pl, n, s2, t, rfl, hS.trT.same (ext_same eN), ⟨hf, hc⟩, fun v => swept_few wf tile v, fun H4 s4 => ?_⟩
    exact k H4 (((ext_of s02).trans eN).trans (ext_of s4)) (T3.ext s4)
end
end Sw

end

section
set_option maxRecDepth 100000
set_option maxHeartbeats 4000000
/-! the law's own: sum of counts over many ticks (k06) -/
namespace Sw
open PySem PySem.Spec PyProof.Rows L2 SwA
theorem known_len (pl : Plan) (meas : TickM → Nat) (n : Nat) : (knownL pl meas n).length = n := by simp [knownL]
theorem known_pre (pl : Plan) (meas : TickM → Nat) {n m : Nat} (h : m ≤ n) : (knownL pl meas n).take m = knownL pl meas m := by
  unfold knownL
  rw [← List.map_take, List.take_range, Nat.min_eq_left h]
theorem known_mid (pl : Plan) (meas : TickM → Nat) {n s m : Nat} (h : s + m ≤ n) : (((knownL pl meas n).drop s).take m).sum = cntN pl meas (s + m) - cntN pl meas s := by
  have e : ((knownL pl meas n).drop s).take m = ((knownL pl meas n).take (s + m)).drop s := by
    rw [List.drop_take]
    congr 1
    omega
  rw [e, known_pre pl meas (by omega), known_drop pl meas (by omega)]
theorem cnt_mono (pl : Plan) (meas : TickM → Nat) {a b : Nat} (h : a ≤ b) : cntN pl meas a ≤ cntN pl meas b := by
  induction b with
  | zero =>
    have : a = 0 := by omega
    rw [this]
    exact Nat.le_refl _
  | succ b ih =>
    rcases Nat.lt_or_ge b a with z | z
    · have : a = b + 1 := by omega
      rw [this]
      exact Nat.le_refl _
    · have := ih z
      rw [cnt_succ]
      omega
structure SuT (K : PySem.W.Frag) (mg : Str → Option Value) : Prop where
  l : LawT K mg
  sum : mg "sum" = none
  su : DeT K mg "_law_sum" s__law_sum
section
variable {P : Program} {w : World} {K : PySem.W.Frag} {mg : Str → Option Value} {base : Heap}
def spSu (K : PySem.W.Frag) : Sp := fun vs H Q _ => ∃ (c v : Addr) (pl : Plan) (n s t : Nat) (meas : TickM → Nat), vs = [.ref c, .ref v, .int t] ∧ (∃ ok, LCyc ok H c pl n s) ∧ H v = some (.lst ((knownL pl meas n).map fun n : Nat => V.int n)) ∧ (∀ v, meas (tkN pl v) ≤ 3) ∧
  ∀ H', Same H H' → Q (.int (cntN pl meas t)) H'
abbrev suN : List Str := ["_law_cycle_here", "_law_values", "_law_ticks", "_law_start", "_law_length", "_law_rounds", "_law_rest", "_law_late"]
theorem sc_su : FnScope suN ["_law_cycle_here", "_law_values", "_law_ticks"] (defScope s__law_sum) := ⟨rfl, rfl, rfl, by decide +kernel, rfl, by decide +kernel, by decide +kernel⟩
theorem ok_su (T : SuT K mg) : FnE P w K mg base CX0 1 ("_law_sum", none) ["_law_cycle_here", "_law_values", "_law_ticks"] (spSu K) := by
  obtain ⟨fd, F⟩ := T.su.d
  refine ⟨fd, F.ok sc_su (fun vs H Q E h => ?_) (fun cdv A outer s H vs Q E hr h => ?_), F.bindsN fun _ _ _ _ _ _ us hl => match us, hl with | [_, _, _], _ => rfl, F.kp⟩
  · obtain ⟨c, v, pl, n, s, t, meas, rfl, _⟩ := h
    rfl
  · obtain ⟨c, v, pl, n, s2, t, meas, rfl, ⟨ok, hC⟩, hv, hm, k⟩ := h
    refine ⟨_, PSs.nox (pss_cons (ps_par (i := 3) (j := 4) (by rfl) sc_su.nd rfl rfl (by decide) rfl rfl (pa_cons (pe_ix ix_tup (pv 0) pe_int (fun _ _ => rfl)) (pa_cons (pe_op op_sub (pe_callB call_len_seq (by rfl) T.l.len boot_len (pa_cons (pv 1) pa_nil)) (pe_ix ix_tup (pv 0) pe_int (fun _ _ => rfl))) pa_nil)) (by rfl))
      (pss_cons (ps_if (pt_cmpR op_le (pv 2) (pe_callB call_len_seq (by rfl) T.l.len boot_len (pa_cons (pv 1) pa_nil)) (nomark _))
        (pss_one (ps_ret (pe_callB (cr_sum rfl) (by rfl) T.sum (by decide +kernel) (pa_cons (pe_slice sl_list (pv 1) po_none (po_some (pv 2))) pa_nil)))) pss_nil)
      (pss_cons (ps_par (i := 5) (j := 6) (by rfl) sc_su.nd rfl rfl (by decide) rfl rfl (pa_cons (pe_op op_fdiv (pe_op op_sub (pv 2) (pv 3)) (pv 4)) (pa_cons (pe_op op_mod (pe_op op_sub (pv 2) (pv 3)) (pv 4)) pa_nil)) (by rfl))
      (pss_cons (ps_set (i := 7) sc_su.nd rfl (.inl rfl) (pe_slice sl_list (pv 1) (po_some (pv 3)) po_none))
      (pss_one (ps_ret (pe_op op_add (pe_op op_add (pe_callB (cr_sum rfl) (by rfl) T.sum (by decide +kernel) (pa_cons (pe_slice sl_list (pv 1) po_none (po_some (pv 3))) pa_nil)) (pe_op op_mul (pv 5) (pe_callB (cr_sum rfl) (by rfl) T.sum (by decide +kernel) (pa_cons (pv 7) pa_nil)))) (pe_callB (cr_sum rfl) (by rfl) T.sum (by decide +kernel) (pa_cons (pe_slice sl_list (pv 7) po_none (po_some (pv 6))) pa_nil))))))))), ?_⟩
    have hlt := hC.rep.lt
    obtain ⟨fl, das, e1, _⟩ := id hC
    have hkl := known_len pl meas n
    rw [iVn_eq] at hv
    refine ⟨_, rfl, c, _, _, _, rfl, rfl, SqT.of e1, atI_nat (j := 1) rfl, _, rfl, v, _, rfl, .inl (SqL.of hv), _, rfl, c, _, _, _, rfl, rfl, SqT.of e1, atI_nat (j := 1) rfl, _, _, rfl, rfl, ?_⟩
    rw [List.length_map, List.length_map, hkl]
    refine ⟨_, _, rfl, _, rfl, _, rfl, v, _, rfl, .inl (SqL.of hv), _, _, rfl, rfl, _, rfl, ?_⟩
    rw [List.length_map, List.length_map, hkl]
    by_cases h : t ≤ n
    · rw [decide_eq_true (show (t : Int) ≤ (n : Nat) by omega)]
      refine iteT ⟨_, rfl, _, rfl, _, rfl, v, _, rfl, SqL.of hv, fun l nl => ?_⟩
      rw [cut_takeB, ← List.map_take, ← List.map_take]
      refine ⟨l, _, rfl, SqL.of upd_same, ?_⟩
      rw [iVn_sum, known_take pl meas h]
      exact k _ (sameUpd (Same.refl H) nl)
    · rw [decide_eq_false (show ¬ (t : Int) ≤ (n : Nat) by omega)]
      refine iteF ⟨_, rfl, _, rfl, _, _, rfl, rfl, _, rfl, _, _, rfl, rfl, ⟨by omega, by omega⟩, _, rfl, _, rfl, _, _, rfl, rfl, _, rfl, _, _, rfl, rfl, by omega, _, _, rfl, ?_⟩
      have ea : ((t : Int) - (s2 : Int)) = ((t - s2 : Nat) : Int) := by omega
      have eb : ((n : Int) - (s2 : Int)) = ((n - s2 : Nat) : Int) := by omega
      dsimp only
      rw [ea, eb, ← Int.natCast_ediv, ← Int.natCast_emod]
      have hmod := Nat.mod_lt (t - s2) (show 0 < n - s2 by omega)
      generalize hR : (t - s2) / (n - s2) = R at *
      generalize hM : (t - s2) % (n - s2) = M at *
      have ht : t = s2 + M + (n - s2) * R := by
        have := Nat.mod_add_div (t - s2) (n - s2)
        rw [hR, hM] at this
        omega
      refine ⟨_, rfl, _, rfl, _, rfl, v, _, rfl, SqL.of hv, fun lt nlt => ?_⟩
      rw [cut_dropB, ← List.map_drop, ← List.map_drop]
      have s1 := sameUpd (o := .lst ((((knownL pl meas n).drop s2).map (fun n : Nat => (n : Int))).map V.int)) (Same.refl H) nlt
      have hlt2 := @upd_same H lt (.lst ((((knownL pl meas n).drop s2).map (fun n : Nat => (n : Int))).map V.int))
      replace hv := s1 _ _ hv
      generalize upd H lt (.lst ((((knownL pl meas n).drop s2).map (fun n : Nat => (n : Int))).map V.int)) = H1 at *
      refine ⟨_, rfl, _, rfl, _, rfl, v, _, rfl, SqL.of hv, fun l nl => ?_⟩
      rw [cut_takeB, ← List.map_take, ← List.map_take]
      have s2' := sameUpd (o := .lst ((((knownL pl meas n).take s2).map (fun n : Nat => (n : Int))).map V.int)) (Same.refl H1) nl
      have hl := @upd_same H1 l (.lst ((((knownL pl meas n).take s2).map (fun n : Nat => (n : Int))).map V.int))
      replace hlt2 := s2' _ _ hlt2
      replace s1 := s1.trans s2'
      generalize upd H1 l (.lst ((((knownL pl meas n).take s2).map (fun n : Nat => (n : Int))).map V.int)) = H2 at *
      refine ⟨l, _, rfl, SqL.of hl, _, rfl, _, rfl, lt, _, rfl, SqL.of hlt2, ?_⟩
      rw [iVn_sum, iVn_sum, known_take pl meas (by omega), known_drop pl meas (by omega)]
      have hb := cnt_le hm n
      have hmost := hC.most
      refine ⟨_, _, rfl, rfl, .inr ⟨by omega, by omega⟩, _, _, rfl, rfl, ?_⟩
      refine ⟨_, rfl, _, rfl, _, rfl, lt, _, rfl, SqL.of hlt2, fun l2 nl2 => ?_⟩
      rw [cut_takeB, ← List.map_take, ← List.map_take]
      refine ⟨l2, _, rfl, SqL.of upd_same, _, _, rfl, rfl, ?_⟩
      rw [iVn_sum, known_mid pl meas (by omega)]
      have hc := cnt_rounds pl meas hC.rep M R
      rw [← ht] at hc
      have h1 := cnt_mono pl meas (a := s2) (b := s2 + M) (by omega)
      have e : cntN pl meas t = cntN pl meas s2 + R * (cntN pl meas n - cntN pl meas s2) + (cntN pl meas (s2 + M) - cntN pl meas s2) := by
        rw [hc]
        generalize R * (cntN pl meas n - cntN pl meas s2) = Z
        omega
      rw [e] at k
      have hz := k _ (sameUpd (o := .lst (((((knownL pl meas n).drop s2).take M).map (fun n : Nat => (n : Int))).map V.int)) s1 (s1.free nl2))
      push_cast at hz
      exact hz
end
end Sw

end

section
set_option maxRecDepth 100000
set_option maxHeartbeats 4000000
/-! rest_tick -/
namespace Sw
open PySem PySem.Spec PyProof.Rows L2 SwA
structure RkT (K : PySem.W.Frag) (mg : Str → Option Value) : Prop where
  h : HapT K mg
  all : mg "all" = none
  rk : DeT K mg "rest_tick" s_rest_tick
/-- from s on all rest, if they do in tick s -/
def restM (pl : Plan) (s : Nat) : Option Nat := if (tkN pl s).words.all (fun z => decide (z = wRest)) = true then some s else none
theorem dec_wd {wd wz : Cs} {z : Str} (ez : z = sx wz) : decide (sV wd = V.str z) = decide (wd = wz) := by
  subst ez
  by_cases e : wd = wz
  · rw [decide_eq_true e, decide_eq_true (by rw [e])]
  · rw [decide_eq_false e, decide_eq_false (fun q => e (sx_inj (V.str.inj q)))]
theorem tk_wl (pl : Plan) (h : ∀ r ∈ pl.robots, r.1 < pl.floor.length) (t : Nat) : (tkN pl t).words.length = pl.robots.length := by
  have hw := (st_wf h t).ro
  show (actsM pl.rules (stN pl t) (stN pl t).robots.length).1.length = _
  rw [acts_len, hw]
section
variable {P : Program} {w : World} {K : PySem.W.Frag} {mg : Str → Option Value} {base : Heap}
def spRest (K : PySem.W.Frag) : Sp := fun vs H Q _ => ∃ (text : Cs) (pl : Plan), vs = [sV text] ∧ Reads text pl ∧ WfP pl ∧ Early pl 20000 ∧
  ∀ (n s : Nat) (H' : Hp), Rep (stN pl) n s → Same H H' → Q (oV (restM pl s)) H'
abbrev rkN : List Str := ["plan", "story", "one", "word"]
theorem sc_rk : FnScope rkN ["plan"] (defScope s_rest_tick) := ⟨rfl, rfl, rfl, by decide +kernel, rfl, by decide +kernel, by decide +kernel⟩
theorem ok_rk (T : RkT K mg) : FnE P w K mg base CX0 9 ("rest_tick", none) ["plan"] (spRest K) := by
  obtain ⟨fd, F⟩ := T.rk.d
  obtain ⟨tR, mREST⟩ := T.h.s.m.REST
  obtain ⟨fdL, GL, bL, kL⟩ := ok_read (P := P) (w := w) (base := base) T.h.s.m.lo
  obtain ⟨fdS, GS, bS, kS⟩ := ok_story (P := P) (w := w) (base := base) T.h.s
  refine ⟨fd, F.ok sc_rk (fun vs H Q E h => ?_) (fun cdv A outer s H vs Q E hr h => ?_), F.bindsN fun _ _ _ _ _ _ us hl => match us, hl with | [_], _ => rfl, F.kp⟩
  · obtain ⟨text, pl, rfl, _⟩ := h
    rfl
  · obtain ⟨text, pl, rfl, hR, wf, hea, k⟩ := h
    have hr6 : Room 6 _ := hr.mono (by decide)
    have hr8 : Room 8 _ := hr.mono (by decide)
    refine ⟨_, PSs.nox (pss_cons (ps_set (i := 1) sc_rk.nd rfl (.inl rfl) (pe_make T.h.s.sto.m GS hr6 rfl T.h.s.sto.g bS .nil pass0 (pa_cons (pe_call GL hr8 rfl T.h.s.m.lo.g_load kL bL .nil pass0 (pa_cons (pv 0) pa_nil)) pa_nil)))
      (pss_cons (ps_set (i := 2) sc_rk.nd rfl (.inl rfl) (pe_ix ix_list (pe_fld (pv 1) rfl) (pe_fld (pv 1) rfl) (fun _ _ => rfl)))
      (pss_one (ps_ret (pe_ifExp (pt_val (pe_callB (cr_all rfl) (by rfl) T.all (by decide +kernel) (pa_cons (pe_lc (own := [("word", 3)]) (g := (gName 3)) (tt := tYes) (te := tOp rEq (tVar 3) (tC (.str "rest"))) rfl sc_rk.nd (pi_tup (pe_fld (pv 2) rfl)) (blkOk_by (own := [("word", 3)]) (N := rkN) (sc := defScope s_rest_tick) (by decide +kernel)) (fun _ _ _ _ _ => (pg_name (i := 3) sc_rk.nd rfl (.inl rfl))) (fun _ _ _ _ _ => pts_nil) (fun _ _ _ _ _ => (pe_cmpR op_eq (pv 3) (pe_glob (v := .str "rest") rfl mREST ⟨_, rfl⟩) (nomark _)))) pa_nil))) (pe_fld (pv 1) rfl) pe_non))))), ?_⟩
    refine ⟨_, rfl, text, pl, rfl, hR, fun pa H1 npa s1 hpl => ?_⟩
    intro y dy ny ndy ney
    refine story_wf hpl wf hea ny ndy fun n s2 H2 s12 hS => ⟨rfl, ?_⟩
    obtain ⟨dx, tl, tas, e1, e2, e3, e4, e5⟩ := id hS
    have hl := tas_len e3
    have hlt := e4.lt
    have hs3 : s2 < tas.length := by omega
    have eg : tas[s2]? = some tas[s2] := List.getElem?_eq_getElem hs3
    obtain ⟨tk, htk, hT⟩ := Paired_idx e3 eg
    rw [ticksL, List.getElem?_map, List.getElem?_range hlt] at htk
    cases htk
    obtain ⟨dt, sw, wo, sb, w1, w2, w3, w4⟩ := id hT
    refine ⟨_, rfl, y, _, dx, _, _, rfl, e1, T.h.s.sto.c, T.h.s.sto.n _ (by simp), lo_ticks, _, rfl, y, _, dx, _, _, rfl, e1, T.h.s.sto.c, T.h.s.sto.n _ (by simp), lo_start, ?_⟩
    refine ⟨tl, _, _, _, rfl, rfl, SqL.of e2, atI_nat (by rw [List.getElem?_map, eg]; rfl), ?_⟩
    have s02 := s1.trans s12
    refine ⟨_, rfl, tas[s2], _, dt, _, _, rfl, w1, T.h.s.m.tick.c, T.h.s.m.tick.n _ (by simp), by kernel_rfl, wo, rfl, ⟨_, SqT.of w3⟩, fun D nD => ?_⟩
    refine lc_tup (K := K) (a := wo) (xs := (tkN pl s2).words.map sV) (fun i Hy => Same H2 Hy ∧ Hy D = some (.lst ((((tkN pl s2).words.take i).map fun z => decide (z = wRest)).map V.bl))) ⟨sameUpd (Same.refl H2) nD, upd_same⟩ (fun i Hy _ ⟨sm, _⟩ => SqT.of (sm _ _ w3)) ?_ ?_
    · rintro i x Hy hx ⟨sm, hD⟩
      rw [List.getElem?_map] at hx
      obtain ⟨z, hz, rfl⟩ := Option.map_eq_some_iff.mp hx
      have hi := (List.getElem?_eq_some_iff.mp hz).1
      refine ⟨rfl, _, rfl, rfl, _, hD, ?_, sameUpd sm nD, ?_⟩
      · have := tk_wl pl wf.rt s2
        have := wf.r3
        rw [List.length_map, List.length_map, List.length_take, sizeLine_eq]
        omega
      · rw [upd_same, List.take_succ, hz, dec_wd e_rest]
        simp
    · rintro Hy ⟨sm, hD⟩
      rw [List.length_map, List.take_length] at hD
      refine ⟨D, _, rfl, SqL.of hD, _, rfl, ?_⟩
      have hid : (((tkN pl s2).words.map fun z => decide (z = wRest)).all id) = (tkN pl s2).words.all fun z => decide (z = wRest) := by rw [List.all_map]; rfl
      rw [hid]
      have fin := k n s2 Hy e4 (s02.trans sm)
      unfold restM at fin
      by_cases hA : (tkN pl s2).words.all (fun z => decide (z = wRest)) = true
      · rw [if_pos hA] at fin
        rw [hA]
        exact iteT ⟨_, rfl, y, _, dx, _, _, rfl, sm _ _ e1, T.h.s.sto.c, T.h.s.sto.n _ (by simp), lo_start, fin⟩
      · rw [if_neg hA] at fin
        rw [Bool.eq_false_iff.mpr hA]
        exact iteF fin
end
end Sw

end

section
set_option maxRecDepth 100000
set_option maxHeartbeats 4000000
/-! swept_in -/
namespace Sw
open PySem PySem.Spec PyProof.Rows L2 SwA
structure SinT (K : PySem.W.Frag) (mg : Str → Option Value) : Prop where
  s : StoT K mg
  sorted : mg "sorted" = none
  sin : DeT K mg "swept_in" s_swept_in
section
variable {P : Program} {w : World} {K : PySem.W.Frag} {mg : Str → Option Value} {base : Heap}
def spSin (K : PySem.W.Frag) : Sp := fun vs H Q _ => ∃ (x : Addr) (pl : Plan) (n s : Nat), vs = [.ref x] ∧ StoryAt K H x pl n s ∧ WfP pl ∧
  ∀ (ns : List Nat) (p : Addr) (H' : Hp), H p = none → Same H H' → H' p = some (.lst (ns.map fun n : Nat => V.int n)) → Lasts pl ns → Q (.ref p) H'
abbrev sinN : List Str := ["story", "one", "tile"]
theorem sc_sin : FnScope sinN ["story"] (defScope s_swept_in) := ⟨rfl, rfl, rfl, by decide +kernel, rfl, by decide +kernel, by decide +kernel⟩
/-- the set grows with the ticks -/
structure SetOk (w : World) (H0 H : Hp) (D : Addr) (pl : Plan) (M : Nat → Prop) : Prop where
  sm : Same H0 H
  ex : ∃ (S : Int → Bool) (n : Nat) (l : List Nat), H D = some (SetO w D S n) ∧ SetIs S n l ∧ ∀ m, m ∈ l ↔ M m
theorem SetOk.add {w : World} {H0 H : Hp} {D : Addr} {pl : Plan} {M M' : Nat → Prop} (h : SetOk w H0 H D pl M) (nD : H0 D = none) (c : Nat) (hM : ∀ m, M m → m < 16) (hc : c < 16) (hM' : ∀ m, M' m ↔ M m ∨ m = c) {Nx : Hp → Prop} (k : ∀ H', SetOk w H0 H' D pl M' → Nx H') :
    ∃ (c' : Int) (S : Int → Bool) (n : Nat), V.int (c : Int) = .int c' ∧ H D = some (SetO w D S n) ∧ n + 1 < scanBound ∧ Nx (upd H D (SetO w D (fun j => S j || decide (j = c')) (if S c' = true then n else n + 1))) := by
  obtain ⟨sm, S, n, l, hD, hS, hl⟩ := h
  have hn : n ≤ 16 := by
    rw [hS.2.1]
    exact nodup_le 16 hS.1 fun m hm => hM m ((hl m).mp hm)
  obtain ⟨l', hS', hl'⟩ := hS.add c
  exact ⟨c, S, n, rfl, hD, by show n + 1 < 4096; omega, k _ ⟨sameUpd sm nD, _, _, l', upd_same, hS', fun m => by rw [hl', hl, hM']⟩⟩
theorem ok_sin (T : SinT K mg) : FnE P w K mg base CX0 1 ("swept_in", none) ["story"] (spSin K) := by
  obtain ⟨fd, F⟩ := T.sin.d
  refine ⟨fd, F.ok sc_sin (fun vs H Q E h => ?_) (fun cdv A outer s H vs Q E hr h => ?_), F.bindsN fun _ _ _ _ _ _ us hl => match us, hl with | [_], _ => rfl, F.kp⟩
  · obtain ⟨x, pl, n, s, rfl, _⟩ := h
    rfl
  · obtain ⟨x, pl, n, s2, rfl, hS, wf, k⟩ := h
    refine ⟨_, PSs.nox (pss_one (ps_ret (pe_callB (cr_sortedSet rfl) (by rfl) T.sorted (by decide +kernel) (pa_cons (pe_set2 (own := [("one", 1), ("tile", 2)]) (g := (gName 1)) (tt := tYes) (g1 := (gName 2)) (tt1 := tYes) (vs1 := [2]) (wi1 := iTup K (tFld K (tVar 1) "swept")) rfl sc_sin.nd  (pi_list (pe_slice sl_list (pe_fld (pv 0) rfl) (po_some (pe_fld (pv 0) rfl)) po_none)) (blkOk_by (own := [("one", 1), ("tile", 2)]) (N := sinN) (sc := defScope s_swept_in) (by decide +kernel)) (by decide) (fun _ _ _ _ _ => (pg_name (i := 1) sc_sin.nd rfl (.inl rfl))) (fun _ _ _ _ _ => pts_nil) (fun _ _ _ _ _ => (pi_tup (pe_fld (pv 1) rfl))) (fun _ _ _ _ _ => (pg_name (i := 2) sc_sin.nd rfl (.inl rfl))) (fun _ _ _ _ _ => pts_nil) (fun _ _ _ _ _ => (pv 2))) pa_nil)))), ?_⟩
    obtain ⟨dx, tl, tas, e1, e2, e3, e4, e5⟩ := id hS
    have hl := tas_len e3
    have hlt := e4.lt
    refine ⟨_, rfl, x, _, dx, _, _, rfl, e1, T.s.sto.c, T.s.sto.n _ (by simp), lo_ticks, _, rfl, x, _, dx, _, _, rfl, e1, T.s.sto.c, T.s.sto.n _ (by simp), lo_start, _, rfl, tl, _, rfl, SqL.of e2, fun l nl => ?_⟩
    rw [cut_dropB, ← List.map_drop]
    have hL := @upd_same H l (.lst ((tas.drop s2).map V.ref))
    have s1 := sameUpd (o := .lst ((tas.drop s2).map V.ref)) (Same.refl H) nl
    generalize upd H l (.lst ((tas.drop s2).map V.ref)) = H1 at *
    refine ⟨l, rfl, ⟨_, SqL.of hL⟩, fun D nD => ?_⟩
    have n0D : H D = none := s1.free nD
    refine it_list (K := K) (a := l) (xs := (tas.drop s2).map V.ref) (fun i H5 => SetOk w H1 H5 D pl fun m => ∃ u, s2 ≤ u ∧ u < s2 + i ∧ m ∈ (tkN pl u).swept) ⟨sameUpd (Same.refl H1) nD, _, _, [], upd_same, SetIs.none, fun m => ⟨fun z => absurd z (by simp), fun ⟨u, h1, h2, _⟩ => by omega⟩⟩ (fun i H5 _ q => SqL.of (q.sm _ _ hL)) ?_ ?_
    · rintro i x5 H5 hx q
      rw [List.getElem?_map, List.getElem?_drop] at hx
      obtain ⟨ai, hai, rfl⟩ := Option.map_eq_some_iff.mp hx
      obtain ⟨tk, htk, hT⟩ := Paired_idx e3 hai
      have hin : s2 + i < n := by
        have := (List.getElem?_eq_some_iff.mp hai).1
        omega
      unfold ticksL at htk
      rw [List.getElem?_map, List.getElem?_range hin] at htk
      cases htk
      obtain ⟨dt, sw, wo, sb, w1, w2, w3, w4⟩ := hT.same s1
      have hsw : ∀ m, m ∈ (tkN pl (s2 + i)).swept → m < 16 := fun m hm => Nat.lt_of_lt_of_le (swept_lt wf hm) wf.n16
      refine ⟨rfl, _, rfl, ai, _, dt, _, _, rfl, q.sm _ _ w1, T.s.m.tick.c, T.s.m.tick.n _ (by simp), lt_swept, sw, rfl, ⟨_, (w2.mono fun _ z => q.sm _ _ z).sq⟩, ?_⟩
      refine it_tup (K := K) (a := sw) (xs := (tkN pl (s2 + i)).swept.map fun n : Nat => V.int n) (fun j H6 => SetOk w H1 H6 D pl (fun m => (∃ u, s2 ≤ u ∧ u < s2 + i ∧ m ∈ (tkN pl u).swept) ∨ m ∈ (tkN pl (s2 + i)).swept.take j)) ⟨q.sm, ?_⟩ (fun j H6 _ q6 => (w2.mono fun _ z => q6.sm _ _ z).sq) ?_ ?_
      · obtain ⟨S, n1, l1, z1, z2, z3⟩ := q.ex
        exact ⟨S, n1, l1, z1, z2, fun m => by rw [z3]; simp⟩
      · rintro j x6 H6 hx6 q6
        rw [List.getElem?_map] at hx6
        obtain ⟨c, hc, rfl⟩ := Option.map_eq_some_iff.mp hx6
        have hcm : c ∈ (tkN pl (s2 + i)).swept := List.mem_of_getElem? hc
        refine ⟨rfl, _, rfl, q6.add nD c (fun m hm => ?_) (hsw c hcm) (fun m => ?_) fun H' z => z⟩
        · rcases hm with ⟨u, _, _, hm⟩ | hm
          · exact Nat.lt_of_lt_of_le (swept_lt wf hm) wf.n16
          · exact hsw m (List.mem_of_mem_take hm)
        · rw [List.take_succ, hc, List.mem_append, or_assoc]
          simp
      · rintro H6 ⟨sm6, S, n1, l1, z1, z2, z3⟩
        refine ⟨sm6, S, n1, l1, z1, z2, fun m => ?_⟩
        rw [z3, List.length_map, List.take_length]
        constructor
        · rintro (⟨u, h1, h2, h3⟩ | h)
          · exact ⟨u, h1, by omega, h3⟩
          · exact ⟨s2 + i, by omega, by omega, h⟩
        · rintro ⟨u, h1, h2, h3⟩
          rcases Nat.lt_or_ge u (s2 + i) with z | z
          · exact .inl ⟨u, h1, z, h3⟩
          · have : u = s2 + i := by omega
            exact .inr (this ▸ h3)
    · rintro H5 ⟨sm5, S, n1, l1, z1, z2, z3⟩
      rw [List.length_map, List.length_drop, hl] at z3
      have hn : n1 ≤ 16 := by
        rw [z2.2.1]
        exact nodup_le 16 z2.1 fun m hm => by
          obtain ⟨u, _, _, hm⟩ := (z3 m).mp hm
          exact Nat.lt_of_lt_of_le (swept_lt wf hm) wf.n16
      refine ⟨D, S, n1, rfl, z1, by omega, fun ns p hp hm hln np => ?_⟩
      obtain ⟨ms, rfl, hms, hmm⟩ := z2.list hp hm
      rw [List.map_map] at *
      refine k ms p _ ((s1.trans sm5).free np) (sameUpd (s1.trans sm5) ((s1.trans sm5).free np)) upd_same (lasts_of e4 hms fun m => ?_)
      rw [hmm, z3]
      constructor
      · rintro ⟨u, h1, h2, h3⟩
        exact ⟨u, h1, by omega, h3⟩
      · rintro ⟨u, h1, h2, h3⟩
        exact ⟨u, h1, by omega, h3⟩
end
end Sw

end

section
set_option maxRecDepth 100000
set_option maxHeartbeats 4000000
/-! swept_for_ever, never_swept -/
namespace Sw
open PySem PySem.Spec PyProof.Rows L2 SwA
structure SfeT (K : PySem.W.Frag) (mg : Str → Option Value) : Prop where
  si : SinT K mg
  sfe : DeT K mg "swept_for_ever" s_swept_for_ever
structure NevT (K : PySem.W.Frag) (mg : Str → Option Value) : Prop where
  s : StoT K mg
  range : mg "range" = none
  nev : DeT K mg "never_swept" s_never_swept
/-- the tiles that are never swept -/
def Nevers (pl : Plan) (ns : List Nat) : Prop := ns.Pairwise (· < ·) ∧ ∀ k, k ∈ ns ↔ k < pl.floor.length ∧ ∀ u, k ∉ (tkN pl u).swept
theorem Nevers.unique {pl : Plan} {a b : List Nat} (h : Nevers pl a) (g : Nevers pl b) : a = b := rise_eq h.1 g.1 fun k => (h.2 k).trans (g.2 k).symm
section
variable {P : Program} {w : World} {K : PySem.W.Frag} {mg : Str → Option Value} {base : Heap}
def spSfe (K : PySem.W.Frag) : Sp := fun vs H Q _ => ∃ (text : Cs) (pl : Plan), vs = [sV text] ∧ Reads text pl ∧ WfP pl ∧ Early pl 20000 ∧
  ∀ (ns : List Nat) (p : Addr) (H' : Hp), H p = none → Same H H' → H' p = some (.lst (ns.map fun n : Nat => V.int n)) → Lasts pl ns → Q (.ref p) H'
theorem sc_sfe : FnScope ["plan"] ["plan"] (defScope s_swept_for_ever) := ⟨rfl, rfl, rfl, by decide +kernel, rfl, by decide +kernel, by decide +kernel⟩
theorem ok_sfe (T : SfeT K mg) : FnE P w K mg base CX0 9 ("swept_for_ever", none) ["plan"] (spSfe K) := by
  obtain ⟨fd, F⟩ := T.sfe.d
  obtain ⟨fdL, GL, bL, kL⟩ := ok_read (P := P) (w := w) (base := base) T.si.s.m.lo
  obtain ⟨fdSI, GSI, bSI, kSI⟩ := ok_sin (P := P) (w := w) (base := base) T.si
  obtain ⟨fdS, GS, bS, kS⟩ := ok_story (P := P) (w := w) (base := base) T.si.s
  refine ⟨fd, F.ok sc_sfe (fun vs H Q E h => ?_) (fun cdv A outer s H vs Q E hr h => ?_), F.bindsN fun _ _ _ _ _ _ us hl => match us, hl with | [_], _ => rfl, F.kp⟩
  · obtain ⟨text, pl, rfl, _⟩ := h
    rfl
  · obtain ⟨text, pl, rfl, hR, wf, hea, k⟩ := h
    have hr1 : Room 1 _ := hr.mono (by decide)
    have hr6 : Room 6 _ := hr.mono (by decide)
    have hr8 : Room 8 _ := hr.mono (by decide)
    refine ⟨_, PSs.nox (pss_one (ps_ret (pe_call GSI hr1 rfl T.si.sin.g kSI bSI .nil pass0 (pa_cons (pe_make T.si.s.sto.m GS hr6 rfl T.si.s.sto.g bS .nil pass0 (pa_cons (pe_call GL hr8 rfl T.si.s.m.lo.g_load kL bL .nil pass0 (pa_cons (pv 0) pa_nil)) pa_nil)) pa_nil)))), ?_⟩
    refine ⟨_, rfl, text, pl, rfl, hR, fun pa H1 npa s1 hpl => ?_⟩
    intro y dy ny ndy ney
    refine story_wf hpl wf hea ny ndy fun n s4 H4 s34 hS => ⟨rfl, ?_⟩
    exact ⟨y, pl, n, s4, rfl, hS, wf, fun ns lp H5 nlp s5 hlp hns => k ns lp H5 ((s1.trans s34).free nlp) ((s1.trans s34).trans s5) hlp hns⟩
/-! ### never_swept -/
def spNev (K : PySem.W.Frag) : Sp := fun vs H Q _ => ∃ (text : Cs) (pl : Plan), vs = [sV text] ∧ Reads text pl ∧ WfP pl ∧ Early pl 20000 ∧
  ∀ (ns : List Nat) (p : Addr) (H' : Hp), H p = none → Same H H' → H' p = some (.lst (ns.map fun n : Nat => V.int n)) → Nevers pl ns → Q (.ref p) H'
abbrev nevN : List Str := ["plan", "parsed", "swept", "one", "tile"]
theorem sc_nev : FnScope nevN ["plan"] (defScope s_never_swept) := ⟨rfl, rfl, rfl, by decide +kernel, rfl, by decide +kernel, by decide +kernel⟩
/-- the dict grows with the ticks -/
structure DkOk (H0 H : Hp) (D : Addr) (M : Nat → Prop) (b : Nat) : Prop where
  sm : Same H0 H
  ex : ∃ kvs : List (Key × V), H D = some (.dK kvs) ∧ kvs.length ≤ b ∧ ∀ m : Nat, (M m → valV kvs (.inl (m : Int)) = some (.bl true)) ∧ (¬ M m → valV kvs (.inl (m : Int)) = none)
theorem ok_nev (T : NevT K mg) : FnE P w K mg base CX0 9 ("never_swept", none) ["plan"] (spNev K) := by
  obtain ⟨fd, F⟩ := T.nev.d
  obtain ⟨fdL, GL, bL, kL⟩ := ok_read (P := P) (w := w) (base := base) T.s.m.lo
  obtain ⟨fdS, GS, bS, kS⟩ := ok_story (P := P) (w := w) (base := base) T.s
  refine ⟨fd, F.ok sc_nev (fun vs H Q E h => ?_) (fun cdv A outer s H vs Q E hr h => ?_), F.bindsN fun _ _ _ _ _ _ us hl => match us, hl with | [_], _ => rfl, F.kp⟩
  · obtain ⟨text, pl, rfl, _⟩ := h
    rfl
  · obtain ⟨text, pl, rfl, hR, wf, hea, k⟩ := h
    have hr6 : Room 6 _ := hr.mono (by decide)
    have hr8 : Room 8 _ := hr.mono (by decide)
    have hu := hu_of hr
    refine ⟨_, PSs.nox (pss_cons (ps_set (i := 1) sc_nev.nd rfl (.inl rfl) (pe_call GL hr8 rfl T.s.m.lo.g_load kL bL .nil pass0 (pa_cons (pv 0) pa_nil)))
      (pss_cons (ps_set (i := 2) sc_nev.nd rfl (.inr rfl) (pe_dict2 (own := [("one", 3), ("tile", 4)]) (g := (gName 3)) (tt := tYes) (g1 := (gName 4)) (tt1 := tYes) (vs1 := [4]) (wi1 := iTup K (tFld K (tVar 3) "swept")) rfl sc_nev.nd  (pi_list (pe_fld (pe_make T.s.sto.m GS hr6 rfl T.s.sto.g bS .nil pass0 (pa_cons (pv 1) pa_nil)) rfl)) (blkOk_by (own := [("one", 3), ("tile", 4)]) (N := nevN) (sc := defScope s_never_swept) (by decide +kernel)) (by decide) (fun _ _ _ _ _ => (pg_name (i := 3) sc_nev.nd rfl (.inl rfl))) (fun _ _ _ _ _ => pts_nil) (fun _ _ _ _ _ => (pi_tup (pe_fld (pv 3) rfl))) (fun _ _ _ _ _ => (pg_name (i := 4) sc_nev.nd rfl (.inl rfl))) (fun _ _ _ _ _ => pts_nil) (fun _ _ _ _ _ => (pv 4)) (fun _ _ _ _ _ => pe_bl)))
      (pss_one (ps_ret (pe_lc (own := [("tile", 4)]) (g := (gName 4)) rfl sc_nev.nd (pi_range1 (by rfl) T.range (pa_cons (pe_callB call_len_seq (by rfl) T.s.m.lo.p.l.len boot_len (pa_cons (pe_fld (pv 1) rfl) pa_nil)) pa_nil)) (blkOk_by (own := [("tile", 4)]) (N := nevN) (sc := defScope s_never_swept) (by decide +kernel)) (fun _ _ _ _ _ => (pg_name (i := 4) sc_nev.nd rfl (.inl rfl))) (fun _ _ _ _ _ => (pts_one (pt_cmp (pc_dnotin hu (pv 4) (pv 2))))) (fun _ _ _ _ _ => (pv 4))))))), ?_⟩
    refine ⟨_, rfl, text, pl, rfl, hR, fun pa H1 npa s1 hpl => ?_⟩
    refine ⟨_, rfl, ?_⟩
    intro y dy ny ndy ney
    refine story_wf hpl wf hea ny ndy fun n s2 H2 s12 hS => ⟨rfl, ?_⟩
    obtain ⟨dx, tl, tas, e1, e2, e3, e4, e5⟩ := id hS
    have hl := tas_len e3
    have hlt := e4.lt
    have s02 := s1.trans s12
    refine ⟨y, _, dx, _, _, rfl, e1, T.s.sto.c, T.s.sto.n _ (by simp), lo_ticks, tl, rfl, ⟨_, SqL.of e2⟩, fun D nD => ?_⟩
    refine it_list (K := K) (a := tl) (xs := tas.map V.ref) (fun i H5 => i ≤ n → DkOk H2 H5 D (fun m => ∃ u, u < i ∧ m ∈ (tkN pl u).swept) (3 * i)) (fun _ => ⟨sameUpd (Same.refl H2) nD, [], upd_same, Nat.zero_le _, fun m => ⟨fun ⟨u, h, _⟩ => by omega, fun _ => rfl⟩⟩) (fun i H5 hi q => SqL.of ((q (by rw [List.length_map, hl] at hi; exact hi)).sm _ _ e2)) ?_ ?_
    · rintro i x5 H5 hx q
      rw [List.getElem?_map] at hx
      obtain ⟨ai, hai, rfl⟩ := Option.map_eq_some_iff.mp hx
      obtain ⟨tk, htk, hT⟩ := Paired_idx e3 hai
      have hin : i < n := by
        have := (List.getElem?_eq_some_iff.mp hai).1
        omega
      replace q := q (by omega)
      unfold ticksL at htk
      rw [List.getElem?_map, List.getElem?_range hin] at htk
      cases htk
      obtain ⟨dt, sw, wo, sb, w1, w2, w3, w4⟩ := hT
      have hsw3 : (tkN pl i).swept.length ≤ 3 := by
        show ((stN pl i).robots.map (·.1)).length ≤ 3
        rw [List.length_map, (st_wf wf.rt i).ro]
        exact wf.r3
      refine ⟨rfl, _, rfl, ai, _, dt, _, _, rfl, q.sm _ _ w1, T.s.m.tick.c, T.s.m.tick.n _ (by simp), lt_swept, sw, rfl, ⟨_, (w2.mono fun _ z => q.sm _ _ z).sq⟩, ?_⟩
      refine it_tup (K := K) (a := sw) (xs := (tkN pl i).swept.map fun n : Nat => V.int n) (fun j H6 => DkOk H2 H6 D (fun m => (∃ u, u < i ∧ m ∈ (tkN pl u).swept) ∨ m ∈ (tkN pl i).swept.take j) (3 * i + j)) ⟨q.sm, ?_⟩ (fun j H6 _ q6 => (w2.mono fun _ z => q6.sm _ _ z).sq) ?_ ?_
      · obtain ⟨kvs, z1, z2, z3⟩ := q.ex
        refine ⟨kvs, z1, z2, fun m => ?_⟩
        rw [List.take_zero]
        exact ⟨fun h => (z3 m).1 (h.elim id fun h => absurd h (by simp)), fun h => (z3 m).2 fun h2 => h (.inl h2)⟩
      · rintro j x6 H6 hx6 ⟨sm6, kvs, z1, z2, z3⟩
        rw [List.getElem?_map] at hx6
        obtain ⟨c, hc, rfl⟩ := Option.map_eq_some_iff.mp hx6
        have hj : j < 3 := by
          have := (List.getElem?_eq_some_iff.mp hc).1
          omega
        refine ⟨rfl, _, rfl, kvs, .inl (c : Int), rfl, z1, by rw [sizeLine_eq]; omega, sameUpd sm6 nD, _, upd_same, Nat.le_trans (length_putK _ _ _) (by omega), fun m => ?_⟩
        rw [valV_at2, List.take_succ, hc]
        by_cases hmc : m = c
        · subst hmc
          rw [if_pos rfl]
          exact ⟨fun _ => rfl, fun h => absurd (Or.inr (List.mem_append_right _ (by simp))) h⟩
        · rw [if_neg hmc]
          refine ⟨fun h => (z3 m).1 ?_, fun h => (z3 m).2 fun h2 => h ?_⟩
          · rcases h with h | h
            · exact .inl h
            · rcases List.mem_append.mp h with h | h
              · exact .inr h
              · exact absurd (by simpa using h) hmc
          · exact h2.elim .inl fun h2 => .inr (List.mem_append_left _ h2)
      · rintro H6 ⟨sm6, kvs, z1, z2, z3⟩ _
        rw [List.length_map, List.take_length] at z3
        rw [List.length_map] at z2
        refine ⟨sm6, kvs, z1, by omega, fun m => ⟨fun ⟨u, h1, h2⟩ => (z3 m).1 ?_, fun h => (z3 m).2 fun h2 => h ?_⟩⟩
        · rcases Nat.lt_or_ge u i with z | z
          · exact .inl ⟨u, z, h2⟩
          · have : u = i := by omega
            exact .inr (this ▸ h2)
        · rcases h2 with ⟨u, h1, h2⟩ | h2
          · exact ⟨u, by omega, h2⟩
          · exact ⟨i, by omega, h2⟩
    · rintro H5 q
      obtain ⟨sm5, kvs, z1, z2, z3⟩ := q (by rw [List.length_map, hl]; exact Nat.le_refl _)
      rw [List.length_map, hl] at z3
      obtain ⟨dp, sga, mda, fla, rba, rda, ras3, p1, p2, p3, p4, p5⟩ := id hpl
      have s15 := s12.trans sm5
      have hn16 := wf.n16
      refine ⟨_, rfl, pa, _, dp, _, _, rfl, s15 _ _ p1, T.s.m.lo.plan.c, T.s.m.lo.plan.n _ (by simp), lpl_floor, fla, _, rfl, .inr (SqT.of (s15 _ _ p4)), _, rfl, by rw [List.length_map]; omega, by rw [List.length_map]; omega, fun E nE => ?_⟩
      rw [List.length_map]
      have hsome : ∀ m : Nat, (∃ u, u < n ∧ m ∈ (tkN pl u).swept) ↔ ∃ u, m ∈ (tkN pl u).swept := fun m => (some_of e4 m).symm
      refine lc_range (lo := 0) (n := ((pl.floor.length : Nat) : Int).toNat) (fun i H6 => Same H5 H6 ∧ ∃ ns : List Nat, H6 E = some (.lst (ns.map fun n : Nat => V.int n)) ∧ ns.length ≤ i ∧ ns.Pairwise (· < ·) ∧ ∀ k, k ∈ ns ↔ k < i ∧ ∀ u, k ∉ (tkN pl u).swept) ⟨sameUpd (Same.refl H5) nE, [], upd_same, Nat.le_refl _, List.Pairwise.nil, fun k => ⟨fun z => absurd z (by simp), fun ⟨z, _⟩ => by omega⟩⟩ ?_ ?_
      · rintro i H6 hi ⟨sm6, ns, hE, hnl, hnp, hnm⟩
        rw [Int.toNat_natCast] at hi
        rw [Int.zero_add]
        refine ⟨rfl, _, rfl, _, rfl, D, _, rfl, DGet.k (k := .inl (i : Int)) (sm6 _ _ z1), _, rfl, ?_⟩
        by_cases hm : ∃ u, i ∈ (tkN pl u).swept
        · rw [(z3 i).1 ((hsome i).mpr hm)]
          refine iteF ⟨sm6, ns, hE, by omega, hnp, fun k => ?_⟩
          rw [hnm]
          constructor
          · rintro ⟨h1, h2⟩
            exact ⟨by omega, h2⟩
          · rintro ⟨h1, h2⟩
            refine ⟨?_, h2⟩
            rcases Nat.lt_or_ge k i with z | z
            · exact z
            · have : k = i := by omega
              subst this
              obtain ⟨u, hu'⟩ := hm
              exact absurd hu' (h2 u)
        · rw [(z3 i).2 fun z => hm ((hsome i).mp z)]
          refine iteT ⟨_, rfl, _, hE, by rw [List.length_map, sizeLine_eq]; omega, sameUpd sm6 nE, ns ++ [i], by rw [upd_same, List.map_append]; rfl, by rw [List.length_append, List.length_singleton]; omega, ?_, fun k => ?_⟩
          · rw [List.pairwise_append]
            refine ⟨hnp, by simp, fun a ha b hb => ?_⟩
            have hb : b = i := by simpa using hb
            have := ((hnm a).mp ha).1
            omega
          · rw [List.mem_append, hnm, List.mem_singleton]
            constructor
            · rintro (⟨h1, h2⟩ | h)
              · exact ⟨by omega, h2⟩
              · subst h
                exact ⟨by omega, fun u hu' => hm ⟨u, hu'⟩⟩
            · rintro ⟨h1, h2⟩
              rcases Nat.lt_or_ge k i with z | z
              · exact .inl ⟨z, h2⟩
              · exact .inr (by omega)
      · rintro H6 ⟨sm6, ns, hE, hnl, hnp, hnm⟩
        rw [Int.toNat_natCast] at hnm
        exact k ns E H6 ((s1.trans s15).free nE) ((s1.trans s15).trans sm6) hE ⟨hnp, hnm⟩
end
end Sw

end

section
set_option maxRecDepth 100000
set_option maxHeartbeats 1000000
/-! t[lo:hi] of a tuple without a dict of its own: such a tuple again -/
namespace SwA
open PySem PySem.Spec PyProof.Rows L2
def rSlN : V → Option Int → Option Int → Hp → VK → Prop := fun x lo hi H Q => ∃ a xs, x = .ref a ∧ TupN H a xs ∧ ∀ (b : Addr) (H' : Hp), Same H H' → TupN H' b (cutV xs lo hi) → Q (.ref b) H'
theorem cut_whole {xs : List V} {lo hi : Option Int} (h : HT.sIx xs.length 0 lo = 0 ∧ HT.sIx xs.length xs.length hi = xs.length) : cutV xs lo hi = xs := by
  unfold cutV
  rw [h.1, h.2]
  simp
theorem sl_tupN {X : Cx} : SlR X rSlN := by
  intro pins s σ H x v vl vu lo hi sl Q I rx hs pl pu h
  obtain ⟨a, xs, rfl, hx, q⟩ := h
  have hxs : SqT X.K H a xs := hx.sq
  cases rx
  obtain ⟨its, r, ht, hz⟩ := I.tuple hxs
  have hlen : its.toArray.size = xs.length := by rw [List.size_toArray]; exact r.length.symm
  refine ⟨"tuple", _, PyProof.Rows.slot_tuple_getitem.lookup, ht.typeIs, ?_⟩
  by_cases hw : HT.sIx xs.length 0 lo = 0 ∧ HT.sIx xs.length xs.length hi = xs.length
  · exact getItem_tuple_whole ht hs pl pu (by rw [hlen]; exact hw) ⟨.ref a, H, I, rfl, q a H (Same.refl H) (by rw [cut_whole hw]; exact hx)⟩
  · refine HT.getItem_tuple_cut ht hs pl pu (by rw [hlen]; exact hw) ?_ (by rw [hlen]; exact hz)
    rw [hlen]
    have hn := I.hok.fresh (Nat.le_refl s.heap.objs.size)
    have rr := (r.drop (HT.sIx xs.length 0 lo)).take (HT.sIx xs.length xs.length hi - HT.sIx xs.length 0 lo)
    have lz : (cutV xs lo hi).length ≤ sizeLine := Nat.le_trans (cutV_length xs lo hi) hz
    exact ⟨.ref s.heap.objs.size, _, I.laid (t' := s.toks) (o := .frz _ (.tup (cutV xs lo hi))) (fun b o e => Heap.get?_push_of_some _ e) (Nat.le_refl _) ⟨Heap.get?_push_size _ rfl, lz, _, rr, IsTup.new _ _⟩, rfl, q _ _ (Sw.sameUpd (Same.refl H) hn) ⟨_, rfl, rfl, upd_same⟩⟩
end SwA

end

section
set_option maxRecDepth 100000
set_option maxHeartbeats 4000000
/-! small plans come again early: there are few states -/
namespace Sw
open PySem
theorem pigeon : ∀ (B : Nat) (e : Nat → Nat), (∀ i, i ≤ B → e i < B) → ∃ i j, i < j ∧ j ≤ B ∧ e i = e j
  | 0, e, h => absurd (h 0 (Nat.le_refl 0)) (Nat.not_lt_zero _)
  | B + 1, e, h => by
    by_cases hx : ∃ i, i ≤ B ∧ e i = e (B + 1)
    · obtain ⟨i, hi, he⟩ := hx
      exact ⟨i, B + 1, by omega, Nat.le_refl _, he⟩
    · have hn : ∀ i, i ≤ B → e i ≠ e (B + 1) := fun i hi he => hx ⟨i, hi, he⟩
      obtain ⟨i, j, h1, h2, h3⟩ := pigeon B (fun i => if e (B + 1) < e i then e i - 1 else e i) fun i hi => by
        have a1 := h i (by omega)
        have a2 := h (B + 1) (Nat.le_refl _)
        have a3 := hn i hi
        show (if e (B + 1) < e i then e i - 1 else e i) < B
        split <;> omega
      refine ⟨i, j, h1, by omega, ?_⟩
      have a1 := hn i (by omega)
      have a2 := hn j h2
      have h3 : (if e (B + 1) < e i then e i - 1 else e i) = (if e (B + 1) < e j then e j - 1 else e j) := h3
      split at h3 <;> split at h3 <;> omega
def encL (b : Nat) : List Nat → Nat
  | [] => 0
  | d :: l => d + b * encL b l
theorem encL_lt {b : Nat} : ∀ {l : List Nat}, (∀ d ∈ l, d < b) → encL b l < b ^ l.length
  | [], _ => by simp [encL]
  | d :: l, h => by
    have h1 := h d List.mem_cons_self
    have h2 := encL_lt fun x hx => h x (List.mem_cons_of_mem _ hx)
    show d + b * encL b l < b ^ (l.length + 1)
    have : b * (encL b l + 1) ≤ b * b ^ l.length := Nat.mul_le_mul_left b h2
    rw [Nat.mul_add, Nat.mul_one] at this
    rw [Nat.pow_succ, Nat.mul_comm (b ^ l.length) b]
    omega
theorem digit_inj {b d e x y : Nat} (hd : d < b) (he : e < b) (h : d + b * x = e + b * y) : d = e ∧ x = y := by
  have h1 : (d + b * x) % b = (e + b * y) % b := by rw [h]
  rw [Nat.add_mul_mod_self_left, Nat.add_mul_mod_self_left, Nat.mod_eq_of_lt hd, Nat.mod_eq_of_lt he] at h1
  subst h1
  refine ⟨rfl, ?_⟩
  have h2 : b * x = b * y := by omega
  exact Nat.eq_of_mul_eq_mul_left (by omega) h2
theorem encL_inj {b : Nat} : ∀ {l m : List Nat}, (∀ d ∈ l, d < b) → (∀ d ∈ m, d < b) → l.length = m.length → encL b l = encL b m → l = m
  | [], [], _, _, _, _ => rfl
  | [], _ :: _, _, _, h, _ => by cases h
  | _ :: _, [], _, _, h, _ => by cases h
  | d :: l, e :: m, h1, h2, h3, h4 => by
    obtain ⟨e1, e2⟩ := digit_inj (h1 d List.mem_cons_self) (h2 e List.mem_cons_self) h4
    rw [e1, encL_inj (fun x hx => h1 x (List.mem_cons_of_mem _ hx)) (fun x hx => h2 x (List.mem_cons_of_mem _ hx)) (Nat.succ.inj h3) e2]
def rd (r : Rob) : Nat := r.1 + 4 * ((if r.2.1 = true then 1 else 0) + 2 * r.2.2)
theorem rd_lt {m : Nat} {r : Rob} (h1 : r.1 < 4) (h2 : r.2.2 < m) : rd r < 8 * m := by
  unfold rd
  split <;> omega
theorem rd_inj {r q : Rob} (h1 : r.1 < 4) (h2 : q.1 < 4) (h : rd r = rd q) : r = q := by
  obtain ⟨a, b, c⟩ := r
  obtain ⟨a', b', c'⟩ := q
  unfold rd at h
  obtain ⟨e1, e2⟩ := digit_inj h1 h2 h
  have h3 : (if b = true then 1 else 0) < 2 := by split <;> omega
  have h4 : (if b' = true then 1 else 0) < 2 := by split <;> omega
  obtain ⟨e3, e4⟩ := digit_inj h3 h4 e2
  have e5 : b = b' := by
    cases b <;> cases b' <;> first | rfl | simp at e3
  simp only at e1 e4
  rw [e1, e5, e4]
def encS (g m : Nat) (st : MSt) : Nat := encL g st.floor + g ^ st.floor.length * encL (8 * m) (st.robots.map rd)
structure In (g m n r : Nat) (st : MSt) : Prop where
  w : WfM n r st
  s : ∀ x ∈ st.floor, x < g
  o : MoS m st
theorem In.rds {g m n r : Nat} {st : MSt} (h : In g m n r st) (hn : n ≤ 4) : ∀ d ∈ st.robots.map rd, d < 8 * m := fun d hd => by
  obtain ⟨q, hq, rfl⟩ := List.mem_map.mp hd
  exact rd_lt (Nat.lt_of_lt_of_le (h.w.ti q hq) hn) (h.o q hq)
theorem encS_lt {g m n r : Nat} {st : MSt} (h : In g m n r st) (hn : n ≤ 4) : encS g m st < g ^ n * (8 * m) ^ r := by
  have h1 := encL_lt h.s
  have h2 := encL_lt (h.rds hn)
  rw [List.length_map, h.w.ro] at h2
  rw [h.w.fl] at h1
  unfold encS
  rw [h.w.fl]
  have : g ^ n * (encL (8 * m) (st.robots.map rd) + 1) ≤ g ^ n * (8 * m) ^ r := Nat.mul_le_mul_left _ h2
  rw [Nat.mul_add, Nat.mul_one] at this
  omega
theorem encS_inj {g m n r : Nat} {a b : MSt} (ha : In g m n r a) (hb : In g m n r b) (hn : n ≤ 4) (h : encS g m a = encS g m b) : a = b := by
  unfold encS at h
  rw [ha.w.fl, hb.w.fl] at h
  have h1 := encL_lt ha.s
  have h2 := encL_lt hb.s
  rw [ha.w.fl] at h1
  rw [hb.w.fl] at h2
  obtain ⟨e1, e2⟩ := digit_inj h1 h2 h
  have f1 : a.floor = b.floor := encL_inj ha.s hb.s (by rw [ha.w.fl, hb.w.fl]) e1
  have f2 : a.robots.map rd = b.robots.map rd := encL_inj (ha.rds hn) (hb.rds hn) (by rw [List.length_map, List.length_map, ha.w.ro, hb.w.ro]) e2
  have f3 : a.robots = b.robots := by
    refine List.ext_getElem (by rw [ha.w.ro, hb.w.ro]) fun i h1 h2 => ?_
    have := congrArg (fun l => l[i]?) f2
    simp only [List.getElem?_map, List.getElem?_eq_getElem h1, List.getElem?_eq_getElem h2, Option.map_some, Option.some.injEq] at this
    exact rd_inj (Nat.lt_of_lt_of_le (ha.w.ti _ (List.getElem_mem h1)) hn) (Nat.lt_of_lt_of_le (hb.w.ti _ (List.getElem_mem h2)) hn) this
  cases a
  cases b
  simp only at f1 f3
  rw [f1, f3]
/-- few tiles, signs, moods and robots -/
def Small (pl : Plan) : Prop := pl.floor.length ≤ 4 ∧ ((pl.robots.length = 1 ∧ pl.signs.length ≤ 4 ∧ pl.moods.length ≤ 3) ∨ (pl.robots.length ≤ 2 ∧ pl.signs.length ≤ 2 ∧ pl.moods.length ≤ 2))
theorem early_of {pl : Plan} (wf : WfP pl) (hn : pl.floor.length ≤ 4) : Early pl (pl.signs.length ^ pl.floor.length * (8 * pl.moods.length) ^ pl.robots.length) := by
  have hin : ∀ k, In pl.signs.length pl.moods.length pl.floor.length pl.robots.length (stN pl k) := fun k => ⟨st_wf wf.rt k, st_si wf k, st_mo wf k⟩
  obtain ⟨i, j, h1, h2, h3⟩ := pigeon _ (fun k => encS pl.signs.length pl.moods.length (stN pl k)) fun i _ => encS_lt (hin i) hn
  exact ⟨i, j, h1, h2, encS_inj (hin i) (hin j) hn h3⟩
theorem small_early {pl : Plan} (wf : WfP pl) (h : Small pl) : Early pl 20000 := by
  refine (early_of wf h.1).mono ?_
  rcases h.2 with ⟨h1, h2, h3⟩ | ⟨h1, h2, h3⟩
  · rw [h1]
    have a1 : pl.signs.length ^ pl.floor.length ≤ 4 ^ 4 := Nat.le_trans (Nat.pow_le_pow_left h2 _) (Nat.pow_le_pow_right (by decide) h.1)
    have a2 : (8 * pl.moods.length) ^ 1 ≤ 24 := by rw [Nat.pow_one]; omega
    exact Nat.le_trans (Nat.mul_le_mul a1 a2) (by decide)
  · have a1 : pl.signs.length ^ pl.floor.length ≤ 2 ^ 4 := Nat.le_trans (Nat.pow_le_pow_left h2 _) (Nat.pow_le_pow_right (by decide) h.1)
    have a2 : (8 * pl.moods.length) ^ pl.robots.length ≤ 16 ^ 2 := Nat.le_trans (Nat.pow_le_pow_left (show 8 * pl.moods.length ≤ 16 by omega) _) (Nat.pow_le_pow_right (by decide) h1)
    exact Nat.le_trans (Nat.mul_le_mul a1 a2) (by decide)
end Sw

end

section
set_option maxRecDepth 100000
set_option maxHeartbeats 4000000
/-! the law's own: short plans -/
namespace Sw
open PySem PySem.Spec PyProof.Rows L2 SwA
def keptOf (g m : Nat) (rules : List ((Nat × Nat) × Rule)) (mo si : Nat) : List ((Nat × Nat) × Rule) := match getA rules (mo, si) with
  | none => []
  | some r => [((mo, si), ⟨r.left % g, r.move, r.later % m⟩)]
def keptRow (g m : Nat) (rules : List ((Nat × Nat) × Rule)) (mo n : Nat) : List ((Nat × Nat) × Rule) := ((List.range n).map (keptOf g m rules mo)).flatten
def keptR (g m : Nat) (rules : List ((Nat × Nat) × Rule)) (n : Nat) : List ((Nat × Nat) × Rule) := ((List.range n).map fun mo => keptRow g m rules mo g).flatten
theorem keptRow_succ (g m : Nat) (rules : List ((Nat × Nat) × Rule)) (mo n : Nat) : keptRow g m rules mo (n + 1) = keptRow g m rules mo n ++ keptOf g m rules mo n := by
  unfold keptRow
  rw [List.range_succ]
  simp
theorem keptR_succ (g m : Nat) (rules : List ((Nat × Nat) × Rule)) (n : Nat) : keptR g m rules (n + 1) = keptR g m rules n ++ keptRow g m rules n g := by
  unfold keptR
  rw [List.range_succ]
  simp
def shortP (pl : Plan) : Plan := if pl.robots.length = 1 then pl else
  ⟨pl.signs.take 2, pl.moods.take 2, pl.floor.map (· % (pl.signs.take 2).length), pl.robots.take 2, keptR (pl.signs.take 2).length (pl.moods.take 2).length pl.rules (pl.moods.take 2).length⟩
theorem keptOf_mem {g m : Nat} {rules : List ((Nat × Nat) × Rule)} {mo si : Nat} {kv : (Nat × Nat) × Rule} (h : kv ∈ keptOf g m rules mo si) : kv.1 = (mo, si) ∧ ∃ r, getA rules (mo, si) = some r ∧ kv.2 = ⟨r.left % g, r.move, r.later % m⟩ := by
  unfold keptOf at h
  cases hg : getA rules (mo, si) with
  | none => rw [hg] at h; cases h
  | some r =>
    rw [hg] at h
    rw [List.mem_singleton.mp h]
    exact ⟨rfl, r, rfl, rfl⟩
theorem keptRow_mem {g m : Nat} {rules : List ((Nat × Nat) × Rule)} {mo n : Nat} {kv : (Nat × Nat) × Rule} (h : kv ∈ keptRow g m rules mo n) : ∃ si, si < n ∧ kv ∈ keptOf g m rules mo si := by
  unfold keptRow at h
  obtain ⟨l, hl, hk⟩ := List.mem_flatten.mp h
  obtain ⟨si, hs, rfl⟩ := List.mem_map.mp hl
  exact ⟨si, List.mem_range.mp hs, hk⟩
theorem keptR_mem {g m : Nat} {rules : List ((Nat × Nat) × Rule)} {n : Nat} {kv : (Nat × Nat) × Rule} (h : kv ∈ keptR g m rules n) : kv.1.1 < n ∧ kv.1.2 < g ∧ ∃ r, getA rules kv.1 = some r ∧ kv.2 = ⟨r.left % g, r.move, r.later % m⟩ := by
  unfold keptR at h
  obtain ⟨l, hl, hk⟩ := List.mem_flatten.mp h
  obtain ⟨mo, hm, rfl⟩ := List.mem_map.mp hl
  obtain ⟨si, hs, hk⟩ := keptRow_mem hk
  obtain ⟨e, r, h1, h2⟩ := keptOf_mem hk
  rw [e]
  exact ⟨List.mem_range.mp hm, hs, r, h1, h2⟩
abbrev LtP (a b : Nat × Nat) : Prop := a.1 < b.1 ∨ (a.1 = b.1 ∧ a.2 < b.2)
theorem keptRow_sorted (g m : Nat) (rules : List ((Nat × Nat) × Rule)) (mo : Nat) : ∀ n, ((keptRow g m rules mo n).map (·.1)).Pairwise LtP
  | 0 => by simp [keptRow]
  | n + 1 => by
    rw [keptRow_succ, List.map_append, List.pairwise_append]
    refine ⟨keptRow_sorted g m rules mo n, ?_, fun a ha b hb => ?_⟩
    · unfold keptOf
      split <;> simp
    · obtain ⟨x, hx, rfl⟩ := List.mem_map.mp ha
      obtain ⟨y, hy, rfl⟩ := List.mem_map.mp hb
      obtain ⟨si, hs, hx⟩ := keptRow_mem hx
      obtain ⟨e1, _⟩ := keptOf_mem hx
      obtain ⟨e2, _⟩ := keptOf_mem hy
      rw [e1, e2]
      exact .inr ⟨rfl, hs⟩
theorem keptR_sorted (g m : Nat) (rules : List ((Nat × Nat) × Rule)) : ∀ n, ((keptR g m rules n).map (·.1)).Pairwise LtP
  | 0 => by simp [keptR]
  | n + 1 => by
    rw [keptR_succ, List.map_append, List.pairwise_append]
    refine ⟨keptR_sorted g m rules n, keptRow_sorted g m rules n g, fun a ha b hb => ?_⟩
    obtain ⟨x, hx, rfl⟩ := List.mem_map.mp ha
    obtain ⟨y, hy, rfl⟩ := List.mem_map.mp hb
    obtain ⟨si, hs, hy⟩ := keptRow_mem hy
    obtain ⟨e2, _⟩ := keptOf_mem hy
    obtain ⟨e1, _⟩ := keptR_mem hx
    rw [e2]
    exact .inl e1
theorem SortedR.nodup {rules : List ((Nat × Nat) × Rule)} (h : SortedR rules) : (rules.map (·.1)).Nodup := List.Pairwise.imp (fun {a b} q z => by rw [z] at q; omega) h
theorem NamesOk.take {ws : List Cs} (h : NamesOk ws) (n : Nat) : NamesOk (ws.take n) := ⟨h.nd.sublist (List.take_sublist _ _), fun w hw => h.ok w (List.mem_of_mem_take hw)⟩
theorem short_wf {pl : Plan} (wf : WfP pl) (so : SortedR pl.rules) (hn : pl.floor.length ≤ 4) (hm : pl.moods.length ≤ 3) : WfP (shortP pl) ∧ SortedR (shortP pl).rules ∧ Small (shortP pl) ∧ (shortP pl).floor.length = pl.floor.length := by
  unfold shortP
  split
  · rename_i h1
    exact ⟨wf, so, ⟨hn, .inl ⟨h1, wf.s4, hm⟩⟩, rfl⟩
  · rename_i h1
    have s1 := List.length_pos_iff.mpr wf.s1
    have m1 := List.length_pos_iff.mpr wf.m1
    have r1 := List.length_pos_iff.mpr wf.r1
    have ls : (pl.signs.take 2).length = min 2 pl.signs.length := List.length_take
    have lm : (pl.moods.take 2).length = min 2 pl.moods.length := List.length_take
    have lr : (pl.robots.take 2).length = min 2 pl.robots.length := List.length_take
    have gs : 0 < (pl.signs.take 2).length := by omega
    have gm : 0 < (pl.moods.take 2).length := by omega
    have hso := keptR_sorted (pl.signs.take 2).length (pl.moods.take 2).length pl.rules (pl.moods.take 2).length
    refine ⟨⟨wf.sN.take 2, wf.mN.take 2, List.length_pos_iff.mp gs, by show (pl.signs.take 2).length ≤ 4; omega, List.length_pos_iff.mp gm, by show (pl.moods.take 2).length ≤ 6; omega, by show 1 ≤ (pl.floor.map _).length; rw [List.length_map]; exact wf.n1, by show (pl.floor.map _).length ≤ 16; rw [List.length_map]; exact wf.n16, ?_, ?_, by show (pl.robots.take 2).length ≤ 3; omega, ?_, SortedR.nodup hso, ?_⟩, hso, ⟨by show (pl.floor.map _).length ≤ 4; rw [List.length_map]; exact hn, .inr ⟨by show (pl.robots.take 2).length ≤ 2; omega, by show (pl.signs.take 2).length ≤ 2; omega, by show (pl.moods.take 2).length ≤ 2; omega⟩⟩, List.length_map _⟩
    · intro x hx
      obtain ⟨y, _, rfl⟩ := List.mem_map.mp hx
      exact Nat.mod_lt _ gs
    · exact List.length_pos_iff.mp (by show 0 < (pl.robots.take 2).length; omega)
    · intro r hr
      show r.1 < (pl.floor.map _).length
      rw [List.length_map]
      exact wf.rt r (List.mem_of_mem_take hr)
    · intro kv hkv
      obtain ⟨k1, k2, r, k3, k4⟩ := keptR_mem hkv
      have ro := get_ok wf k3
      refine ⟨k1, k2, ?_, ?_, ?_⟩
      · rw [k4]; exact Nat.mod_lt _ gs
      · rw [k4]; exact Nat.mod_lt _ gm
      · rw [k4]; exact ro.mv
theorem Paired_take {α β : Type} {F : α → β → Prop} : ∀ {a : List α} {b : List β}, Paired F a b → ∀ n, Paired F (a.take n) (b.take n)
  | _, _, .nil, n => by cases n <;> exact .nil
  | _, _, .cons x t, 0 => .nil
  | _, _, .cons x t, n + 1 => .cons x (Paired_take t n)
theorem FnE.impJ {P : Program} {w : World} {K : PySem.W.Frag} {mg : Str → Option Value} {base : Heap} {CX : CXT} {k : Nat} {p : Str × Option Str} {ps : List Str} {sp sp' : Sp} (h : FnE P w K mg base CX k p ps sp) (i : ∀ vs H Q E, sp' vs H Q E → sp vs H Q E) : FnE P w K mg base CX k p ps sp' := by
  obtain ⟨fd, G, b, q⟩ := h
  exact ⟨fd, G.imp i, b, q⟩
structure ShoT (K : PySem.W.Frag) (mg : Str → Option Value) : Prop where
  p : PlaT K mg
  min : mg "min" = none
  short : DeT K mg "_law_short" s__law_short
section
variable {P : Program} {w : World} {K : PySem.W.Frag} {mg : Str → Option Value} {base : Heap}
/-- .. with the names told -/
def spShortB : Sp := fun vs H Q _ => ∃ (d : Addr) (most : Nat), vs = [.ref d, .int most] ∧ DrawAt H d ∧ 1 ≤ most ∧ most ≤ 100 ∧
  ∀ (a : Addr) (H' : Hp) (pl : Plan), Drawn d H H' → WfP pl → Small pl → pl.floor.length ≤ most → SortedR pl.rules → (∀ x ∈ pl.signs, x ∈ sBase) → H a = none → PlanV H' a pl → Q (.ref a) H'
def spShort : Sp := fun vs H Q _ => ∃ (d : Addr) (most : Nat), vs = [.ref d, .int most] ∧ DrawAt H d ∧ 1 ≤ most ∧ most ≤ 100 ∧
  ∀ (a : Addr) (H' : Hp) (pl : Plan), Drawn d H H' → WfP pl → Small pl → pl.floor.length ≤ most → SortedR pl.rules → H a = none → PlanV H' a pl → Q (.ref a) H'
abbrev shoN : List Str := ["_law_d", "_law_most", "_law_signs", "_law_moods", "_law_floor", "_law_robots", "_law_rules", "_law_kept", "_law_mood", "_law_sign", "_law_left", "_law_move", "_law_later"]
theorem sc_sho : FnScope shoN ["_law_d", "_law_most"] (defScope s__law_short) := ⟨rfl, rfl, rfl, by decide +kernel, rfl, by decide +kernel, by decide +kernel⟩
abbrev rLenA (K : PySem.W.Frag) : List V → Hp → VK → Prop := fun xs H Q => ∃ p ys, xs = [V.ref p] ∧ (SqL K H p ys ∨ SqT K H p ys) ∧ Q (.int ys.length) H
theorem ok_shoB (T : ShoT K mg) : FnE P w K mg base CX0 4 ("_law_short", none) ["_law_d", "_law_most"] spShortB := by
  obtain ⟨fd, F⟩ := T.short.d
  obtain ⟨fdPL, GPL, bPL, kPL⟩ := ok_lplan (P := P) (w := w) (base := base) T.p
  refine ⟨fd, F.ok sc_sho (fun vs H Q E h => ?_) (fun cdv A outer s H vs Q E hr h => ?_), F.bindsN fun _ _ _ _ _ _ us hl => match us, hl with | [_, _], _ => rfl, F.kp⟩
  · obtain ⟨d, most, rfl, _⟩ := h
    rfl
  · obtain ⟨d, most, rfl, hd, hm1, hm2, k⟩ := h
    have hr3 : Room 3 _ := hr.mono (by decide)
    have hu := hu_of hr
    refine ⟨_, PSs.nox (pss_cons (ps_asg (pe_call GPL hr3 rfl T.p.plan.g kPL bPL .nil pass0 (pa_cons (pv 0) (pa_cons (pe_callB (cr_min rfl) (by rfl) T.min (by decide +kernel) (pa_cons (pe_lst (pa_cons (pv 1) (pa_cons pe_int pa_nil))) pa_nil)) pa_nil)))
        (pg_tup rfl (pgs_cons (pg_name (i := 2) sc_sho.nd rfl (.inr rfl)) (pgs_cons (pg_name (i := 3) sc_sho.nd rfl (.inl rfl)) (pgs_cons (pg_name (i := 4) sc_sho.nd rfl (.inl rfl)) (pgs_cons (pg_name (i := 5) sc_sho.nd rfl (.inl rfl)) (pgs_cons (pg_name (i := 6) sc_sho.nd rfl (.inl rfl)) pgs_nil)))))))
      (pss_cons (ps_if (pt_cmpR op_eq (pe_callB call_len_seq (by rfl) T.p.s.l.len boot_len (pa_cons (pv 5) pa_nil)) pe_int (nomark _))
        (pss_one (ps_ret (pe_tup (pa_cons (pv 2) (pa_cons (pv 3) (pa_cons (pv 4) (pa_cons (pv 5) (pa_cons (pv 6) pa_nil)))))))) pss_nil)
      (pss_cons (ps_asg (pe_tup (pa_cons (pe_slice sl_tupN (pv 2) po_none (po_some pe_int)) (pa_cons (pe_slice sl_tupN (pv 3) po_none (po_some pe_int)) (pa_cons pe_dnewT pa_nil))))
        (pg_tup rfl (pgs_cons (pg_name (i := 2) sc_sho.nd rfl (.inr rfl)) (pgs_cons (pg_name (i := 3) sc_sho.nd rfl (.inl rfl)) (pgs_cons (pg_name (i := 7) sc_sho.nd rfl (.inl rfl)) pgs_nil)))))
      (pss_cons (ps_for PassesOwn.never rfl (pi_range1 (by rfl) T.p.s.l.range (pa_cons (pe_callB call_len_seq (by rfl) T.p.s.l.len boot_len (pa_cons (pv 3) pa_nil)) pa_nil)) (pg_name (i := 8) sc_sho.nd rfl (.inl rfl))
        (pss_one (ps_for PassesOwn.never rfl (pi_range1 (by rfl) T.p.s.l.range (pa_cons (pe_callB call_len_seq (by rfl) T.p.s.l.len boot_len (pa_cons (pv 2) pa_nil)) pa_nil)) (pg_name (i := 9) sc_sho.nd rfl (.inl rfl))
          (pss_one (ps_if (pt_cmp (pc_din hu (pe_tup (pa_cons (pv 8) (pa_cons (pv 9) pa_nil))) (pv 6)))
            (pss_cons (ps_asg (pe_dget hu (pv 6) (pe_tup (pa_cons (pv 8) (pa_cons (pv 9) pa_nil))) (fun _ _ => rfl))
              (pg_tup rfl (pgs_cons (pg_name (i := 10) sc_sho.nd rfl (.inl rfl)) (pgs_cons (pg_name (i := 11) sc_sho.nd rfl (.inl rfl)) (pgs_cons (pg_name (i := 12) sc_sho.nd rfl (.inl rfl)) pgs_nil)))))
            (pss_one (ps_dput hu (pv 7) (pe_tup (pa_cons (pv 8) (pa_cons (pv 9) pa_nil))) (pe_tup (pa_cons (pe_op op_mod (pv 10) (pe_callB call_len_seq (by rfl) T.p.s.l.len boot_len (pa_cons (pv 2) pa_nil))) (pa_cons (pv 11) (pa_cons (pe_op op_mod (pv 12) (pe_callB call_len_seq (by rfl) T.p.s.l.len boot_len (pa_cons (pv 3) pa_nil))) pa_nil)))) rfl))) pss_nil)))))
      (pss_one (ps_ret (pe_tup (pa_cons (pv 2) (pa_cons (pv 3) (pa_cons (pe_callTy call_tuple_of (by rfl) T.p.s.l.tuple (by decide +kernel) (pa_cons (pe_lc (own := [("_law_sign", 9)]) (g := (gName 9)) (tt := tYes) (te := tOp (rI (fun _ j => 0 < j) fun i j => .int (i % j)) (tVar 9) (tCB (rLenA K) (tCons (tVar 2) tNil))) rfl sc_sho.nd (pi_tup (pv 4)) (blkOk_by (own := [("_law_sign", 9)]) (N := shoN) (sc := defScope s__law_short) (by decide +kernel)) (fun _ _ _ _ _ => (pg_name (i := 9) sc_sho.nd rfl (.inl rfl))) (fun _ _ _ _ _ => pts_nil) (fun _ _ _ _ _ => (pe_op op_mod (pv 9) (pe_callB call_len_seq (by rfl) T.p.s.l.len boot_len (pa_cons (pv 2) pa_nil))))) pa_nil)) (pa_cons (pe_slice sl_tupA (pv 5) po_none (po_some pe_int)) (pa_cons (pv 7) pa_nil)))))))))))), ?_⟩
    refine ⟨_, rfl, _, rfl, (by show 2 ≤ sizeLine; decide), fun q0 nq0 => ?_⟩
    have dr0 := (Drawn.refl hd).new (o := .lst [V.int most, V.int 4]) nq0
    have hq0 := @upd_same H q0 (.lst [V.int most, V.int 4])
    generalize upd H q0 (.lst [V.int most, V.int 4]) = H1 at *
    refine ⟨q0, [(most : Int), 4], rfl, SqL.of hq0, by simp, fun mi hmem hle => ?_⟩
    have hmi : mi = ((min most 4 : Nat) : Int) := by
      have a1 := hle (most : Int) (by simp)
      have a2 := hle 4 (by simp)
      simp only [List.mem_cons, List.not_mem_nil, or_false] at hmem
      omega
    subst hmi
    refine ⟨d, min most 4, rfl, dr0.at_, by omega, by omega, fun pa H2 pl dr wf hfl ⟨hmo, hsb, _⟩ so npa hP => ?_⟩
    have hd0 : ∃ o, H d = some o := let ⟨_, _, _, _, e⟩ := hd; ⟨_, e⟩
    have dr2 : Drawn d H H2 := dr0.trans dr
    obtain ⟨wf2, so2, sm2, fl2⟩ := short_wf wf so (by omega) hmo
    have hsb2 : ∀ x ∈ (shortP pl).signs, x ∈ sBase := fun x hx => by
      unfold shortP at hx
      split at hx
      · exact hsb x hx
      · exact hsb x (List.mem_of_mem_take hx)
    have fin : ∀ (a : Addr) (H' : Hp), Same H2 H' → H2 a = none → PlanV H' a (shortP pl) → Q (.ref a) H' := fun a H' s na hp => k a H' _ (dr2.trans (Drawn.of dr2.at_ s)) wf2 sm2 (by omega) so2 hsb2 (dr2.free hd0 na) hp
    obtain ⟨sa, ma, fa, ra, rdA, ras, e0, e1, e2, e3, e4, e5, kvs, e6, e7⟩ := hP
    refine ⟨pa, _, rfl, SqT.of e0, rfl, _, _, rfl, _, _, rfl, _, _, rfl, _, _, rfl, _, _, rfl, rfl, ?_⟩
    have hras : ras.length = pl.robots.length := e5.length
    have h16 := wf.n16
    have h3 := wf.r3
    have r1 := List.length_pos_iff.mpr wf.r1
    refine ⟨_, rfl, ra, _, rfl, .inr (SqT.of e4), rfl, _, rfl, ?_⟩
    rw [List.length_map, hras]
    by_cases h1 : pl.robots.length = 1
    · rw [decide_eq_true (show V.int (pl.robots.length : Nat) = V.int 1 by rw [h1]; rfl)]
      refine iteT ⟨_, rfl, _, rfl, _, rfl, _, rfl, _, rfl, (by show 5 ≤ sizeLine; decide), fun t nt => ?_⟩
      have eS : shortP pl = pl := by unfold shortP; rw [if_pos h1]
      rw [eS] at fin
      have s3 := sameUpd (o := .tup [.ref sa, .ref ma, .ref fa, .ref ra, .ref rdA]) (Same.refl H2) nt
      exact fin t _ s3 nt ⟨sa, ma, fa, ra, rdA, ras, upd_same, e1.mono fun _ z => s3 _ _ z, e2.mono fun _ z => s3 _ _ z, s3 _ _ e3, s3 _ _ e4, Paired.mapP e5 fun _ _ q => s3 _ _ q, kvs, s3 _ _ e6, Paired.mapP e7 fun _ _ q => q.mono fun _ _ z => s3 _ _ z⟩
    rw [decide_eq_false (fun z => h1 (by have := V.int.inj z; omega))]
    refine iteF ?_
    have eS : shortP pl = ⟨pl.signs.take 2, pl.moods.take 2, pl.floor.map (· % (pl.signs.take 2).length), pl.robots.take 2, keptR (pl.signs.take 2).length (pl.moods.take 2).length pl.rules (pl.moods.take 2).length⟩ := by unfold shortP; rw [if_neg h1]
    rw [eS] at fin
    have s1 := List.length_pos_iff.mpr wf.s1
    have m1 := List.length_pos_iff.mpr wf.m1
    have ls : (pl.signs.take 2).length = min 2 pl.signs.length := List.length_take
    have lm : (pl.moods.take 2).length = min 2 pl.moods.length := List.length_take
    have cs : cutV (pl.signs.map sV) none (some 2) = (pl.signs.take 2).map sV := (cut_takeB 2).trans List.map_take.symm
    have cm : cutV (pl.moods.map sV) none (some 2) = (pl.moods.take 2).map sV := (cut_takeB 2).trans List.map_take.symm
    refine ⟨_, rfl, _, rfl, sa, _, rfl, e1, fun sa2 H3 s3 hsa2 => ?_⟩
    rw [cs] at hsa2
    refine ⟨_, rfl, _, rfl, ma, _, rfl, e2.mono fun _ z => s3 _ _ z, fun ma2 H4 s4 hma2 => ?_⟩
    rw [cm] at hma2
    replace hsa2 := hsa2.mono fun _ z => s4 _ _ z
    have s24 := s3.trans s4
    intro kd nkd
    have n2kd := s24.free nkd
    have s5 := sameUpd (o := .dT []) (Same.refl H4) nkd
    have hkd := @upd_same H4 kd (.dT [])
    replace hsa2 := hsa2.mono fun _ z => s5 _ _ z
    replace hma2 := hma2.mono fun _ z => s5 _ _ z
    have s25 := s24.trans s5
    generalize upd H4 kd (.dT []) = H5 at *
    refine ⟨(by show 3 ≤ sizeLine; decide), fun tt ntt => ?_⟩
    have ktt : kd ≠ tt := fun z => by rw [← z, hkd] at ntt; cases ntt
    have s6 := sameUpd (o := .tup [.ref sa2, .ref ma2, .ref kd]) (Same.refl H5) ntt
    have htt := @upd_same H5 tt (.tup [.ref sa2, .ref ma2, .ref kd])
    replace hsa2 := hsa2.mono fun _ z => s6 _ _ z
    replace hma2 := hma2.mono fun _ z => s6 _ _ z
    replace hkd := s6 _ _ hkd
    have s26 := s25.trans s6
    generalize upd H5 tt (.tup [.ref sa2, .ref ma2, .ref kd]) = H6 at *
    refine ⟨tt, _, rfl, SqT.of htt, rfl, _, _, rfl, _, _, rfl, _, _, rfl, rfl, ?_⟩
    obtain ⟨G, hG⟩ : ∃ G, G = (pl.signs.take 2).length := ⟨_, rfl⟩
    obtain ⟨M, hM⟩ : ∃ M, M = (pl.moods.take 2).length := ⟨_, rfl⟩
    rw [← hG, ← hM] at fin
    -- the frame: all but kd
    have fr : ∀ x o, x ≠ kd → H6 x = some o → cutH H6 [kd] x = some o := fun x o n e => by
      unfold cutH
      rw [if_neg (fun z => n (List.mem_singleton.mp z))]
      exact e
    have frS : Same H2 (cutH H6 [kd]) := fun x o e => fr x o (fun z => by rw [z, n2kd] at e; cases e) (s26 _ _ e)
    have fsa : TupN (cutH H6 [kd]) sa2 ((pl.signs.take 2).map sV) := hsa2.mono fun o z => fr _ _ (fun y => by rw [y, hkd] at z; cases z) z
    have fma : TupN (cutH H6 [kd]) ma2 ((pl.moods.take 2).map sV) := hma2.mono fun o z => fr _ _ (fun y => by rw [y, hkd] at z; cases z) z
    have fkd : cutH H6 [kd] kd = none := cutH_in (by simp)
    refine ⟨_, rfl, ma2, _, rfl, .inr hma2.sq, _, rfl, by omega, by rw [List.length_map]; omega, ?_⟩
    rw [List.length_map, ← hM]
    have h0 : cutH H6 [kd] = cutH H6 [kd] := rfl
    generalize hF : cutH H6 [kd] = F at *
    refine for_range (lo := 0) (n := ((M : Nat) : Int).toNat) (fun i σ H7 => ∃ (o8 o9 o10 o11 o12 : Option V) (kks : List (List Key × V)), σ = [some (.ref d), some (.int most), some (.ref sa2), some (.ref ma2), some (.ref fa), some (.ref ra), some (.ref rdA), some (.ref kd), o8, o9, o10, o11, o12] ∧
      Same F H7 ∧ H7 kd = some (.dT kks) ∧ Paired (RuleAt H7) (keptR G M pl.rules i) kks) ⟨_, _, _, _, _, [], rfl, by rw [← hF]; exact cutH_same, hkd, .nil⟩ ?_ ?_
    · rintro i σ H7 hi ⟨o8, o9, o10, o11, o12, kks, rfl, sm7, hk7, hp7⟩
      rw [Int.toNat_natCast] at hi
      rw [Int.zero_add]
      have hsaL : (pl.signs.take 2).length ≤ 2 := by omega
      have lenR : (keptR G M pl.rules i).length ≤ 4 := by
        have := inc_len (n := 4) (lo := 0) (l := (keptR G M pl.rules i).map fun kv => kv.1.1 * 2 + kv.1.2) ?_ ?_
        · rw [List.length_map] at this
          exact this
        · rw [List.pairwise_map]
          have hs := keptR_sorted G M pl.rules i
          rw [List.pairwise_map] at hs
          refine List.Pairwise.imp_of_mem (fun {a b} ha hb q => ?_) hs
          have := (keptR_mem ha).2.1
          have := (keptR_mem hb).2.1
          have q : a.1.1 < b.1.1 ∨ (a.1.1 = b.1.1 ∧ a.1.2 < b.1.2) := q
          omega
        · intro x hx
          obtain ⟨kv, hk, rfl⟩ := List.mem_map.mp hx
          have := (keptR_mem hk).2.1
          have := (keptR_mem hk).1
          omega
      refine ⟨_, rfl, sa2, _, rfl, .inr (fsa.mono fun _ z => sm7 _ _ z).sq, _, rfl, by omega, by rw [List.length_map]; omega, ?_⟩
      rw [List.length_map, ← hG]
      refine for_range (lo := 0) (n := ((G : Nat) : Int).toNat) (fun j σ H8 => ∃ (o9 o10 o11 o12 : Option V) (kks : List (List Key × V)), σ = [some (.ref d), some (.int most), some (.ref sa2), some (.ref ma2), some (.ref fa), some (.ref ra), some (.ref rdA), some (.ref kd), some (.int i), o9, o10, o11, o12] ∧
        Same F H8 ∧ H8 kd = some (.dT kks) ∧ Paired (RuleAt H8) (keptR G M pl.rules i ++ keptRow G M pl.rules i j) kks) ⟨_, _, _, _, kks, rfl, sm7, hk7, by simpa [keptRow] using hp7⟩ ?_ ?_
      · rintro j σ H8 hj ⟨o9, o10, o11, o12, kks, rfl, sm8, hk8, hp8⟩
        rw [Int.toNat_natCast] at hj
        rw [Int.zero_add]
        have e6' := sm8 _ _ (frS _ _ e6)
        have e7' : Paired (RuleAt H8) pl.rules kvs := Paired.mapP e7 fun _ _ q => q.mono fun b xs z => sm8 _ _ (frS _ _ z)
        refine ⟨_, rfl, _, rfl, (by show 2 ≤ sizeLine; decide), fun tk ntk => ?_⟩
        have s9 := sameUpd (o := .tup [.int (i : Nat), .int (j : Nat)]) (Same.refl H8) ntk
        have htk := @upd_same H8 tk (.tup [.int (i : Nat), .int (j : Nat)])
        replace sm8 := sm8.trans s9
        replace hk8 := s9 _ _ hk8
        replace hp8 := Paired.mapP hp8 fun _ _ q => RuleAt.mono (fun b xs z => s9 _ _ z) q
        replace e7' := Paired.mapP e7' fun _ _ q => RuleAt.mono (fun b xs z => s9 _ _ z) q
        replace e6' := s9 _ _ e6'
        generalize upd H8 tk (.tup [.int (i : Nat), .int (j : Nat)]) = H9 at *
        obtain ⟨g1, g2⟩ := rules_get (k := (i, j)) e7'
        refine ⟨_, rfl, rdA, _, rfl, DGet.t (k := keyT (i, j)) e6' htk, _, rfl, ?_⟩
        have lenW : (keptRow G M pl.rules i j).length ≤ 2 := by
          have hle : ∀ n, (keptRow G M pl.rules i n).length ≤ n := fun n => by
            induction n with
            | zero => simp [keptRow]
            | succ n ih =>
              rw [keptRow_succ, List.length_append]
              have : (keptOf G M pl.rules i n).length ≤ 1 := by unfold keptOf; split <;> simp
              omega
          have := hle j
          omega
        cases hget : getA pl.rules (i, j) with
        | none =>
          rw [g1 hget]
          refine iteF ?_
          have eK : keptOf G M pl.rules i j = [] := by unfold keptOf; rw [hget]
          exact ⟨_, _, _, _, kks, rfl, sm8, hk8, by rw [keptRow_succ, eK, List.append_nil]; exact hp8⟩
        | some r =>
          obtain ⟨t, g3, g4⟩ := g2 r hget
          rw [g3]
          refine iteT ?_
          have eK : keptOf G M pl.rules i j = [((i, j), ⟨r.left % G, r.move, r.later % M⟩)] := by unfold keptOf; rw [hget]
          refine ⟨_, rfl, _, rfl, _, rfl, (by show 2 ≤ sizeLine; decide), fun tk2 ntk2 => ?_⟩
          have s10 := sameUpd (o := .tup [.int (i : Nat), .int (j : Nat)]) (Same.refl H9) ntk2
          have htk2 := @upd_same H9 tk2 (.tup [.int (i : Nat), .int (j : Nat)])
          replace sm8 := sm8.trans s10
          replace hk8 := s10 _ _ hk8
          replace hp8 := Paired.mapP hp8 fun _ _ q => RuleAt.mono (fun b xs z => s10 _ _ z) q
          replace e6' := s10 _ _ e6'
          replace g4 := s10 _ _ g4
          generalize upd H9 tk2 (.tup [.int (i : Nat), .int (j : Nat)]) = H10 at *
          refine ⟨rdA, .ref t, rfl, by rw [← g3]; exact DGet.t (k := keyT (i, j)) e6' htk2, t, _, rfl, SqT.of g4, rfl, _, _, rfl, _, _, rfl, _, _, rfl, rfl, ?_⟩
          have fsa10 := fsa.mono fun _ z => sm8 _ _ z
          have fma10 := fma.mono fun _ z => sm8 _ _ z
          refine ⟨_, rfl, _, rfl, sa2, _, rfl, .inr fsa10.sq, _, _, rfl, rfl, by rw [List.length_map]; omega, ?_⟩
          rw [List.length_map, ← hG]
          refine ⟨_, rfl, _, rfl, _, rfl, ma2, _, rfl, .inr fma10.sq, _, _, rfl, rfl, by rw [List.length_map]; omega, ?_⟩
          rw [List.length_map, ← hM]
          have em1 : ((r.left : Nat) : Int) % ((G : Nat) : Int) = ((r.left % G : Nat) : Int) := (Int.natCast_emod _ _).symm
          have em2 : ((r.later : Nat) : Int) % ((M : Nat) : Int) = ((r.later % M : Nat) : Int) := (Int.natCast_emod _ _).symm
          refine ⟨(by show 3 ≤ sizeLine; decide), fun tv ntv => ?_⟩
          have s11 := sameUpd (o := .tup [.int (((r.left : Nat) : Int) % ((G : Nat) : Int)), sV r.move, .int (((r.later : Nat) : Int) % ((M : Nat) : Int))]) (Same.refl H10) ntv
          have htv := @upd_same H10 tv (.tup [.int (((r.left : Nat) : Int) % ((G : Nat) : Int)), sV r.move, .int (((r.later : Nat) : Int) % ((M : Nat) : Int))])
          replace sm8 := sm8.trans s11
          replace hk8 := s11 _ _ hk8
          replace hp8 := Paired.mapP hp8 fun _ _ q => RuleAt.mono (fun b xs z => s11 _ _ z) q
          generalize upd H10 tv (.tup [.int (((r.left : Nat) : Int) % ((G : Nat) : Int)), sV r.move, .int (((r.later : Nat) : Int) % ((M : Nat) : Int))]) = H11 at *
          replace htv : H11 tv = some (.tup [.int (r.left % G : Nat), sV r.move, .int (r.later % M : Nat)]) := by rw [htv, em1, em2]
          refine ⟨_, rfl, _, rfl, _, rfl, (by show 2 ≤ sizeLine; decide), fun tk3 ntk3 => ?_⟩
          have s12 := sameUpd (o := .tup [.int (i : Nat), .int (j : Nat)]) (Same.refl H11) ntk3
          have htk3 := @upd_same H11 tk3 (.tup [.int (i : Nat), .int (j : Nat)])
          replace sm8 := sm8.trans s12
          replace hk8 := s12 _ _ hk8
          replace htv := s12 _ _ htv
          replace hp8 := Paired.mapP hp8 fun _ _ q => RuleAt.mono (fun b xs z => s12 _ _ z) q
          generalize upd H11 tk3 (.tup [.int (i : Nat), .int (j : Nat)]) = H12 at *
          have hno : valV kks (keyT (i, j)) = none := by
            refine (rules_get (k := (i, j)) hp8).1 (getA_none fun q hq z => ?_)
            rcases List.mem_append.mp hq with y | y
            · have := (keptR_mem y).1
              rw [z] at this
              exact Nat.lt_irrefl _ this
            · obtain ⟨si, hs, y⟩ := keptRow_mem y
              have := (keptOf_mem y).1
              rw [z] at this
              injection this with _ e2
              omega
          have hkl := hp8.length
          rw [List.length_append] at hkl
          refine ⟨kd, _, rfl, DPut.t (k := keyT (i, j)) hk8 htk3 (by rw [sizeLine_eq]; omega), ?_⟩
          rw [putK_new _ hno]
          have kt := keepT (o' := .dT (kks ++ [(keyT (i, j), V.ref tv)])) hk8 (fun xs q => by cases q)
          refine ⟨_, _, _, _, _, rfl, sameUpd sm8 fkd, upd_same, ?_⟩
          rw [keptRow_succ, eK, ← List.append_assoc]
          exact paired_append (Paired.mapP hp8 fun _ _ q => RuleAt.mono (fun b xs z => kt _ _ z) q) (.cons ⟨rfl, tv, rfl, kt _ _ htv⟩ .nil)
      · rintro σ H8 ⟨o9, o10, o11, o12, kks, rfl, sm8, hk8, hp8⟩
        rw [Int.toNat_natCast, ← keptR_succ] at hp8
        exact ⟨_, _, _, _, _, kks, rfl, sm8, hk8, hp8⟩
    rintro σ H7 ⟨o8, o9, o10, o11, o12, kks, rfl, sm7, hk7, hp7⟩
    rw [Int.toNat_natCast] at hp7
    have hfa := sm7 _ _ (frS _ _ e3)
    have gs : 0 < G := by omega
    refine ⟨_, rfl, _, rfl, _, rfl, fa, rfl, ⟨_, SqT.of hfa⟩, fun D nD => ?_⟩
    have kD : kd ≠ D := fun z => by rw [← z, hk7] at nD; cases nD
    refine lc_tup (K := K) (a := fa) (xs := pl.floor.map fun n : Nat => V.int n) (fun i H8 => Same H7 H8 ∧ H8 D = some (.lst ((pl.floor.take i).map fun n : Nat => V.int (n % G : Nat)))) ⟨sameUpd (Same.refl H7) nD, upd_same⟩ (fun i H8 _ ⟨sm, _⟩ => SqT.of (sm _ _ hfa)) ?_ ?_
    · rintro i x H8 hx ⟨sm, hD⟩
      rw [List.getElem?_map] at hx
      cases hai : pl.floor[i]? with
      | none => rw [hai] at hx; cases hx
      | some ai =>
        rw [hai] at hx
        cases hx
        have fsa8 := fsa.mono fun _ z => sm _ _ (sm7 _ _ z)
        refine ⟨rfl, _, rfl, _, rfl, sa2, _, rfl, .inr fsa8.sq, _, _, rfl, rfl, by rw [List.length_map]; omega, ?_⟩
        refine ⟨_, hD, by rw [List.length_map, List.length_take, sizeLine_eq]; omega, sameUpd sm nD, ?_⟩
        rw [upd_same, List.length_map, ← hG, List.take_succ (l := pl.floor), hai, List.map_append]
        rfl
    rintro H8 ⟨s8, hD⟩
    rw [List.length_map, List.take_length] at hD
    refine ⟨D, _, rfl, .inl ⟨SqL.of hD, fun fa2 nfa2 => ?_⟩⟩
    have eF : ((pl.floor.map fun n : Nat => V.int (n % G : Nat))) = (pl.floor.map (· % G)).map fun n : Nat => V.int n := by rw [List.map_map]; rfl
    rw [eF]
    have s9 := sameUpd (o := .tup ((pl.floor.map (· % G)).map fun n : Nat => V.int n)) (Same.refl H8) nfa2
    have hfa2 := @upd_same H8 fa2 (.tup ((pl.floor.map (· % G)).map fun n : Nat => V.int n))
    have s79 := s8.trans s9
    generalize upd H8 fa2 (.tup ((pl.floor.map (· % G)).map fun n : Nat => V.int n)) = H9 at *
    have sF9 := sm7.trans s79
    have s29 := frS.trans sF9
    have hk9 := s79 _ _ hk7
    have hp9 : Paired (RuleAt H9) (keptR G M pl.rules M) kks := Paired.mapP hp7 fun _ _ q => RuleAt.mono (fun b xs z => s79 _ _ z) q
    have last : ∀ (ra2 : Addr) (H10 : Hp), Same H9 H10 → H10 ra2 = some (.tup ((ras.take 2).map V.ref)) → ∀ t, H10 t = none → Q (.ref t) (upd H10 t (.tup [.ref sa2, .ref ma2, .ref fa2, .ref ra2, .ref kd])) := fun ra2 H10 s10 hra2 t nt => by
      have s11 := sameUpd (o := .tup [.ref sa2, .ref ma2, .ref fa2, .ref ra2, .ref kd]) (Same.refl H10) nt
      have sX := s10.trans s11
      have s2X := s29.trans sX
      refine fin t _ s2X ((s29.trans s10).free nt) ⟨sa2, ma2, fa2, ra2, kd, ras.take 2, upd_same, fsa.mono fun _ z => sX _ _ (sF9 _ _ z), fma.mono fun _ z => sX _ _ (sF9 _ _ z), sX _ _ hfa2, s11 _ _ hra2, ?_, kks, sX _ _ hk9, Paired.mapP hp9 fun _ _ q => RuleAt.mono (fun b xs z => sX _ _ z) q⟩
      exact Paired_take (Paired.mapP e5 fun _ _ q => s2X _ _ q) 2
    refine ⟨_, rfl, _, rfl, ra, _, rfl, SqT.of (s29 _ _ e4), fun hwh => ?_, fun hwh ra2 nra2 => ?_⟩
    · have e2 : ras.take 2 = ras := by
        have h2 := hwh.2
        rw [show (some (2 : Int)) = some ((2 : Nat) : Int) from rfl, HT.sIx_nat, List.length_map] at h2
        exact List.take_of_length_le (by omega)
      refine ⟨_, rfl, (by show 5 ≤ sizeLine; decide), fun t nt => ?_⟩
      exact last ra H9 (Same.refl _) (by rw [e2]; exact s29 _ _ e4) t nt
    · have cr : cutV (ras.map V.ref) none (some 2) = (ras.take 2).map V.ref := (cut_takeB 2).trans List.map_take.symm
      rw [cr]
      refine ⟨_, rfl, (by show 5 ≤ sizeLine; decide), fun t nt => ?_⟩
      exact last ra2 _ (sameUpd (Same.refl H9) nra2) upd_same t nt
theorem ok_sho (T : ShoT K mg) : FnE P w K mg base CX0 4 ("_law_short", none) ["_law_d", "_law_most"] spShort :=
  (ok_shoB T).impJ fun vs H Q E ⟨d, most, e, h1, h2, h3, k⟩ => ⟨d, most, e, h1, h2, h3, fun a H' pl a1 a2 a3 a4 a5 _ a7 a8 => k a H' pl a1 a2 a3 a4 a5 a7 a8⟩
end
end Sw

end

section
set_option maxRecDepth 100000
set_option maxHeartbeats 4000000
/-! the law's own: some tick -/
namespace Sw
open PySem PySem.Spec PyProof.Rows L2 SwA
structure SomT (K : PySem.W.Frag) (mg : Str → Option Value) : Prop where
  l : LawT K mg
  some : DeT K mg "_law_some_tick" s__law_some_tick
section
variable {P : Program} {w : World} {K : PySem.W.Frag} {mg : Str → Option Value} {base : Heap}
def spSome : Sp := fun vs H Q _ => ∃ (d : Addr), vs = [.ref d] ∧ DrawAt H d ∧ ∀ (t : Nat) (H' : Hp), t ≤ 1000000000000000000 → (t < 99 ∨ 999999999999000000 ≤ t) → Drawn d H H' → Q (.int t) H'
theorem sc_som : FnScope ["_law_d"] ["_law_d"] (defScope s__law_some_tick) := ⟨rfl, rfl, rfl, by decide +kernel, rfl, by decide +kernel, by decide +kernel⟩
theorem ok_som (T : SomT K mg) : FnE P w K mg base CX0 2 ("_law_some_tick", none) ["_law_d"] spSome := by
  obtain ⟨fd, F⟩ := T.some.d
  obtain ⟨fdB, GB, bB, kB⟩ := ok_below (P := P) (w := w) (base := base) T.l
  refine ⟨fd, F.ok sc_som (fun vs H Q E h => ?_) (fun cdv A outer s H vs Q E hr h => ?_), F.bindsN fun _ _ _ _ _ _ us hl => match us, hl with | [_], _ => rfl, F.kp⟩
  · obtain ⟨d, rfl, _⟩ := h
    rfl
  · obtain ⟨d, rfl, hd, k⟩ := h
    have hr1 : Room 1 _ := hr.mono (by decide)
    refine ⟨_, PSs.nox (pss_one (ps_ret (pe_ix ix_list (pe_lst (pa_cons (pe_call GB hr1 rfl T.l.below.g kB bB .nil pass0 (pa_cons (pv 0) (pa_cons pe_int pa_nil))) (pa_cons (pe_op op_sub (pe_op op_pow pe_int pe_int) (pe_call GB hr1 rfl T.l.below.g kB bB .nil pass0 (pa_cons (pv 0) (pa_cons (pe_op op_pow pe_int pe_int) pa_nil)))) pa_nil))) (pe_call GB hr1 rfl T.l.below.g kB bB .nil pass0 (pa_cons (pv 0) (pa_cons pe_int pa_nil))) (fun _ _ => rfl)))), ?_⟩
    refine ⟨_, rfl, d, 99, rfl, hd, by decide, by decide, fun r1 s1 c1 b1 h1 l1 => ?_⟩
    have d1 : Drawn d H (upd H d (drawL s1 c1 b1)) := (Drawn.refl hd).draw l1
    generalize upd H d (drawL s1 c1 b1) = H1 at *
    refine ⟨_, _, rfl, rfl, ⟨by decide, by decide, by decide⟩, ?_⟩
    refine ⟨_, rfl, _, _, rfl, rfl, ⟨by decide, by decide, by decide⟩, ?_⟩
    refine ⟨d, 1000000, rfl, d1.at_, by decide, by decide, fun r2 s2 c2 b2 h2 l2 => ?_⟩
    have d2 : Drawn d H1 (upd H1 d (drawL s2 c2 b2)) := (Drawn.refl d1.at_).draw l2
    have d02 := d1.trans d2
    generalize upd H1 d (drawL s2 c2 b2) = H2 at *
    refine ⟨_, _, rfl, rfl, (by show 2 ≤ sizeLine; decide), fun q nq => ?_⟩
    have e18 : (10 : Int) ^ (18 : Int).toNat = 1000000000000000000 := by decide
    have dq : q ≠ d := fun z => by
      obtain ⟨_, _, _, _, e⟩ := d02.at_
      rw [← z, nq] at e
      cases e
    have d3 := d02.new (o := .lst [V.int r1, V.int ((10 : Int) ^ (18 : Int).toNat - (r2 : Int))]) nq
    have hq := @upd_same H2 q (.lst [V.int r1, V.int ((10 : Int) ^ (18 : Int).toNat - (r2 : Int))])
    generalize upd H2 q (.lst [V.int r1, V.int ((10 : Int) ^ (18 : Int).toNat - (r2 : Int))]) = H3 at *
    refine ⟨_, rfl, d, 2, rfl, d3.at_, by decide, by decide, fun r3 s3 c3 b3 h3 l3 => ?_⟩
    have d4 : Drawn d H (upd H3 d (drawL s3 c3 b3)) := d3.draw l3
    have hq2 : (upd H3 d (drawL s3 c3 b3)) q = _ := (upd_ne dq).trans hq
    generalize upd H3 d (drawL s3 c3 b3) = H4 at *
    match r3, h3 with
    | 0, _ => exact ⟨q, _, _, _, rfl, rfl, SqL.of hq2, atI_nat (j := 0) rfl, k r1 H4 (by omega) (.inl h1) d4⟩
    | 1, _ =>
      refine ⟨q, _, _, _, rfl, rfl, SqL.of hq2, atI_nat (j := 1) rfl, ?_⟩
      have e : (10 : Int) ^ (18 : Int).toNat - (r2 : Int) = ((1000000000000000000 - r2 : Nat) : Int) := by rw [e18]; omega
      rw [e]
      exact k _ H4 (by omega) (.inr (by omega)) d4
end
end Sw

end

section
set_option maxRecDepth 100000
set_option maxHeartbeats 4000000
/-! sweeps one after another: plain -/
namespace Sw
open PySem PySem.Spec PyProof.Rows L2 SwA
theorem ticksOf_mem {pl : Plan} {tile m x : Nat} : x ∈ ticksOf pl tile m ↔ x < m ∧ tile ∈ (tkN pl x).swept := by
  unfold ticksOf
  rw [List.mem_filter, List.mem_range, decide_eq_true_eq]
theorem ticksOf_rise (pl : Plan) (tile m : Nat) : (ticksOf pl tile m).Pairwise (· < ·) := List.pairwise_lt_range.filter _
theorem ticksOf_le (pl : Plan) (tile m : Nat) : (ticksOf pl tile m).length ≤ m := by
  have := List.length_filter_le (fun t => decide (tile ∈ (tkN pl t).swept)) (List.range m)
  rw [List.length_range] at this
  exact this
theorem NextSw.unique {pl : Plan} {tile t : Nat} : ∀ {r r' : Option Nat}, NextSw pl tile t r → NextSw pl tile t r' → r = r'
  | none, none, _, _ => rfl
  | some u, none, ⟨h1, h2, _⟩, g => absurd h2 (g u h1)
  | none, some u, g, ⟨h1, h2, _⟩ => absurd h2 (g u h1)
  | some u, some v, ⟨h1, h2, h3⟩, ⟨g1, g2, g3⟩ => by
    rcases Nat.lt_trichotomy u v with z | z | z
    · exact absurd h2 (g3 u h1 z)
    · rw [z]
    · exact absurd g2 (h3 v g1 z)
/-- the next of the rising list -/
theorem next_idx {pl : Plan} {tile m t i : Nat} {r : Option Nat} (h : NextSw pl tile t r) (h1 : ∀ x ∈ (ticksOf pl tile m).take i, x < t) (h2 : ∀ x ∈ (ticksOf pl tile m).drop i, t ≤ x) :
    (∀ u, r = some u → u < m → (ticksOf pl tile m)[i]? = some u) ∧ ((∀ u, r = some u → m ≤ u) → (ticksOf pl tile m)[i]? = none) := by
  have hr := ticksOf_rise pl tile m
  have hm : ∀ x, x ∈ ticksOf pl tile m ↔ x < m ∧ tile ∈ (tkN pl x).swept := fun x => ticksOf_mem
  generalize ticksOf pl tile m = L at *
  constructor
  · rintro u rfl hu
    obtain ⟨g1, g2, g3⟩ := h
    have hin := (hm u).mpr ⟨hu, g2⟩
    rw [← List.take_append_drop i L] at hin
    rcases List.mem_append.mp hin with z | z
    · have := h1 u z
      omega
    · cases hd : L.drop i with
      | nil => rw [hd] at z; cases z
      | cons x xs =>
        have hx : L[i]? = some x := by
          have := congrArg (·[0]?) hd
          simpa using this
        rw [hd] at z h2
        have hxL : x ∈ L := List.mem_of_getElem? hx
        have hp : (x :: xs).Pairwise (· < ·) := hd ▸ hr.sublist (List.drop_sublist i L)
        have e : x = u := by
          rcases List.mem_cons.mp z with z | z
          · exact z.symm
          · have h5 := (List.pairwise_cons.mp hp).1 u z
            exact absurd ((hm x).mp hxL).2 (g3 x (h2 x List.mem_cons_self) h5)
        rw [hx, e]
  · intro hno
    cases hx : L[i]? with
    | none => rfl
    | some x =>
      have hxL := (hm x).mp (List.mem_of_getElem? hx)
      have hxd : x ∈ L.drop i := by
        have : (L.drop i)[0]? = some x := by simpa using hx
        exact List.mem_of_getElem? this
      have htx := h2 x hxd
      cases r with
      | none => exact absurd hxL.2 (h x htx)
      | some u =>
        obtain ⟨g1, g2, g3⟩ := h
        have := hno u rfl
        exact absurd hxL.2 (g3 x htx (by omega))
theorem rise_take {L : List Nat} (hp : L.Pairwise (· < ·)) {i u : Nat} (h : L[i]? = some u) : (∀ x ∈ L.take (i + 1), x < u + 1) ∧ (∀ x ∈ L.drop (i + 1), u + 1 ≤ x) := by
  constructor
  · intro x hx
    obtain ⟨j, hj, e⟩ := List.mem_take_iff_getElem.mp hx
    obtain ⟨hi, e2⟩ := List.getElem?_eq_some_iff.mp h
    rcases Nat.lt_or_ge j i with z | z
    · have := List.pairwise_iff_getElem.mp hp j i (by omega) hi z
      omega
    · have : j = i := by omega
      subst this
      omega
  · intro x hx
    obtain ⟨j, hj, e⟩ := List.mem_drop_iff_getElem.mp hx
    obtain ⟨hi, e2⟩ := List.getElem?_eq_some_iff.mp h
    have := List.pairwise_iff_getElem.mp hp i (i + 1 + j) hi (by omega) (by omega)
    have e3 : L[i + 1 + j] = x := by first | exact e | (rw [← e]; congr 1)
    omega
/-! the best of some waits -/
theorem best_some : ∀ {l : List Wt} {b : Option Wt} {x : Wt}, bestW b l = some x → (b = some x ∨ x ∈ l) ∧ (∀ y, b = some y → y.1 ≤ x.1) ∧ ∀ y ∈ l, y.1 ≤ x.1
  | [], b, x, h => ⟨.inl h, fun y e => by
      have h : b = some x := h
      rw [h] at e
      cases e
      exact Nat.le_refl _, (fun y hy => nomatch hy)⟩
  | a :: l, b, x, h => by
    have h : bestW (bestStep b a) l = some x := h
    obtain ⟨h1, h2, h3⟩ := best_some h
    cases b with
    | none =>
      refine ⟨.inr ?_, (fun y e => by cases e), fun y hy => ?_⟩
      · rcases h1 with z | z
        · cases z
          exact List.mem_cons_self
        · exact List.mem_cons_of_mem _ z
      · rcases List.mem_cons.mp hy with z | z
        · rw [z]
          exact h2 a rfl
        · exact h3 y z
    | some c =>
      by_cases hlt : c.1 < a.1
      · have e : bestStep (some c) a = some a := if_pos hlt
        rw [e] at h1 h2
        have h4 := h2 a rfl
        refine ⟨.inr ?_, fun y q => ?_, fun y hy => ?_⟩
        · rcases h1 with z | z
          · cases z
            exact List.mem_cons_self
          · exact List.mem_cons_of_mem _ z
        · cases q
          omega
        · rcases List.mem_cons.mp hy with z | z
          · rw [z]
            exact h4
          · exact h3 y z
      · have e : bestStep (some c) a = some c := if_neg hlt
        rw [e] at h1 h2
        have h4 := h2 c rfl
        refine ⟨?_, fun y q => ?_, fun y hy => ?_⟩
        · rcases h1 with z | z
          · exact .inl z
          · exact .inr (List.mem_cons_of_mem _ z)
        · cases q
          exact h4
        · rcases List.mem_cons.mp hy with z | z
          · rw [z]
            omega
          · exact h3 y z
theorem best_ne : ∀ {l : List Wt} {a : Wt}, bestW (some a) l ≠ none
  | [], a, h => nomatch h
  | c :: l, a, h => by
    have h : bestW (bestStep (some a) c) l = none := h
    by_cases hlt : a.1 < c.1
    · rw [show bestStep (some a) c = some c from if_pos hlt] at h
      exact best_ne h
    · rw [show bestStep (some a) c = some a from if_neg hlt] at h
      exact best_ne h
theorem best_none : ∀ {l : List Wt}, bestW none l = none → l = []
  | [], _ => rfl
  | a :: l, h => absurd h (best_ne (l := l) (a := a))
theorem gaps_take : ∀ (l : List Nat) (j : Nat), gaps (l.take j) = (gaps l).take (j - 1)
  | [], j => by simp [gaps]
  | [x], 0 => by simp [gaps]
  | [x], j + 1 => by simp [gaps]
  | a :: b :: r, 0 => by simp [gaps]
  | a :: b :: r, 1 => by simp [gaps]
  | a :: b :: r, j + 2 => by
    have := gaps_take (b :: r) (j + 1)
    simp only [List.take_succ_cons, gaps, Nat.add_sub_cancel] at this ⊢
    rw [this]
    rfl
theorem gaps_mem : ∀ {l : List Nat} {q : Nat × Nat}, q ∈ gaps l → ∃ j b, l[j]? = some q.2 ∧ l[j + 1]? = some b ∧ q.1 = b - q.2
  | [], q, h => by simp [gaps] at h
  | [x], q, h => by simp [gaps] at h
  | a :: b :: r, q, h => by
    rcases List.mem_cons.mp h with z | z
    · subst z
      exact ⟨0, b, rfl, rfl, rfl⟩
    · obtain ⟨j, c, h1, h2, h3⟩ := gaps_mem z
      exact ⟨j + 1, c, by simpa using h1, by simpa using h2, h3⟩
/-- the waits among the first so many sweeps -/
def waitsK (pl : Plan) (tile m j : Nat) : List Wt := (gaps ((ticksOf pl tile m).take j)).map fun g => (g.1, tile, g.2)
def allK (pl : Plan) (k m j : Nat) : List Wt := (List.range k).flatMap fun tile => waitsK pl tile m j
theorem allK_succ (pl : Plan) (k m j : Nat) : allK pl (k + 1) m j = allK pl k m j ++ waitsK pl k m j := by
  unfold allK
  rw [List.range_succ, List.flatMap_append]
  simp
theorem allK_sub {pl : Plan} {k m j : Nat} {x : Wt} (h : x ∈ allK pl k m j) : x ∈ allW pl k m := by
  obtain ⟨tile, ht, h⟩ := List.mem_flatMap.mp h
  refine List.mem_flatMap.mpr ⟨tile, ht, ?_⟩
  obtain ⟨g, hg, rfl⟩ := List.mem_map.mp h
  rw [gaps_take] at hg
  exact List.mem_map.mpr ⟨g, List.mem_of_mem_take hg, rfl⟩
theorem allK_eq {pl : Plan} {k m j : Nat} (h : m ≤ j) : allK pl k m j = allW pl k m := by
  unfold allK allW
  congr 1
  funext tile
  unfold waitsK waitsOf
  rw [List.take_of_length_le (Nat.le_trans (ticksOf_le pl tile m) h)]
/-- neighbours in the rising list -/
theorem idx_next {pl : Plan} {tile m j a b : Nat} (ha : (ticksOf pl tile m)[j]? = some a) (hb : (ticksOf pl tile m)[j + 1]? = some b) :
    a < b ∧ b < m ∧ NextSw pl tile a (some a) ∧ NextSw pl tile (a + 1) (some b) := by
  have hr := ticksOf_rise pl tile m
  have hma := ticksOf_mem.mp (List.mem_of_getElem? ha)
  have hmb := ticksOf_mem.mp (List.mem_of_getElem? hb)
  obtain ⟨h1, e1⟩ := List.getElem?_eq_some_iff.mp ha
  obtain ⟨h2, e2⟩ := List.getElem?_eq_some_iff.mp hb
  have hlt : a < b := by
    have := List.pairwise_iff_getElem.mp hr j (j + 1) h1 h2 (by omega)
    omega
  refine ⟨hlt, hmb.1, ⟨Nat.le_refl _, hma.2, fun v g1 g2 => by omega⟩, hlt, hmb.2, fun v g1 g2 g3 => ?_⟩
  obtain ⟨i, hi, e⟩ := List.mem_iff_getElem.mp (ticksOf_mem.mpr (show v < m ∧ tile ∈ (tkN pl v).swept from ⟨by omega, g3⟩))
  rcases Nat.lt_or_ge i (j + 1) with z | z
  · rcases Nat.lt_or_ge i j with z | z
    · have := List.pairwise_iff_getElem.mp hr i j hi h1 z
      omega
    · have : i = j := by omega
      subst this
      omega
  · rcases Nat.lt_or_ge (j + 1) i with z2 | z2
    · have := List.pairwise_iff_getElem.mp hr (j + 1) i h2 hi z2
      omega
    · have : i = j + 1 := by omega
      subst this
      omega
theorem allW_mem {pl : Plan} {k m : Nat} {x : Wt} (h : x ∈ allW pl k m) : x.2.1 < k ∧ NextSw pl x.2.1 x.2.2 (some x.2.2) ∧ NextSw pl x.2.1 (x.2.2 + 1) (some (x.2.2 + x.1)) ∧ x.2.2 + x.1 < m := by
  obtain ⟨tile, ht, h⟩ := List.mem_flatMap.mp h
  obtain ⟨g, hg, rfl⟩ := List.mem_map.mp h
  obtain ⟨j, b, h1, h2, h3⟩ := gaps_mem hg
  obtain ⟨h4, h5, h6, h7⟩ := idx_next h1 h2
  refine ⟨List.mem_range.mp ht, h6, ?_, ?_⟩
  · show NextSw pl tile (g.2 + 1) (some (g.2 + g.1))
    rw [show g.2 + g.1 = b by omega]
    exact h7
  · show g.2 + g.1 < m
    omega
theorem cnt_gap {pl : Plan} {meas : TickM → Nat} {a : Nat} : ∀ {b : Nat}, a ≤ b → (∀ v, a ≤ v → v < b → meas (tkN pl v) = 0) → cntN pl meas b = cntN pl meas a
  | 0, h, _ => by rw [show a = 0 by omega]
  | b + 1, h, g => by
    rcases Nat.lt_or_ge b a with z | z
    · rw [show b + 1 = a by omega]
    · rw [cnt_succ, cnt_gap z fun v h1 h2 => g v h1 (by omega), g b z (by omega)]
      rfl
end Sw

end

section
set_option maxRecDepth 100000
set_option maxHeartbeats 4000000
/-! a plan's own text is read as the plan -/
namespace Sw
open PySem PySem.Spec PyProof.Rows L2 SwA
theorem reads_text {pl : Plan} (wf : WfP pl) (so : SortedR pl.rules) : Reads (textOf pl) pl := by
  obtain ⟨s, h1, h2, h3⟩ := loads_text wf
  exact ⟨Nat.le_trans (text_len wf so).2 (by decide), _, s, h1, h2, h3⟩
end Sw

end

section
set_option maxRecDepth 100000
set_option maxHeartbeats 4000000
/-! a law's heap where a lambda is made: numbers, plans, tables -/
namespace Sw
open PySem PySem.Spec PyProof.Rows L2 SwA LamX
theorem DrawAt.ext {H H' : Hp} {d : Addr} (h : DrawAt H d) (e : ExtN H H') : DrawAt H' d := let ⟨a, b, c, l, q⟩ := h; ⟨a, b, c, l, e _ _ q (by intro ps z; cases z)⟩
theorem PlanV.ext {H H' : Hp} {a : Addr} {pl : Plan} (h : PlanV H a pl) (x : ExtN H H') : PlanV H' a pl := by
  have k : ∀ {x : Addr} {o : HO}, H x = some o → (∀ ps, o ≠ .tbl ps) → H' x = some o := fun h n => x _ _ h n
  obtain ⟨sa, ma, fa, ra, rd, ras, e1, e2, e3, e4, e5, e6, kvs, e7, e8⟩ := h
  exact ⟨sa, ma, fa, ra, rd, ras, k e1 (by simp), e2.mono fun _ z => k z (by simp), e3.mono fun _ z => k z (by simp), k e4 (by simp), k e5 (by simp), Paired.mapP e6 fun _ _ q => k q (by simp), kvs, k e7 (by simp), Paired.mapP e8 fun _ _ q => q.mono fun _ _ z => k z (by simp)⟩
section
variable {H H' : Hp}
theorem tabs_kp {T : List (Addr × Str)} (t : Tabs T H) (e : ∀ b o, H b = some o → (∀ xs, o ≠ .lst xs) → H' b = some o) : Tabs T H' := fun p hp => by
  obtain ⟨ps, h1, h2, h3⟩ := t p hp
  refine ⟨ps, e _ _ h1 (by simp), h2, fun pos cv hc => ?_⟩
  obtain ⟨c, e1, e2⟩ := h3 pos cv hc
  exact ⟨c, e1, e _ _ e2 (fun xs z => by unfold CodeO at z; cases z)⟩
theorem tabs_drawn {T : List (Addr × Str)} {d : Addr} (hd : DrawAt H d) (dr : Drawn d H H') (t : Tabs T H) : Tabs T H' := tabs_kp t fun b o q n => dr.same _ _ (hd.not q n) q
end
end Sw

end

section
set_option maxRecDepth 100000
set_option maxHeartbeats 4000000
/-! stores beside tables -/
namespace Sw
open PySem PySem.Spec PyProof.Rows L2 SwA LamX
theorem extPut {H H' : Hp} {D : Addr} {o : HO} (e : ExtN H H') (nD : H D = none) : ExtN H (upd H' D o) := fun b ob q n => by
  rw [upd_ne (fun z => by rw [z, nD] at q; cases q)]
  exact e b ob q n
theorem tabs_put {T : List (Addr × Str)} {H : Hp} {D : Addr} {xs : List V} {o : HO} (hD : H D = some (.lst xs)) (t : Tabs T H) : Tabs T (upd H D o) := tabs_kp t fun b ob q n => by
  rw [upd_ne (fun z => by rw [z, hD] at q; cases q; exact n _ rfl)]
  exact q
/-- a code object is no dict -/
theorem code_ne {P : Program} {w : World} {c : Addr} {q : Str} {kvs : List KvN} : CodeO c q ≠ DNo P w c kvs := fun e => by
  unfold CodeO DNo at e
  have e := HO.ext.inj e
  let ob : Obj := { cls := .none, data := .fields #[.none, .str q 0] }
  let h0 : Heap := { objs := (List.replicate (c + 1) ob).toArray }
  have hg : h0.get? c = some ob := by
    have : h0.objs[c]? = some ob := by
      show (List.replicate (c + 1) ob).toArray[c]? = some ob
      simp
    unfold Heap.get?
    rw [this]
  have h1 := iff_of_eq (congrFun e h0)
  have h2 := h1.mp ⟨ob, _, 0, hg, rfl, rfl⟩
  obtain ⟨_, _, xs, _, o, es, ep, g1, _, g2, _⟩ := h2
  rw [hg] at g1
  cases g1
  cases g2
/-- the dict is stored anew -/
theorem tabs_putD {P : Program} {w : World} {T : List (Addr × Str)} {H : Hp} {fd : Addr} {kvs : List KvN} {o : HO} (hf : H fd = some (DNo P w fd kvs)) (t : Tabs T H) : Tabs T (upd H fd o) := fun p hp => by
  obtain ⟨ps, h1, h2, h3⟩ := t p hp
  refine ⟨ps, (upd_ne fun z => by rw [z, hf] at h1; cases h1).trans h1, h2, fun pos cv hc => ?_⟩
  obtain ⟨c, e1, e2⟩ := h3 pos cv hc
  exact ⟨c, e1, (upd_ne fun z => by rw [z, hf] at e2; exact code_ne (Option.some.inj e2).symm).trans e2⟩
theorem dec_oV9 (r : Option Nat) : decide (oV r = V.non) = decide (r = none) := by
  cases r with
  | none => rfl
  | some u => rw [decide_eq_false (fun z => nomatch z), decide_eq_false (fun z => nomatch z)]
end Sw

end

section
set_option maxRecDepth 100000
set_option maxHeartbeats 4000000
/-! k06: the law -/
namespace Sw
open PySem PySem.Spec PyProof.Rows L2 SwA LamX
structure L06T (K : PySem.W.Frag) (w : World) (mg : Str → Option Value) : Prop where
  sh : ShoT K mg
  cy : CycT K mg
  las : LasT K mg
  som : SomT K mg
  eq : EquT K mg
  rk : RkT K mg
  sfe : SfeT K mg
  nev : NevT K mg
  cs : CntT K mg
  nx : NxT K mg
  lw : LwT K mg
  lg : LgT K mg
  su : SuT K mg
/-- what the set of words says -/
theorem rest_set {pl : Plan} (wf : WfP pl) (t cc : Nat) (hN : NumS (fun i => ((tkN pl t).words.map sx).getD i Str.empty) ((tkN pl t).words.map sx).length cc) {r : Bool} {S : Str → Bool} {z : Str} (ez : z = sx wRest)
    (hS : ∀ k, S k = true ↔ k ∈ (List.range ((tkN pl t).words.map sx).length).map fun i => ((tkN pl t).words.map sx).getD i Str.empty)
    (h1 : cc ≠ 1 → r = false) (h2 : ∀ k, cc = 1 → S k = true → r = decide (k = z)) : r = (tkN pl t).words.all fun z => decide (z = wRest) := by
  subst ez
  have hl : (tkN pl t).words.length = pl.robots.length := tk_wl pl wf.rt t
  have h1r : pl.robots.length ≠ 0 := fun z => wf.r1 (List.length_eq_zero_iff.mp z)
  generalize (tkN pl t).words = ws at *
  have hv : ∀ j, j < ws.length → (ws.map sx).getD j Str.empty = sx (ws.getD j []) := fun j hj => by
    rw [List.getD_eq_getElem?_getD, List.getD_eq_getElem?_getD, List.getElem?_map, List.getElem?_eq_getElem hj]
    rfl
  rw [List.length_map] at hN hS
  by_cases hc : cc = 1
  · have h0 := h2 ((ws.map sx).getD 0 Str.empty) hc ((hS _).mpr (List.mem_map.mpr ⟨0, List.mem_range.mpr (by omega), rfl⟩))
    rw [hv 0 (by omega)] at h0
    rw [h0]
    by_cases hw : sx (ws.getD 0 []) = sx wRest
    · rw [decide_eq_true hw]
      refine (List.all_eq_true.mpr fun x hx => ?_).symm
      obtain ⟨j, hj⟩ := List.mem_iff_getElem?.mp hx
      have hjl := (List.getElem?_eq_some_iff.mp hj).1
      have e := hN.al hc j hjl
      try dsimp only at e
      rw [hv j hjl, hv 0 (by omega), hw, List.getD_eq_getElem?_getD, hj] at e
      exact decide_eq_true (sx_inj e)
    · rw [decide_eq_false hw]
      refine (Bool.eq_false_iff.mpr fun q => hw ?_).symm
      have := List.all_eq_true.mp q (ws.getD 0 []) (by
        rw [List.getD_eq_getElem?_getD, List.getElem?_eq_getElem (by omega)]
        exact List.getElem_mem _)
      rw [of_decide_eq_true this]
  · rw [h1 hc]
    refine (Bool.eq_false_iff.mpr fun q => ?_).symm
    have hp := hN.po (by omega)
    have hb := hN.ba fun j hj => by
      have f : ∀ i, i < ws.length → ws.getD i [] = wRest := fun i hi => by
        have := List.all_eq_true.mp q (ws.getD i []) (by
          rw [List.getD_eq_getElem?_getD, List.getElem?_eq_getElem hi]
          exact List.getElem_mem _)
        exact of_decide_eq_true this
      try dsimp only
      rw [hv j hj, hv 0 (by omega), f j hj, f 0 (by omega)]
    omega
/-- the tiles that are not swept in the first n ticks -/
def seenL (pl : Plan) (n j : Nat) : List Nat := (List.range j).filter fun k => decide (∀ u, u < n → k ∉ (tkN pl u).swept)
theorem seenL_succ (pl : Plan) (n j : Nat) : seenL pl n (j + 1) = seenL pl n j ++ if (∀ u, u < n → j ∉ (tkN pl u).swept) then [j] else [] := by
  have e : ∀ p : Nat → Bool, [j].filter p = if p j = true then [j] else [] := fun p => by cases h : p j <;> simp [h]
  unfold seenL
  rw [List.range_succ, List.filter_append, e]
  congr 1
  by_cases z : ∀ u, u < n → j ∉ (tkN pl u).swept
  · rw [if_pos z, if_pos (decide_eq_true z)]
  · rw [if_neg z, if_neg (by simpa using z)]
theorem seenL_len (pl : Plan) (n j : Nat) : (seenL pl n j).length ≤ j := by
  have := List.length_filter_le (fun k => decide (∀ u, u < n → k ∉ (tkN pl u).swept)) (List.range j)
  rw [List.length_range] at this
  exact this
theorem seenL_nev {pl : Plan} {n s : Nat} (h : Rep (stN pl) n s) : Nevers pl (seenL pl n pl.floor.length) := by
  refine ⟨List.pairwise_lt_range.filter _, fun k => ?_⟩
  unfold seenL
  rw [List.mem_filter, List.mem_range, decide_eq_true_eq]
  exact and_congr_right fun _ => ⟨fun q u => by
    rw [← tk_fold h u]
    exact q _ (foldT_lt h.lt), fun q u _ => q u⟩
theorem flats6 {H : Hp} {n : Nat} : ∀ {xs : List Nat}, Paired (EqD H n) (xs.map fun n : Nat => V.int n) (xs.map fun n : Nat => V.int n)
  | [] => .nil
  | x :: xs => .cons (by
      cases n with
      | zero => exact ⟨rfl, _, .int _⟩
      | succ n => exact .inl ⟨rfl, _, .int _⟩) flats6
theorem flatO {r : Option Nat} : ∃ t, Flat (oV r) t := by
  cases r with
  | none => exact ⟨_, .non⟩
  | some u => exact ⟨_, .int _⟩
theorem notL6 {H : Hp} {D b : Addr} {xs : List V} {o u : HO} (h : H D = some (.lst xs)) (e : H b = some u) (n : ∀ ys, u ≠ .lst ys) : upd H D o b = some u := (upd_ne fun z => by
  rw [z, h] at e
  exact n xs (by injection e with e; exact e.symm)).trans e
theorem LCyc.day {ok : Addr → Prop} {H : Hp} {c fl ai : Addr} {das : List Addr} {pl : Plan} {n s i : Nat} (h : LCyc ok H c pl n s) (g1 : H c = some (.tup [.ref fl, .int s])) (g2 : H fl = some (.lst (das.map V.ref))) (hin : i < n) (hai : das[i]? = some ai) :
    ∃ sw wo sb : Addr, H ai = some (.tup [.ref sw, .ref wo, .ref sb]) ∧ H sw = some (.lst ((tkN pl i).swept.map fun n : Nat => V.int n)) := by
  obtain ⟨fl', das', da, sw, wo, sb, q1, q2, q3, q4, q5, q6, q7⟩ := h.row i
  have ef : fl' = fl := by
    rw [g1] at q1
    injection q1 with q1
    injection q1 with q1
    injection q1 with q1 _
    injection q1 with q1
    exact q1.symm
  subst ef
  have ed : das'.map V.ref = das.map V.ref := by
    rw [g2] at q2
    injection q2 with q2
    injection q2 with q2
    exact q2.symm
  have ea : da = ai := by
    have h1 : (das'.map V.ref)[i]? = some (V.ref da) := by
      rw [show foldT n s i = i from if_pos hin] at q4
      rw [List.getElem?_map, q4]
      rfl
    rw [ed, List.getElem?_map, hai] at h1
    injection h1 with h1
    injection h1 with h1
    exact h1.symm
  subst ea
  exact ⟨sw, wo, sb, q5, q6⟩
/-- what the loop downwards has found after i turns -/
def LatI (pl : Plan) (tile e i : Nat) : Option Nat → Prop
  | none => ∀ v, e < v + i → v ≤ e → tile ∉ (tkN pl v).swept
  | some u => e < u + i ∧ u ≤ e ∧ tile ∈ (tkN pl u).swept ∧ ∀ v, e < v + i → v < u → tile ∉ (tkN pl v).swept
theorem LatI.hit {pl : Plan} {tile e i : Nat} (hi : i ≤ e) (h : tile ∈ (tkN pl (e - i)).swept) : LatI pl tile e (i + 1) (some (e - i)) := ⟨by omega, by omega, h, fun v h1 h2 => by omega⟩
theorem LatI.miss {pl : Plan} {tile e i : Nat} (hi : i ≤ e) (h : tile ∉ (tkN pl (e - i)).swept) : ∀ {r : Option Nat}, LatI pl tile e i r → LatI pl tile e (i + 1) r
  | none, q => fun v h1 h2 => by
    rcases Nat.lt_or_ge e (v + i) with z | z
    · exact q v z h2
    · have : v = e - i := by omega
      rw [this]
      exact h
  | some u, ⟨q1, q2, q3, q4⟩ => ⟨by omega, q2, q3, fun v h1 h2 => by
    rcases Nat.lt_or_ge e (v + i) with z | z
    · exact q4 v z h2
    · have : v = e - i := by omega
      rw [this]
      exact h⟩
theorem LatI.next {pl : Plan} {tile t n s : Nat} (hr : Rep (stN pl) n s) : ∀ {r : Option Nat}, LatI pl tile (t + 2 * n) (2 * n + 1) r → NextSw pl tile t r
  | none, q => never_of hr (F := fun tk => tile ∈ tk.swept) fun v h1 h2 => q v (by omega) (by omega)
  | some u, ⟨q1, q2, q3, q4⟩ => ⟨by omega, q3, fun v h1 h2 => q4 v (by omega) h2⟩
theorem eqD_wt {H : Hp} {v w' : V} : ∀ {o : Option Wt}, WtV H v o → WtV H w' o → EqD H 2 v w'
  | none, h, g => .inl ⟨(show v = .non from h).trans (show w' = .non from g).symm, by
      rw [show v = .non from h]
      exact ⟨_, .non⟩⟩
  | some x, ⟨p, e, hp⟩, ⟨q, f, hq⟩ => .inr ⟨p, q, _, _, e, f, .inr ⟨.inl hp, .inl hq⟩, .cons (.inl ⟨rfl, _, .int _⟩) (.cons (.inl ⟨rfl, _, .int _⟩) (.cons (.inl ⟨rfl, _, .int _⟩) .nil)), by simp⟩
theorem share6 {A : Hp → Prop} {G : Prop} (R : Hp → Prop) (h1 : (∀ Hq, A Hq → R Hq) → G) (h2 : ∀ Hq, A Hq → R Hq) : G := h1 h2
theorem kpDrawn {d : Addr} {H H' : Hp} (hd : DrawAt H d) (dr : Drawn d H H') : Kp (fun b => b ≠ d) H H' :=
  ⟨fun b xs e => dr.same _ _ (hd.not e (by simp)) e, fun b o k e => dr.same _ _ k e, fun b ks e => dr.same _ _ (hd.not e (by simp)) e, fun b o xs e => dr.same _ _ (hd.not e (by simp)) e⟩
theorem DrawAt.extN {H H' : Hp} {d : Addr} (h : DrawAt H d) (e : ExtN H H') : DrawAt H' d := let ⟨a, b, c, l, q⟩ := h; ⟨a, b, c, l, e _ _ q (by intro ps z; cases z)⟩
/-! the lists of a cycle are there, and no tables -/
abbrev There (H : Hp) (b : Addr) : Prop := ∃ xs, H b = some (.lst xs)
section
variable {ok : Addr → Prop} {H H' : Hp}
theorem LState.trS {a : Addr} {st : MSt} (h : LState ok H a st) : LState (fun b => ok b ∧ There H b) H a st :=
  let ⟨fl, rl, ras, ⟨o1, o2, o3⟩, e1, e2, e3, e4⟩ := h
  ⟨fl, rl, ras, ⟨⟨o1, _, e1⟩, ⟨o2, _, e2⟩, ⟨o3, _, e3⟩⟩, e1, e2, e3, e4⟩
theorem LDay.trS {a : Addr} {tk : TickM} (h : LDay ok H a tk) : LDay (fun b => ok b ∧ There H b) H a tk :=
  let ⟨sw, wo, sb, e1, ⟨o1, o2⟩, e2, e3, e4⟩ := h
  ⟨sw, wo, sb, e1, ⟨⟨o1, _, e2⟩, ⟨o2, _, e3⟩⟩, e2, e3, e4.trS⟩
theorem LCyc.trS {c : Addr} {pl : Plan} {n s : Nat} (h : LCyc ok H c pl n s) : LCyc (fun b => ok b ∧ There H b) H c pl n s :=
  let ⟨fl, das, e1, o1, e2, e3, e4⟩ := h
  ⟨fl, das, e1, ⟨o1, _, e2⟩, e2, Paired.mapP e3 fun _ _ q => q.trS, e4⟩
theorem LCyc.ext {c : Addr} {pl : Plan} {n s : Nat} (h : LCyc ok H c pl n s) (x : ExtN H H') : LCyc ok H' c pl n s :=
  h.trS.kp ⟨fun _ _ q => x _ _ q (by simp), fun b o ⟨_, _, n⟩ q => x _ _ q (fun ps z => by
    rw [n] at q
    cases q
    cases z), fun _ _ q => x _ _ q (by simp), fun _ _ _ q => x _ _ q (by simp)⟩ fun _ z => z.1
theorem LCyc.mono {ok' : Addr → Prop} {c : Addr} {pl : Plan} {n s : Nat} (h : LCyc ok H c pl n s) (i : ∀ b, ok b → ok' b) : LCyc ok' H c pl n s := h.kp (.same (Same.refl _)) i
/-- a new object is none of its lists -/
theorem LCyc.apart {c x : Addr} {pl : Plan} {n s : Nat} (h : LCyc ok H c pl n s) (hx : H x = none) : LCyc (fun b => ok b ∧ b ≠ x) H c pl n s :=
  h.trS.mono fun b ⟨o, _, e⟩ => ⟨o, fun z => by rw [z, hx] at e; cases e⟩
end
section
variable {P : Program} {w : World} {K : PySem.W.Frag} {mg : Str → Option Value} {base : Heap}
abbrev laN : List Str := ["_law_script", "_law_d", "_law_step", "_law_plan_here", "_law_text_here", "_law_cycle_here", "_law_tile", "_law_rest", "_law_seen", "_law_k", "_law_one", "_law_found", "_law_ticks", "_law_sums", "_law_later", "_law_end", "_law_tick_here"]
theorem sc_law : FnScope laN ["_law_script"] (defScope s_law) := ⟨rfl, rfl, rfl, by decide +kernel, rfl, by decide +kernel, by decide +kernel⟩
def spLaw (K : PySem.W.Frag) : Sp := fun vs H Q _ => ∃ (a : Addr) (ns : List Int), vs = [.ref a] ∧ H (ctP K) = some (.tbl #[]) ∧ SqL K H a (ns.map V.int) ∧ ns.length ≤ 63 ∧ ∀ H', Q (.bl true) H'
theorem okC {qual x : Str} {params : Arguments} {body : List Stmt} {scope : Scope} {dvs : List V} {kws : List (Str × V)} {f : Addr} {fd : FuncData} {CX : CXT} {N ps : List Str} {k : Nat} {sp : Sp} (F : FunD K x qual params body scope dvs kws f fd) (S : FnScope N ps scope) (len : ∀ vs H Q E, sp vs H Q E → vs.length = ps.length)
    (hbody : ∀ (cdv : Value) (A : Around) (outer : List Env) (s : Shared) (H : Hp) (vs : List V) (Q : VK) (E : XK), PySem.W.kdsCode K cdv = true → Room k (A.deeper (envOfC qual scope s.heap.objs.size f cdv)) → sp vs H Q E →
      ∃ t, PSs (cxOf CX P w K mg base N qual scope f cdv A outer s H E) body t ∧ t { nx := fun _ H' => Q .non H', rt := Q } (start N vs) H) : FnOk P w K mg base CX (k + 1) f fd ps sp := by
  have hc : ∀ cdv : Value, (∃ q, PySem.W.codeIn K cdv q = true) → PySem.W.kdsCode K cdv = true := fun _ ⟨_, e⟩ => kdsCode_of e
  obtain ⟨oc, od, dV, kV, doc, pm, an, cdv, ct, osl, rfl, lk, hcd, _, _⟩ := F.ex
  exact fn_of lk hcd S len fun A outer s H vs Q E hr hsp => hbody cdv A outer s H vs Q E (hc _ ⟨_, hcd⟩) hr hsp
theorem ok_law (T : L06T K w mg) (TB : TabB base mg (ctA K) (ctP K)) {fd : FuncData} (F : FunD K "law" "law" (defArgs s_law) (defBody s_law) (defScope s_law) [] [] (He.fAd K ("law", none)) fd) : FnOk P w K mg base CX0 16 (He.fAd K ("law", none)) fd ["_law_script"] (spLaw K) := by
  obtain ⟨fdR, GR, bR, kR⟩ := ok_random (P := P) (w := w) (base := base) T.eq.l
  obtain ⟨fdB, GB, bB, kB⟩ := ok_below (P := P) (w := w) (base := base) T.eq.l
  obtain ⟨fdSH, GSH, bSH, kSH⟩ := ok_sho (P := P) (w := w) (base := base) T.sh
  obtain ⟨fdT, GT, bT, kT⟩ := ok_text (P := P) (w := w) (base := base) T.cy.l.li
  obtain ⟨fdCY, GCY, bCY, kCY⟩ := ok_cyc (P := P) (w := w) (base := base) T.cy
  obtain ⟨fdE, GE, bE, kE⟩ := ok_equal (P := P) (w := w) (base := base) T.eq 3
  obtain ⟨fdLA, GLA, bLA, kLA⟩ := ok_las (P := P) (w := w) (base := base) T.las
  obtain ⟨fdSO, GSO, bSO, kSO⟩ := ok_som (P := P) (w := w) (base := base) T.som
  obtain ⟨fdPC, GPC, bPC, kPC⟩ := ok_place (P := P) (w := w) (base := base) T.lg.pc
  obtain ⟨fdLG, GLG, bLG, kLG⟩ := ok_lg (P := P) (w := w) (base := base) T.lg
  obtain ⟨fdSU, GSU, bSU, kSU⟩ := ok_su (P := P) (w := w) (base := base) T.su
  obtain ⟨fdRK, GRK, bRK, kRK⟩ := ok_rk (P := P) (w := w) (base := base) T.rk
  obtain ⟨fdSF, GSF, bSF, kSF⟩ := ok_sfe (P := P) (w := w) (base := base) T.sfe
  obtain ⟨fdNV, GNV, bNV, kNV⟩ := ok_nev (P := P) (w := w) (base := base) T.nev
  obtain ⟨fdCS, GCS, bCS, kCS⟩ := ok_cs (P := P) (w := w) (base := base) T.cs TB
  obtain ⟨fdNX, GNX, bNX, kNX⟩ := ok_next (P := P) (w := w) (base := base) T.nx
  obtain ⟨fdLW, GLW, bLW, kLW⟩ := ok_lw (P := P) (w := w) (base := base) T.lw
  refine okC F sc_law (fun vs H Q E h => ?_) (fun cdv A outer s H vs Q E hcd hr h => ?_)
  · obtain ⟨a, ns, rfl, _⟩ := h
    rfl
  · obtain ⟨a, ns, rfl, hPT, ha, hn, k⟩ := h
    have hr1 : Room 1 _ := hr.mono (by decide)
    have hr2 : Room 2 _ := hr.mono (by decide)
    have hr4 : Room 4 _ := hr.mono (by decide)
    have hr9 : Room 9 _ := hr.mono (by decide)
    refine ⟨_, PSs.nox (pss_cons (ps_set (i := 1) sc_law.nd rfl (.inl rfl) (pe_call GR hr1 rfl T.eq.l.random.g kR bR .nil pass0 (pa_cons (pv 0) (pa_cons pe_int pa_nil))))
      (pss_cons (ps_for PassesOwn.never rfl (pi_range1 (by rfl) T.eq.l.range (pa_cons pe_int pa_nil)) (pg_name (i := 2) sc_law.nd rfl (.inl rfl))
        (pss_cons (ps_set (i := 3) sc_law.nd rfl (.inl rfl) (pe_call GSH hr4 rfl T.sh.short.g kSH bSH .nil pass0 (pa_cons (pv 1) (pa_cons (pe_ix ix_list (pe_lst (pa_cons pe_int (pa_cons pe_int pa_nil))) (pe_call GB hr1 rfl T.eq.l.below.g kB bB .nil pass0 (pa_cons (pv 1) (pa_cons pe_int pa_nil))) (fun _ _ => rfl)) pa_nil))))
        (pss_cons (ps_asg (pe_tup (pa_cons (pe_call GT hr2 rfl T.cy.l.li.text.g kT bT .nil pass0 (pa_cons (pv 3) pa_nil)) (pa_cons (pe_call GCY hr2 rfl T.cy.cycle.g kCY bCY .nil pass0 (pa_cons (pv 3) pa_nil)) pa_nil)))
          (pg_tup rfl (pgs_cons (pg_name (i := 4) sc_law.nd rfl (.inl rfl)) (pgs_cons (pg_name (i := 5) sc_law.nd rfl (.inr rfl)) pgs_nil))))
        (pss_cons (ps_set (i := 6) sc_law.nd rfl (.inr rfl) (pe_call GB hr1 rfl T.eq.l.below.g kB bB .nil pass0 (pa_cons (pv 1) (pa_cons (pe_callB call_len_seq (by rfl) T.eq.l.len boot_len (pa_cons (pe_ix ix_tup (pv 3) pe_int (fun _ _ => rfl)) pa_nil)) pa_nil))))
        (pss_cons (ps_set (i := 7) sc_law.nd rfl (.inl rfl) (pe_ifExp (pt_cmpR (op_eqS1 (hu0 hr)) (pe_callTy (cr_setS rfl) (by rfl) T.las.set (by decide +kernel) (pa_cons (pe_ix ix_tup (pe_ix ix_list (pe_ix ix_tup (pv 5) pe_int (fun _ _ => rfl)) (pe_ix ix_tup (pv 5) pe_int (fun _ _ => rfl)) (fun _ _ => rfl)) pe_int (fun _ _ => rfl)) pa_nil)) (pe_set1 hcd) (nomark _)) (pe_ix ix_tup (pv 5) pe_int (fun _ _ => rfl)) pe_non))
        (pss_cons (ps_setLc (i := 8) (own := [("_law_k", 9)]) (g := (gName 9)) (tt := tTest (tOp (rEqNil K) (tLc (iList K (tOp (rIxT K) (tVar 5) (tC (.int 0)))) (gName 10) (tTest (tOp (rIn K false) (tVar 9) (tOp (rIxT K) (tVar 10) (tC (.int 0))))) (tVar 10) [10]) (tLst tNil))) rfl sc_law.nd rfl rfl (sw_true rfl rfl rfl (by decide +kernel)) (pi_range1 (by rfl) T.eq.l.range (pa_cons (pe_callB call_len_seq (by rfl) T.eq.l.len boot_len (pa_cons (pe_ix ix_tup (pv 3) pe_int (fun _ _ => rfl)) pa_nil)) pa_nil)) (blkOk_by (own := [("_law_k", 9)]) (N := laN) (sc := defScope s_law) (by decide +kernel)) (fun _ _ _ _ _ => (pg_name (i := 9) sc_law.nd rfl (.inr rfl))) (fun _ _ _ _ _ => (pts_one (pt_cmpR (op_eqNil (hu0 hr)) (pe_lc (own := [("_law_one", 10)]) (g := (gName 10)) (tt := tTest (tOp (rIn K false) (tVar 9) (tOp (rIxT K) (tVar 10) (tC (.int 0))))) rfl sc_law.nd (pi_list (pe_ix ix_tup (pv 5) pe_int (fun _ _ => rfl))) (blkOk_by (own := [("_law_one", 10)]) (N := laN) (sc := relS _ (defScope s_law)) (by decide +kernel)) (fun _ _ _ _ _ => (pg_name (i := 10) sc_law.nd rfl (.inl rfl))) (fun _ _ _ _ _ => (pts_one (pt_cmpR op_in_seq (pv 9) (pe_ix ix_tup (pv 10) pe_int (fun _ _ => rfl)) (by rfl)))) (fun _ _ _ _ _ => (pv 10))) (pe_lst pa_nil) (nomark _)))) (fun _ _ _ _ _ => (pv 9)))
        (pss_cons (ps_set (i := 11) sc_law.nd rfl (.inl rfl) (pe_lst (pa_cons (pe_call GSF hr9 rfl T.sfe.sfe.g kSF bSF .nil pass0 (pa_cons (pv 4) pa_nil)) (pa_cons (pe_call GNV hr9 rfl T.nev.nev.g kNV bNV .nil pass0 (pa_cons (pv 4) pa_nil)) pa_nil))))
        (pss_cons (ps_if (pt_not (pt_val (pe_call GE hr4 rfl T.eq.equal.g kE bE .nil pass0 (pa_cons (pe_lst (pa_cons (pe_call GRK hr9 rfl T.rk.rk.g kRK bRK .nil pass0 (pa_cons (pv 4) pa_nil)) (pa_cons (pv 11) pa_nil))) (pa_cons (pe_lst (pa_cons (pv 7) (pa_cons (pe_lst (pa_cons (pe_call GLA hr1 rfl T.las.las.g kLA bLA .nil pass0 (pa_cons (pv 5) pa_nil)) (pa_cons (pv 8) pa_nil))) pa_nil))) pa_nil)))))
          (pss_one (ps_ret pe_bl)) pss_nil)
        (pss_cons (ps_expr (pe_bm PySem.F.plainAttrs_list PySem.F.slot_list_append PySem.F.type_list_append mt_append (pe_ix ix_list (pv 11) pe_int (fun _ _ => rfl)) (pa_cons pe_int pa_nil)))
        (pss_cons (ps_expr (pe_bm PySem.F.plainAttrs_list PySem.F.slot_list_append PySem.F.type_list_append mt_append (pe_ix ix_list (pv 11) pe_int (fun _ _ => rfl)) (pa_cons pe_int pa_nil)))
        (pss_cons (ps_set (i := 12) sc_law.nd rfl (.inl rfl) (pe_call GSO hr2 rfl T.som.some.g kSO bSO .nil pass0 (pa_cons (pv 1) pa_nil)))
        (pss_cons (ps_set (i := 13) sc_law.nd rfl (.inl rfl) (pe_call GSU hr1 rfl T.su.su.g kSU bSU .nil pass0 (pa_cons (pv 5) (pa_cons (pe_lc (own := [("_law_one", 10)]) (g := (gName 10)) (tt := tYes) (te := tBM K "list" (rCntI K) (tOp (rIxT K) (tVar 10) (tC (.int 0))) (tCons (tVar 6) tNil)) rfl sc_law.nd (pi_list (pe_ix ix_tup (pv 5) pe_int (fun _ _ => rfl))) (blkOk_by (own := [("_law_one", 10)]) (N := laN) (sc := defScope s_law) (by decide +kernel)) (fun _ _ _ _ _ => (pg_name (i := 10) sc_law.nd rfl (.inl rfl))) (fun _ _ _ _ _ => pts_nil) (fun _ _ _ _ _ => (pe_bm PySem.F.plainAttrs_list PySem.F.slot_list_count PySem.F.type_list_count mt_lcount (pe_ix ix_tup (pv 10) pe_int (fun _ _ => rfl)) (pa_cons (pv 6) pa_nil)))) (pa_cons (pv 12) pa_nil)))))
        (pss_cons (ps_if (pt_not (pt_val (pe_call GE hr4 rfl T.eq.equal.g kE bE .nil pass0 (pa_cons (pe_call GCS hr9 rfl T.cs.cs.g kCS bCS .nil pass0 (pa_cons (pv 4) (pa_cons (pv 6) (pa_cons (pv 12) pa_nil)))) (pa_cons (pv 13) pa_nil)))))
          (pss_one (ps_ret pe_bl)) pss_nil)
        (pss_cons (ps_par (i := 14) (j := 15) (by rfl) sc_law.nd rfl rfl (by decide) rfl rfl (pa_cons pe_non (pa_cons (pe_op op_add (pv 12) (pe_op op_mul pe_int (pe_callB call_len_seq (by rfl) T.eq.l.len boot_len (pa_cons (pe_ix ix_tup (pv 5) pe_int (fun _ _ => rfl)) pa_nil)))) pa_nil)) (by rfl))
        (pss_cons (ps_for PassesOwn.never rfl (pi_range3 (by rfl) T.eq.l.range (pa_cons (pv 15) (pa_cons (pe_op op_sub (pv 12) pe_int) (pa_cons (pe_op op_sub pe_int pe_int) pa_nil)))) (pg_name (i := 16) sc_law.nd rfl (.inl rfl))
          (pss_one (ps_set (i := 14) sc_law.nd rfl (.inl rfl) (pe_ifExp (pt_cmpR op_in_seq (pv 6) (pe_ix ix_tup (pe_ix ix_list (pe_ix ix_tup (pv 5) pe_int (fun _ _ => rfl)) (pe_call GPC hr1 rfl T.lg.pc.place.g kPC bPC .nil pass0 (pa_cons (pv 5) (pa_cons (pv 16) pa_nil))) (fun _ _ => rfl)) pe_int (fun _ _ => rfl)) (by rfl)) (pv 16) (pv 14)))))
        (pss_one (ps_if (pt_not (pt_val (pe_call GE hr4 rfl T.eq.equal.g kE bE .nil pass0 (pa_cons (pe_lst (pa_cons (pe_call GNX hr9 rfl T.nx.ns.g kNX bNX .nil pass0 (pa_cons (pv 4) (pa_cons (pv 6) (pa_cons (pv 12) pa_nil)))) (pa_cons (pe_call GLW hr9 rfl T.lw.lw.g kLW bLW .nil pass0 (pa_cons (pv 4) pa_nil)) pa_nil))) (pa_cons (pe_lst (pa_cons (pv 14) (pa_cons (pe_call GLG hr2 rfl T.lg.lg.g kLG bLG .nil pass0 (pa_cons (pv 3) (pa_cons (pv 5) pa_nil))) pa_nil))) pa_nil)))))
          (pss_one (ps_ret pe_bl)) pss_nil)))))))))))))))))
      (pss_one (ps_ret pe_bl)))), ?_⟩
    have hT0 : Tabs [(ctP K, qtC)] H := fun p hp => by
      rw [List.mem_singleton.mp hp]
      exact TabS.nil hPT
    refine ⟨_, rfl, a, _, ns, rfl, ha, hn, fun d H1 nd s1 hd => ?_⟩
    have hT := Tabs.ext hT0 s1
    clear hT0 hPT
    refine ⟨_, rfl, by decide, by decide, ?_⟩
    refine for_range (lo := 0) (n := (3 : Int).toNat) (fun i σ Hx => ∃ o2 o3 o4 o5 o6 o7 o8 o11 o12 o13 o14 o15 o16 : Option V, σ = [some (.ref a), some (.ref d), o2, o3, o4, o5, o6, o7, o8, none, none, o11, o12, o13, o14, o15, o16] ∧ DrawAt Hx d ∧ Tabs [(ctP K, qtC)] Hx) ⟨none, none, none, none, none, none, none, none, none, none, none, none, none, rfl, hd, hT⟩ ?_ ?_
    · rintro i0 σ Hx hi0 ⟨o2, o3, o4, o5, o6, o7, o8, o11, o12, o13, o14, o15, o16, rfl, hd, hT⟩
      refine ⟨_, rfl, (by show 2 ≤ sizeLine; decide), fun q nq => ?_⟩
      have ndq := hd.ne nq
      have sq := sameUpd (o := .lst [.int 4, .int 12]) (Same.refl Hx) nq
      have hq := @upd_same Hx q (.lst [.int 4, .int 12])
      generalize upd Hx q (.lst [.int 4, .int 12]) = Hq at *
      replace hd := hd.same sq
      replace hT := Tabs.ext hT sq
      refine ⟨_, rfl, d, 2, rfl, hd, by decide, by decide, fun r sd cd bs hr3 hbs => ?_⟩
      have dr0 : Drawn d Hq (upd Hq d (drawL sd cd bs)) := (Drawn.refl hd).draw hbs
      replace hq := dr0.same _ _ (Ne.symm ndq) hq
      replace hT := tabs_drawn hd dr0 hT
      replace hd := dr0.at_
      generalize upd Hq d (drawL sd cd bs) = H0 at *
      obtain ⟨m, hm, hm1, hm2⟩ : ∃ m : Nat, ([V.int 4, V.int 12] : List V)[r]? = some (.int m) ∧ 1 ≤ m ∧ m ≤ 100 := by
        match r, hr3 with
        | 0, _ => exact ⟨4, rfl, by decide, by decide⟩
        | 1, _ => exact ⟨12, rfl, by decide, by decide⟩
      refine ⟨q, _, _, _, rfl, rfl, SqL.of hq, atI_nat hm, ?_⟩
      refine ⟨d, m, rfl, hd, hm1, hm2, fun pa H2 pl dr wf sml hfl so npa hP => ?_⟩
      replace hT := tabs_drawn hd dr hT
      replace hd := dr.at_
      have hea := small_early wf sml
      have hrd := reads_text wf so
      have hn16 := wf.n16
      clear hq dr dr0 nq sq ndq hm npa
      refine ⟨_, rfl, pa, pl, rfl, hP, wf, so, fun H3 s3 => ?_⟩
      refine ⟨_, rfl, pa, pl, rfl, hP.same s3, wf, hea, fun c n s2 H4 nc s4 hC => ?_⟩
      refine ⟨(by show 2 ≤ sizeLine; decide), fun tt ntt => ?_⟩
      have s5 := sameUpd (o := .tup [sV (textOf pl), .ref c]) (Same.refl H4) ntt
      have htt := @upd_same H4 tt (.tup [sV (textOf pl), .ref c])
      generalize upd H4 tt (.tup [sV (textOf pl), .ref c]) = H5 at *
      have s25 := (s3.trans s4).trans s5
      have hd3 := hd.same s3
      have hCd : LCyc (fun b => b ≠ d) H5 c pl n s2 := (hC.kp (.same (Same.refl _)) fun b hb (z : b = d) => hd3.ne hb (Eq.symm z)).same s5
      replace hd := hd.same s25
      replace hT := Tabs.ext hT s25
      replace hP := hP.same s25
      clear hC nc s4 s5 s3 hd3 ntt
      obtain ⟨sa, ma, fa, ra, rd, ras, e0, _, _, e3, _⟩ := id hP
      refine ⟨tt, _, rfl, SqT.of htt, rfl, _, _, rfl, _, _, rfl, rfl, ?_⟩
      clear htt s25
      refine ⟨_, rfl, _, rfl, pa, _, _, _, rfl, rfl, SqT.of e0, atI_nat (j := 2) rfl, fa, _, rfl, .inr (SqT.of e3), ?_⟩
      rw [List.length_map]
      have hn1 := wf.n1
      refine ⟨d, pl.floor.length, rfl, hd, by omega, by omega, fun tile sd cd bs htile hbs => ?_⟩
      have dr1 : Drawn d H5 (upd H5 d (drawL sd cd bs)) := (Drawn.refl hd).draw hbs
      replace hT := tabs_drawn hd dr1 hT
      replace hP := hP.drawn hd dr1
      replace hCd := hCd.kp (kpDrawn hd dr1)
      replace hd := dr1.at_
      generalize upd H5 d (drawL sd cd bs) = H6 at *
      clear dr1 e0 e3
      obtain ⟨fl, das, da, sw, wo, sb, g1, g2, g3, g4, g5, g6, g7⟩ := hCd.row s2
      have hlt := hCd.rep.lt
      rw [show foldT n s2 s2 = s2 from if_pos hlt] at g4
      have g7' : H6 wo = some (.lst (((tkN pl s2).words.map sx).map V.str)) := by
        rw [List.map_map]
        exact g7
      have hwl : ((tkN pl s2).words.map sx).length ≤ 3 := by
        rw [List.length_map, tk_wl pl wf.rt]
        exact wf.r3
      apply share6 (A := fun Hq => Same H6 Hq)
      case h1 =>
        intro fin
        refine ⟨_, rfl, c, _, _, _, rfl, rfl, SqT.of g1, atI_nat (j := 0) rfl, _, rfl, c, _, _, _, rfl, rfl, SqT.of g1, atI_nat (j := 1) rfl, fl, _, _, _, rfl, rfl, SqL.of g2, atI_nat (by rw [List.getElem?_map, g4]; rfl), da, _, _, _, rfl, rfl, SqT.of g5, atI_nat (j := 1) rfl, wo, _, rfl, SqL.of g7', by unfold scanBound; omega, fun p1 cc np1 hN => ?_⟩
        intro p2 np2
        refine ⟨p1, p2, _, _, cc, rfl, rfl, (upd_ne (ne_of_none upd_same np2)).trans upd_same, upd_same, fun r h1 h2 => ?_⟩
        have hr := rest_set wf s2 cc hN e_rest (fun k => decide_eq_true_iff) h1 h2
        have smA := sameUpd (o := SetS (cxOf CX0 P w K mg base laN "law" (defScope s_law) (He.fAd K ("law", none)) cdv A outer s H E).nox.prog (cxOf CX0 P w K mg base laN "law" (defScope s_law) (He.fAd K ("law", none)) cdv A outer s H E).nox.w p1 (fun x => decide (x ∈ (List.range ((tkN pl s2).words.map sx).length).map fun i => ((tkN pl s2).words.map sx).getD i Str.empty)) cc) (Same.refl H6) np1
        have sm8 := sameUpd (o := SetS (cxOf CX0 P w K mg base laN "law" (defScope s_law) (He.fAd K ("law", none)) cdv A outer s H E).nox.prog (cxOf CX0 P w K mg base laN "law" (defScope s_law) (He.fAd K ("law", none)) cdv A outer s H E).nox.w p2 (fun x => decide (x = "rest")) 1) smA (smA.free np2)
        have g18 := sm8 _ _ g1
        have hB : restM pl s2 = if r = true then some s2 else none := by rw [hr]; rfl
        clear h1 h2 hr
        generalize upd (upd H6 p1 (SetS (cxOf CX0 P w K mg base laN "law" (defScope s_law) (He.fAd K ("law", none)) cdv A outer s H E).nox.prog (cxOf CX0 P w K mg base laN "law" (defScope s_law) (He.fAd K ("law", none)) cdv A outer s H E).nox.w p1 (fun x => decide (x ∈ (List.range ((tkN pl s2).words.map sx).length).map fun i => ((tkN pl s2).words.map sx).getD i Str.empty)) cc)) p2 (SetS (cxOf CX0 P w K mg base laN "law" (defScope s_law) (He.fAd K ("law", none)) cdv A outer s H E).nox.prog (cxOf CX0 P w K mg base laN "law" (defScope s_law) (He.fAd K ("law", none)) cdv A outer s H E).nox.w p2 (fun x => decide (x = "rest")) 1) = H8 at *
        refine ⟨r, rfl, ?_⟩
        cases r with
        | true =>
          have e7 : V.int (s2 : Nat) = oV (restM pl s2) := by rw [hB]; rfl
          refine iteT ⟨_, rfl, c, _, _, _, rfl, rfl, SqT.of g18, atI_nat (j := 1) rfl, ?_⟩
          rw [e7]
          exact fin H8 sm8
        | false =>
          have e7 : oV (restM pl s2) = V.non := by rw [hB]; rfl
          have z := fin H8 sm8
          rw [e7] at z
          exact iteF z
      case h2 =>
        intro H7 s67
        replace hd := hd.same s67
        replace hP := hP.same s67
        replace hT := Tabs.ext hT s67
        replace hCd := hCd.same s67
        clear s67 g1 g2 g3 g4 g5 g6 g7 g7' hwl sw wo sb da
        have hmost := hCd.most
        have hrep := hCd.rep
        obtain ⟨fl, das, _, _, _, _, g1, g2, g3, _⟩ := hCd.row 0
        obtain ⟨sa, ma, fa, ra, rd, ras, e0, _, _, e3, _⟩ := id hP
        refine ⟨_, rfl, pa, _, _, _, rfl, rfl, SqT.of e0, atI_nat (j := 2) rfl, fa, _, rfl, .inr (SqT.of e3), _, rfl, by rw [List.length_map]; omega, by rw [List.length_map]; omega, fun D nD => ?_⟩
        rw [List.length_map]
        refine lc_range (lo := 0) (n := ((pl.floor.length : Nat) : Int).toNat) (fun j Hy => Same H7 Hy ∧ Hy D = some (.lst ((seenL pl n j).map fun n : Nat => V.int n))) ⟨sameUpd (Same.refl _) nD, upd_same⟩ ?_ ?_
        · rintro j Hy hj ⟨sy, hD⟩
          rw [Int.toNat_natCast] at hj
          have ez : (0 : Int) + (j : Nat) = (j : Nat) := by omega
          rw [ez]
          refine ⟨rfl, _, rfl, c, _, _, _, rfl, rfl, SqT.of (sy _ _ g1), atI_nat (j := 0) rfl, fl, rfl, ⟨_, SqL.of (sy _ _ g2)⟩, fun D2 nD2 => ?_⟩
          have nDD : D ≠ D2 := ne_of_none hD nD2
          refine lc_list (K := K) (a := fl) (xs := das.map V.ref) (fun i Hz => ∃ xs : List V, Same Hy Hz ∧ Hz D2 = some (.lst xs) ∧ xs.length ≤ i ∧ (xs = [] ↔ ∀ u, u < i → j ∉ (tkN pl u).swept)) ⟨[], sameUpd (Same.refl _) nD2, upd_same, Nat.le_refl _, by simp⟩ (fun i Hz _ ⟨_, sz, _⟩ => SqL.of (sz _ _ (sy _ _ g2))) ?_ ?_
          · rintro i x Hz hx ⟨xs, sz, hD2, hxl, hxe⟩
            rw [List.getElem?_map] at hx
            obtain ⟨ai, hai, rfl⟩ := Option.map_eq_some_iff.mp hx
            have hin : i < n := by
              have := (List.getElem?_eq_some_iff.mp hai).1
              omega
            obtain ⟨fl', das', da, sw, wo, sb, q1, q2, q3, q4, q5, q6, q7⟩ := (hCd.same (sy.trans sz)).row i
            have ef : fl' = fl := by
              rw [(sy.trans sz) _ _ g1] at q1
              injection q1 with q1
              injection q1 with q1
              injection q1 with q1 _
              injection q1 with q1
              exact q1.symm
            subst ef
            have ed : das'.map V.ref = das.map V.ref := by
              rw [(sy.trans sz) _ _ g2] at q2
              injection q2 with q2
              injection q2 with q2
              exact q2.symm
            have ea : da = ai := by
              have h1 : (das'.map V.ref)[i]? = some (V.ref da) := by
                rw [show foldT n s2 i = i from if_pos hin] at q4
                rw [List.getElem?_map, q4]
                rfl
              rw [ed, List.getElem?_map, hai] at h1
              injection h1 with h1
              injection h1 with h1
              exact h1.symm
            subst ea
            refine ⟨rfl, _, rfl, _, rfl, da, _, _, _, rfl, rfl, SqT.of q5, atI_nat (j := 0) rfl, sw, _, rfl, .inl (SqL.of q6), rfl, flat_nats, _, rfl, ?_⟩
            rw [if_neg (by decide), in_nats]
            by_cases hsw : j ∈ (tkN pl i).swept
            · rw [decide_eq_true hsw]
              refine iteT ⟨_, rfl, xs, hD2, by rw [sizeLine_eq]; omega, xs ++ [.ref da], sameUpd sz nD2, upd_same, by rw [List.length_append]; exact Nat.add_le_add_right hxl 1, ?_⟩
              exact ⟨fun z => absurd z (by simp), fun z => absurd hsw (z i (by omega))⟩
            · rw [decide_eq_false hsw]
              refine iteF ⟨xs, sz, hD2, by omega, hxe.trans ⟨fun z u hu => ?_, fun z u hu => z u (by omega)⟩⟩
              rcases Nat.lt_or_ge u i with q | q
              · exact z u q
              · have : u = i := by omega
                rw [this]
                exact hsw
          · rintro Hz ⟨xs, sz, hD2, hxl, hxe⟩
            rw [List.length_map, g3] at hxe
            refine ⟨(by show 0 ≤ sizeLine; decide), fun e ne => ?_⟩
            have se := sameUpd (o := .lst []) sz (sz.free ne)
            have hD3 : upd Hz e (.lst []) D2 = some (.lst xs) := (upd_ne (ne_of_none hD2 ne)).trans hD2
            refine ⟨D2, e, xs, rfl, rfl, SqL.of hD3, SqL.of upd_same, _, rfl, ?_⟩
            have hD4 := se _ _ hD
            have hsl := seenL_len pl n j
            by_cases z : ∀ u, u < n → j ∉ (tkN pl u).swept
            · rw [decide_eq_true (hxe.mpr z)]
              refine iteT ⟨_, rfl, _, hD4, by rw [List.length_map, sizeLine_eq]; omega, ?_⟩
              refine ⟨sameUpd (sy.trans se) nD, ?_⟩
              rw [upd_same, seenL_succ, if_pos z, List.map_append]
              rfl
            · rw [decide_eq_false (fun q => z (hxe.mp q))]
              refine iteF ⟨sy.trans se, ?_⟩
              rw [seenL_succ, if_neg z, List.append_nil]
              exact hD4
        rintro Hy ⟨sy, hD⟩
        rw [Int.toNat_natCast] at hD
        have hDn := seenL_nev (pl := pl) hrep
        have hDl := seenL_len pl n pl.floor.length
        generalize seenL pl n pl.floor.length = SL at *
        refine ⟨_, rfl, textOf pl, pl, rfl, hrd, wf, hea, fun la pf Hf npf sf hpf hla => ⟨_, rfl, textOf pl, pl, rfl, hrd, wf, hea, fun ne pn Hn npn sn hpn hne => ⟨(by show 2 ≤ sizeLine; decide), fun FL nFL => ?_⟩⟩⟩
        have sF := sameUpd (o := .lst [.ref pf, .ref pn]) (Same.refl Hn) nFL
        have hFL := @upd_same Hn FL (.lst [.ref pf, .ref pn])
        have ndf : FL ≠ pf := fun z => by rw [z, sn _ _ hpf] at nFL; cases nFL
        have ndn : FL ≠ pn := fun z => by rw [z, hpn] at nFL; cases nFL
        have npp : pf ≠ pn := fun z => by rw [z] at hpf; rw [hpf] at npn; cases npn
        generalize upd Hn FL (.lst [.ref pf, .ref pn]) = Ha at *
        replace hpf := sF _ _ (sn _ _ hpf)
        replace hpn := sF _ _ hpn
        have s7 := ((sy.trans sf).trans sn).trans sF
        have npf7 := sy.free npf
        have npn7 := (sy.trans sf).free npn
        replace hD := (sf.trans (sn.trans sF)) _ _ hD
        have hCa := (((hCd.apart npf7).apart npn7)).same s7
        have ndpf : d ≠ pf := (hd.same sy).ne npf
        have ndpn : d ≠ pn := (hd.same (sy.trans sf)).ne npn
        replace hd := hd.same s7
        replace hP := hP.same s7
        replace hT := Tabs.ext hT s7
        clear hCd g1 g2 e0 e3 npf npn s7 sy sf sn sF nFL nD
        obtain rfl := hne.unique hDn
        refine ⟨_, rfl, textOf pl, pl, rfl, hrd, wf, hea, fun n' s' Hb hrep' sb => ?_⟩
        obtain ⟨en, es⟩ := Rep.unique hrep hrep'
        subst en es
        refine ⟨_, rfl, (by show 2 ≤ sizeLine; decide), fun L1 nL1 => ?_⟩
        have s1 := sameUpd (o := .lst [oV (restM pl s2), .ref FL]) (Same.refl Hb) nL1
        have hL1 := @upd_same Hb L1 (.lst [oV (restM pl s2), .ref FL])
        generalize upd Hb L1 (.lst [oV (restM pl s2), .ref FL]) = Hc at *
        refine ⟨_, rfl, _, rfl, _, c, pl, n, s2, rfl, hCa.same (sb.trans s1), wf, fun ns2 lp Hl nlp sl hlp hns => ?_⟩
        obtain rfl := hns.unique hla
        refine ⟨_, rfl, (by show 2 ≤ sizeLine; decide), fun L2 nL2 => ?_⟩
        have s2x := sameUpd (o := .lst [.ref lp, .ref D]) (Same.refl Hl) nL2
        have hL2 := @upd_same Hl L2 (.lst [.ref lp, .ref D])
        replace hlp := s2x _ _ hlp
        generalize upd Hl L2 (.lst [.ref lp, .ref D]) = Hm at *
        refine ⟨(by show 2 ≤ sizeLine; decide), fun L3 nL3 => ?_⟩
        have s3x := sameUpd (o := .lst [oV (restM pl s2), .ref L2]) (Same.refl Hm) nL3
        have hL3 := @upd_same Hm L3 (.lst [oV (restM pl s2), .ref L2])
        replace hlp := s3x _ _ hlp
        replace hL2 := s3x _ _ hL2
        generalize upd Hm L3 (.lst [oV (restM pl s2), .ref L2]) = Hn at *
        have sU := (s1.trans sl).trans (s2x.trans s3x)
        have sV' := (sl.trans (s2x.trans s3x))
        have sW := sb.trans sU
        have hnl := hns.le wf
        refine ⟨_, _, rfl, .inr ⟨L1, L3, _, _, rfl, rfl, .inl ⟨sV' _ _ hL1, hL3⟩, .cons (.inl ⟨rfl, flatO⟩) (.cons (.inr ⟨FL, L2, _, _, rfl, rfl, .inl ⟨sW _ _ hFL, hL2⟩, .cons (.inr ⟨pf, lp, _, _, rfl, rfl, .inl ⟨sW _ _ hpf, hlp⟩, flats6, by rw [List.length_map]; omega⟩) (.cons (.inr ⟨pn, D, _, _, rfl, rfl, .inl ⟨sW _ _ hpn, sW _ _ hD⟩, flats6, by rw [List.length_map]; omega⟩) .nil), by simp⟩) .nil), by simp⟩, fun Hq sq => ⟨_, rfl, ?_⟩⟩
        replace sW := sW.trans sq
        replace hFL := sW _ _ hFL
        replace hpf := sW _ _ hpf
        replace hpn := sW _ _ hpn
        replace hd := hd.same sW
        replace hP := hP.same sW
        replace hT := Tabs.ext hT sW
        replace hCa := hCa.same sW
        clear sW sU sV' sq hL1 hL2 hL3 hlp nL1 nL2 nL3 sb s1 sl s2x s3x nlp hD
        refine ⟨_, rfl, FL, _, _, _, rfl, rfl, SqL.of hFL, atI_nat (j := 0) rfl, .inl ⟨rfl, _, SqL.of hpf⟩, pf, _, _, rfl, rfl, hpf, by rw [List.length_map, sizeLine_eq]; omega, ?_⟩
        replace hd := hd.put (o := .lst ((ns2.map fun n : Nat => V.int n) ++ [.int 0])) ndpf
        replace hP : PlanV (upd Hq pf (.lst ((ns2.map fun n : Nat => V.int n) ++ [.int 0]))) pa pl := hP.keep fun h n => notL6 hpf h n
        replace hT := tabs_put (o := .lst ((ns2.map fun n : Nat => V.int n) ++ [.int 0])) hpf hT
        replace hCa := hCa.kp (Kp.put (o' := .lst ((ns2.map fun n : Nat => V.int n) ++ [.int 0])) hpf (fun z => z.1.2 rfl))
        replace hFL := (upd_ne (o := .lst ((ns2.map fun n : Nat => V.int n) ++ [.int 0])) ndf).trans hFL
        replace hpn := (upd_ne (o := .lst ((ns2.map fun n : Nat => V.int n) ++ [.int 0])) (Ne.symm npp)).trans hpn
        clear hpf
        generalize upd Hq pf (.lst ((ns2.map fun n : Nat => V.int n) ++ [.int 0])) = Hr at *
        refine ⟨_, rfl, FL, _, _, _, rfl, rfl, SqL.of hFL, atI_nat (j := 1) rfl, .inl ⟨rfl, _, SqL.of hpn⟩, pn, _, _, rfl, rfl, hpn, by rw [List.length_map, sizeLine_eq]; omega, ?_⟩
        replace hd := hd.put (o := .lst ((ne.map fun n : Nat => V.int n) ++ [.int 0])) ndpn
        replace hP : PlanV (upd Hr pn (.lst ((ne.map fun n : Nat => V.int n) ++ [.int 0]))) pa pl := hP.keep fun h n => notL6 hpn h n
        replace hT := tabs_put (o := .lst ((ne.map fun n : Nat => V.int n) ++ [.int 0])) hpn hT
        replace hCa := hCa.kp (Kp.put (o' := .lst ((ne.map fun n : Nat => V.int n) ++ [.int 0])) hpn (fun z => z.2 rfl)) (ok' := fun b => b ≠ d) (fun _ z => z.1.1)
        clear hpn hFL ndpf ndpn npp ndf ndn
        generalize upd Hr pn (.lst ((ne.map fun n : Nat => V.int n) ++ [.int 0])) = Hs at *
        refine ⟨_, rfl, d, rfl, hd, fun tk Ht htk _ dr => ?_⟩
        replace hT := tabs_drawn hd dr hT
        replace hP := hP.drawn hd dr
        replace hCa := hCa.kp (kpDrawn hd dr)
        replace hd := dr.at_
        clear dr
        obtain ⟨fl, das, _, _, _, _, g1, g2, g3, _⟩ := hCa.row 0
        have hkl := known_len pl (fun q => q.swept.count tile) n
        have hms : ∀ v, (fun q : TickM => q.swept.count tile) (tkN pl v) ≤ 3 := fun v => swept_few wf tile v
        refine ⟨_, rfl, _, rfl, c, _, _, _, rfl, rfl, SqT.of g1, atI_nat (j := 0) rfl, fl, rfl, ⟨_, SqL.of g2⟩, fun Dc nDc => ?_⟩
        refine lc_list (K := K) (a := fl) (xs := das.map V.ref) (fun i Hz => Same Ht Hz ∧ Hz Dc = some (.lst (((knownL pl (fun q => q.swept.count tile) n).take i).map fun n : Nat => V.int n))) ⟨sameUpd (Same.refl _) nDc, upd_same⟩ (fun i Hz _ ⟨sz, _⟩ => SqL.of (sz _ _ g2)) ?_ ?_
        · rintro i x Hz hx ⟨sz, hDc⟩
          rw [List.getElem?_map] at hx
          obtain ⟨ai, hai, rfl⟩ := Option.map_eq_some_iff.mp hx
          have hin : i < n := by
            have := (List.getElem?_eq_some_iff.mp hai).1
            omega
          obtain ⟨sw, wo, sb, q1, q2⟩ := (hCa.same sz).day (sz _ _ g1) (sz _ _ g2) hin hai
          have ek : (knownL pl (fun q => q.swept.count tile) n)[i]? = some ((tkN pl i).swept.count tile) := by
            unfold knownL
            rw [List.getElem?_map, List.getElem?_range hin]
            rfl
          rw [iVn_eq] at q2
          refine ⟨rfl, _, rfl, ai, _, _, _, rfl, rfl, SqT.of q1, atI_nat (j := 0) rfl, .inl ⟨rfl, _, SqL.of q2⟩, ?_⟩
          refine ⟨_, rfl, sw, _, tile, rfl, rfl, SqL.of q2, _, hDc, by rw [List.length_map, List.length_take, sizeLine_eq]; omega, sameUpd sz nDc, ?_⟩
          rw [icount, upd_same, List.take_succ, ek, List.map_append]
          rfl
        rintro Hz ⟨sz, hDc⟩
        rw [List.length_map, g3, List.take_of_length_le (by omega)] at hDc
        refine ⟨_, rfl, c, Dc, pl, n, s2, tk, fun q => q.swept.count tile, rfl, ⟨_, hCa.same sz⟩, hDc, hms, fun Hu su => ?_⟩
        have szu := sz.trans su
        replace hT := Tabs.ext hT szu
        refine ⟨_, rfl, _, rfl, _, rfl, textOf pl, pl, tile, tk, rfl, hrd, wf, hea, htile, htk, hT, fun Hv ev tv => ⟨_, rfl, _, _, rfl, .inl ⟨rfl, _, .int _⟩, fun Hw sv => ⟨_, rfl, ?_⟩⟩⟩
        replace hT := Tabs.ext tv sv
        replace hd := ((hd.same szu).extN ev).same sv
        replace hP := ((hP.same szu).ext ev).same sv
        replace hCa := ((hCa.same szu).ext ev).same sv
        clear tv sv ev szu su sz hDc nDc g1 g2 g3 hkl
        obtain ⟨fl, das, _, _, _, _, g1, g2, g3, _⟩ := hCa.row 0
        refine ⟨_, rfl, _, rfl, c, _, _, _, rfl, rfl, SqT.of g1, atI_nat (j := 0) rfl, fl, _, rfl, .inl (SqL.of g2), _, _, rfl, rfl, .inl ⟨by decide, by decide⟩, _, _, rfl, rfl, _, _, rfl, ?_⟩
        rw [List.length_map, g3]
        refine ⟨_, rfl, _, rfl, _, _, rfl, rfl, _, _, rfl, rfl, _, _, _, _, rfl, (RgC.neg (i := (tk : Int) + 2 * (n : Int)) (j := (tk : Int) - 1) (by omega) (by omega) (by omega) (by omega)), ?_⟩
        have en : ((tk : Int) + 2 * (n : Int) - ((tk : Int) - 1)).toNat = 2 * n + 1 := by omega
        rw [en]
        refine for_rangeC (lo := (tk : Int) + 2 * (n : Int)) (c := 0 - 1) (n := 2 * n + 1) (fun i σ Hx => ∃ (r : Option Nat) (o16 : Option V), σ = [some (.ref a), some (.ref d), some (.int (0 + (i0 : Nat))), some (.ref pa), some (sV (textOf pl)), some (.ref c), some (.int (tile : Nat)), some (oV (restM pl s2)), some (.ref D), none, none, some (.ref FL), some (.int (tk : Nat)), some (.int (cntN pl (fun q => q.swept.count tile) tk : Nat)), some (oV r), some (.int ((tk : Int) + 2 * (n : Int))), o16] ∧ Same Hw Hx ∧ LatI pl tile (tk + 2 * n) i r) ⟨none, o16, rfl, Same.refl _, fun v h1 h2 => by omega⟩ ?_ ?_
        · rintro i σ Hy hi ⟨r, o16, rfl, sy, hr⟩
          have et : (tk : Int) + 2 * (n : Int) + ((i : Nat) : Int) * (0 - 1) = ((tk + 2 * n - i : Nat) : Int) := by omega
          rw [et]
          have hCy := hCa.same sy
          obtain ⟨fl, das, da, sw, wo, sb, g1, g2, g3, g4, g5, g6, _⟩ := hCy.row (tk + 2 * n - i)
          have RR : True := trivial
          by_cases hin : tile ∈ (tkN pl (tk + 2 * n - i)).swept
          · have h2 := hr
            have h3 := LatI.hit (by omega) hin
            refine ⟨_, rfl, _, rfl, c, _, _, _, rfl, rfl, SqT.of g1, atI_nat (j := 0) rfl, _, rfl, _, rfl, c, tk + 2 * n - i, n, s2, pl, rfl, ⟨_, hCy⟩, fl, _, _, _, rfl, rfl, SqL.of g2, atI_nat (by rw [List.getElem?_map, g4]; rfl), da, _, _, _, rfl, rfl, SqT.of g5, atI_nat (j := 0) rfl, sw, _, rfl, .inl (SqL.of g6), rfl, flat_nats, _, rfl, ?_⟩
            rw [if_neg (by decide), in_nats, decide_eq_true hin]
            exact iteT ⟨_, rfl, some (tk + 2 * n - i), _, rfl, sy, h3⟩
          · have h3 := LatI.miss (by omega) hin hr
            refine ⟨_, rfl, _, rfl, c, _, _, _, rfl, rfl, SqT.of g1, atI_nat (j := 0) rfl, _, rfl, _, rfl, c, tk + 2 * n - i, n, s2, pl, rfl, ⟨_, hCy⟩, fl, _, _, _, rfl, rfl, SqL.of g2, atI_nat (by rw [List.getElem?_map, g4]; rfl), da, _, _, _, rfl, rfl, SqT.of g5, atI_nat (j := 0) rfl, sw, _, rfl, .inl (SqL.of g6), rfl, flat_nats, _, rfl, ?_⟩
            rw [if_neg (by decide), in_nats, decide_eq_false hin]
            exact iteF ⟨_, rfl, r, _, rfl, sy, h3⟩
        rintro σ Hy ⟨r, o16, rfl, sy, hr⟩
        have hnx := hr.next hrep
        replace hd := hd.same sy
        replace hP := hP.same sy
        replace hT := Tabs.ext hT sy
        replace hCa := hCa.same sy
        clear sy hr g1 g2 g3
        refine ⟨_, rfl, _, rfl, _, rfl, textOf pl, pl, tile, tk, rfl, hrd, wf, hea, htile, htk, fun r' Hb sb hnx' => ?_⟩
        obtain rfl := hnx'.unique hnx
        refine ⟨_, rfl, textOf pl, pl, rfl, hrd, wf, hea, fun n' s' vl Hc hrep' sc hvl => ?_⟩
        obtain ⟨en, es⟩ := Rep.unique hrep hrep'
        subst en es
        refine ⟨(by show 2 ≤ sizeLine; decide), fun L1 nL1 => ?_⟩
        have s1 := sameUpd (o := .lst [oV r', vl]) (Same.refl Hc) nL1
        have hL1 := @upd_same Hc L1 (.lst [oV r', vl])
        replace hvl := hvl.same s1
        have sbc := (sb.trans sc).trans s1
        generalize upd Hc L1 (.lst [oV r', vl]) = He' at *
        refine ⟨_, rfl, _, rfl, _, rfl, pa, c, pl, n, s2, rfl, hP.same sbc, ⟨_, hCa.same sbc⟩, wf, fun vg Hd sd hvg => ⟨(by show 2 ≤ sizeLine; decide), fun L2 nL2 => ?_⟩⟩
        have s2x := sameUpd (o := .lst [oV r', vg]) (Same.refl Hd) nL2
        have hL2 := @upd_same Hd L2 (.lst [oV r', vg])
        replace hvg := hvg.same s2x
        replace hvl := (hvl.same sd).same s2x
        replace hL1 := s2x _ _ (sd _ _ hL1)
        have sAll := (sbc.trans sd).trans s2x
        generalize upd Hd L2 (.lst [oV r', vg]) = Hf at *
        refine ⟨_, _, rfl, .inr ⟨L1, L2, _, _, rfl, rfl, .inl ⟨hL1, hL2⟩, .cons (.inl ⟨rfl, flatO⟩) (.cons (eqD_wt hvl hvg) .nil), by simp⟩, fun Hg sg => ⟨_, rfl, ?_⟩⟩
        exact ⟨_, _, _, _, _, _, _, _, _, _, _, _, _, rfl, (hd.same sAll).same sg, Tabs.ext (Tabs.ext hT sAll) sg⟩
    · rintro σ Hx ⟨o2, o3, o4, o5, o6, o7, o8, o11, o12, o13, o14, o15, o16, rfl, hd, hT⟩
      exact k Hx
end
end Sw

end

section
set_option maxRecDepth 100000
set_option maxHeartbeats 0
/-! the head: facts by names -/
namespace Sw
open PySem PySem.Spec PyProof.Rows L2 SwA
theorem fclsB_ok {K : PySem.W.Frag} (h : fclsB K = true) : PySem.W.findCls K (.ref (He.ga K "SweepError")) (.type "type") "__init__" = some (.val (.builtin "ValueError.__init__")) := by
  unfold fclsB at h
  split at h
  · rename_i n e
    rw [e, beq_iff_eq.mp h]
  · cases h
theorem mvB_ok {K : PySem.W.Frag} (h : mvB K = true) : ∃ o, K.lookup (He.ga K "MOVES") = some o ∧ o.cls = .type "tuple" ∧ o.dict = none := by
  unfold mvB at h
  split at h
  · rename_i e
    exact ⟨_, e, rfl, rfl⟩
  · cases h
theorem kTup_ok {K : PySem.W.Frag} {x : Str} {ws : List Cs} (h : He.tupB K x (ws.map fun w => He.Dv.str (sx w)) = true) : ∀ H : Hp, SqT K H (He.ga K x) (ws.map fun w => V.str (sx w)) := fun H => by
  have := He.tupB_ok h H
  rw [List.map_map] at this
  exact this
theorem propB_ok {K : PySem.W.Frag} {C f : Str} (h : propB K C f = true) : PropOf K (He.ga K C) f (He.ma K (He.ga K C) f) (He5.wf K (He.ga K C) "property" f) := by
  obtain ⟨h1, h⟩ := He.ba h
  obtain ⟨h2, h⟩ := He.ba h
  obtain ⟨h3, h4⟩ := He.ba h
  refine ⟨He.eqO_ok h1, He.eqO_ok h2, of_decide_eq_true h3, ?_⟩
  unfold recB at h4
  unfold He5.wf
  split at h4
  · rename_i g r e
    exact ⟨r, by rw [e]⟩
  · cases h4
theorem facts {K : PySem.W.Frag} {h : Heap} {mg : Str → Option Value} {w : World} (X : K.In h) (G : h.Ns mainGlobals mg) (c : SaysY w h K) : L06T K w mg ∧ DeT K mg "law" s_law := by
  have q := c.more
  unfold exB at q
  obtain ⟨x0, q⟩ := He.ba q
  obtain ⟨x1, q⟩ := He.ba q
  obtain ⟨x2, q⟩ := He.ba q
  obtain ⟨x3, q⟩ := He.ba q
  obtain ⟨x4, q⟩ := He.ba q
  obtain ⟨x5, q⟩ := He.ba q
  obtain ⟨x6, q⟩ := He.ba q
  obtain ⟨x7, q⟩ := He.ba q
  obtain ⟨x8, q⟩ := He.ba q
  obtain ⟨x9, q⟩ := He.ba q
  obtain ⟨x10, q⟩ := He.ba q
  obtain ⟨x11, q⟩ := He.ba q
  obtain ⟨x12, q⟩ := He.ba q
  obtain ⟨x13, q⟩ := He.ba q
  obtain ⟨x14, q⟩ := He.ba q
  obtain ⟨x15, q⟩ := He.ba q
  obtain ⟨x16, q⟩ := He.ba q
  obtain ⟨x17, q⟩ := He.ba q
  have x18 := q
  have hLaw : LawT K mg := ⟨(He.free_ok X G (c.t.d.fact 0 rfl)), (He.free_ok X G (c.t.d.fact 1 rfl)), (He.free_ok X G (c.t.d.fact 2 rfl)), (He.free_ok X G (c.t.d.fact 3 rfl)), (He.free_ok X G (c.t.d.fact 4 rfl)), ⟨(c.t.d.def_ 44 rfl), (He.glo_ok X G (c.t.d.fact 5 rfl))⟩, ⟨(c.t.d.def_ 45 rfl), (He.glo_ok X G (c.t.d.fact 6 rfl))⟩⟩
  have hSho : ShoT K mg := ⟨⟨⟨hLaw, ⟨(c.t.d.def_ 46 rfl), (He.glo_ok X G (c.t.d.fact 7 rfl))⟩⟩, ⟨(c.t.d.def_ 47 rfl), (He.glo_ok X G (c.t.d.fact 8 rfl))⟩⟩, (He.free_ok X G (c.t.d.fact 9 rfl)), ⟨(c.t.d.def_ 48 rfl), (He.glo_ok X G (c.t.d.fact 10 rfl))⟩⟩
  have hLin : LinT K mg := ⟨⟨⟨hLaw, ⟨(c.t.d.def_ 46 rfl), (He.glo_ok X G (c.t.d.fact 7 rfl))⟩⟩, ⟨(c.t.d.def_ 47 rfl), (He.glo_ok X G (c.t.d.fact 8 rfl))⟩⟩, (He.free_ok X G (c.t.d.fact 11 rfl)), (He.free_ok X G (c.t.d.fact 12 rfl)), ⟨(c.t.d.def_ 49 rfl), (He.glo_ok X G (c.t.d.fact 13 rfl))⟩, ⟨(c.t.d.def_ 50 rfl), (He.glo_ok X G (c.t.d.fact 14 rfl))⟩⟩
  have hLt : LtT K mg := ⟨hLin, ⟨(c.t.d.def_ 51 rfl), (He.glo_ok X G (c.t.d.fact 15 rfl))⟩, ⟨(c.t.d.def_ 52 rfl), (He.glo_ok X G (c.t.d.fact 16 rfl))⟩⟩
  have hCyc : CycT K mg := ⟨hLt, ⟨(c.t.d.def_ 53 rfl), (He.glo_ok X G (c.t.d.fact 17 rfl))⟩⟩
  have hLas : LasT K mg := ⟨hLt, (He.free_ok X G (c.t.d.fact 12 rfl)), (He.free_ok X G (c.t.d.fact 18 rfl)), ⟨(c.t.d.def_ 55 rfl), (He.glo_ok X G (c.t.d.fact 19 rfl))⟩⟩
  have hSom : SomT K mg := ⟨hLaw, ⟨(c.t.d.def_ 56 rfl), (He.glo_ok X G (c.t.d.fact 20 rfl))⟩⟩
  have hEqu : EquT K mg := ⟨hLaw, (He.free_ok X G (c.t.d.fact 21 rfl)), (He.free_ok X G (c.t.d.fact 22 rfl)), (He.free_ok X G (c.t.d.fact 23 rfl)), (He.free_ok X G (c.t.d.fact 11 rfl)), (He.free_ok X G (c.t.d.fact 24 rfl)), ⟨(c.t.d.def_ 54 rfl), (He.glo_ok X G (c.t.d.fact 25 rfl))⟩⟩
  have hErr : ErrT K mg := ⟨⟨(He.glo_ok X G (c.t.d.fact 26 rfl)), ⟨x0, He.eqO_ok x1⟩, fclsB_ok x2⟩, (excCB_ok X G x3), (c.t.d.def_ 0 rfl)⟩
  have hLex : LexT K mg := ⟨hErr, (He.free_ok X G (c.t.d.fact 0 rfl)), (He.free_ok X G (c.t.d.fact 27 rfl)), (mkCB_ok X G x4), (c.t.d.def_ 2 rfl), (c.t.d.def_ 3 rfl), (He.glo_ok X G (c.t.d.fact 28 rfl)), (c.t.d.def_ 4 rfl), (He.glo_ok X G (c.t.d.fact 29 rfl)), (c.t.d.def_ 5 rfl), (He.glo_ok X G (c.t.d.fact 30 rfl)), (He.str_ok X G (c.t.d.fact 31 rfl)), (He.str_ok X G (c.t.d.fact 32 rfl)), (He.str_ok X G (c.t.d.fact 33 rfl)), (He.str_ok X G (c.t.d.fact 34 rfl)), (He.str_ok X G (c.t.d.fact 35 rfl)), (He.str_ok X G (c.t.d.fact 36 rfl)), (He.str_ok X G (c.t.d.fact 37 rfl)), (He.str_ok X G (c.t.d.fact 38 rfl)), (He.str_ok X G (c.t.d.fact 39 rfl)), (He.int_ok X G (c.t.d.fact 40 rfl)), (He.int_ok X G (c.t.d.fact 41 rfl)), (He.glo_ok X G (c.t.d.fact 42 rfl)), (kTup_ok x5)⟩
  have hPar : ParT K mg := ⟨hLex, (mkCB_ok X G x6), (of_decide_eq_true x7), (He.free_ok X G (c.t.d.fact 23 rfl)), (He.free_ok X G (c.t.d.fact 3 rfl)), (He.free_ok X G (c.t.d.fact 4 rfl)), (c.t.d.def_ 9 rfl), ⟨(c.t.d.def_ 10 rfl), He.meth_ok (c.t.d.fact 43 rfl)⟩, ⟨(c.t.d.def_ 11 rfl), He.meth_ok (c.t.d.fact 44 rfl)⟩, ⟨(c.t.d.def_ 12 rfl), He.meth_ok (c.t.d.fact 45 rfl)⟩, ⟨(c.t.d.def_ 13 rfl), He.meth_ok (c.t.d.fact 46 rfl)⟩, ⟨(c.t.d.def_ 14 rfl), He.meth_ok (c.t.d.fact 47 rfl)⟩, ⟨(c.t.d.def_ 15 rfl), He.meth_ok (c.t.d.fact 48 rfl)⟩, ⟨(c.t.d.def_ 16 rfl), He.meth_ok (c.t.d.fact 49 rfl)⟩, ⟨(c.t.d.def_ 17 rfl), He.meth_ok (c.t.d.fact 50 rfl)⟩, ⟨(c.t.d.def_ 18 rfl), He.meth_ok (c.t.d.fact 51 rfl)⟩, ⟨(c.t.d.def_ 19 rfl), He.meth_ok (c.t.d.fact 52 rfl)⟩, ⟨(c.t.d.def_ 20 rfl), He.meth_ok (c.t.d.fact 53 rfl)⟩, ⟨(c.t.d.def_ 21 rfl), He.meth_ok (c.t.d.fact 54 rfl)⟩, ⟨(c.t.d.def_ 22 rfl), He.meth_ok (c.t.d.fact 55 rfl)⟩, (He.int_ok X G (c.t.d.fact 56 rfl)), (He.int_ok X G (c.t.d.fact 57 rfl)), (He.int_ok X G (c.t.d.fact 58 rfl)), (He.int_ok X G (c.t.d.fact 59 rfl)), (He.glo_ok X G (c.t.d.fact 60 rfl)), (kTup_ok x8), (He.glo_ok X G (c.t.d.fact 61 rfl)), (kTup_ok x9)⟩
  have hLoad : LoadT K mg := ⟨hPar, (mkCB_ok X G x10), (c.t.d.def_ 6 rfl), (c.t.d.def_ 23 rfl), (He.glo_ok X G (c.t.d.fact 62 rfl))⟩
  have hMach : MachT K mg := ⟨hLoad, (He.free_ok X G (c.t.d.fact 21 rfl)), (He.free_ok X G (c.t.d.fact 22 rfl)), (He.str_ok X G (c.t.d.fact 63 rfl)), ⟨(c.t.d.def_ 24 rfl), (He.glo_ok X G (c.t.d.fact 64 rfl))⟩, ⟨(c.t.d.def_ 26 rfl), (He.glo_ok X G (c.t.d.fact 65 rfl))⟩, (mkCB_ok X G x11), (c.t.d.def_ 27 rfl), ⟨(c.t.d.def_ 28 rfl), (He.glo_ok X G (c.t.d.fact 66 rfl))⟩, ⟨(c.t.d.def_ 29 rfl), (He.glo_ok X G (c.t.d.fact 67 rfl))⟩, ⟨(c.t.d.def_ 30 rfl), (He.glo_ok X G (c.t.d.fact 68 rfl))⟩, (mkCB_ok X G x12), (c.t.d.def_ 31 rfl), ⟨(c.t.d.def_ 32 rfl), (He.glo_ok X G (c.t.d.fact 69 rfl))⟩⟩
  have hSto : StoT K mg := ⟨hMach, ⟨(of_decide_eq_true x13), (of_decide_eq_true x14), (of_decide_eq_true x15)⟩, ⟨(c.a.def_ 0 rfl), propB_ok x16⟩, (He.int_ok X G (c.t.d.fact 70 rfl)), (mkCB_ok X G x17), (c.t.d.def_ 33 rfl)⟩
  have hHap : HapT K mg := ⟨hSto, ⟨(c.a.def_ 1 rfl), propB_ok x18⟩, ⟨(c.t.d.def_ 34 rfl), He.meth_ok (c.t.d.fact 71 rfl)⟩⟩
  have hRk : RkT K mg := ⟨hHap, (He.free_ok X G (c.t.d.fact 24 rfl)), ⟨(c.t.d.def_ 37 rfl), (He.glo_ok X G (c.t.d.fact 72 rfl))⟩⟩
  have hSin : SinT K mg := ⟨hSto, (He.free_ok X G (c.t.d.fact 12 rfl)), ⟨(c.t.d.def_ 38 rfl), (He.glo_ok X G (c.t.d.fact 73 rfl))⟩⟩
  have hSfe : SfeT K mg := ⟨hSin, ⟨(c.t.d.def_ 39 rfl), (He.glo_ok X G (c.t.d.fact 74 rfl))⟩⟩
  have hNev : NevT K mg := ⟨hSto, (He.free_ok X G (c.t.d.fact 4 rfl)), ⟨(c.t.d.def_ 40 rfl), (He.glo_ok X G (c.t.d.fact 75 rfl))⟩⟩
  have hCk : CkT K mg := ⟨hHap, (He.int_ok X G (c.t.d.fact 76 rfl)), ⟨(c.t.d.def_ 25 rfl), (He.glo_ok X G (c.t.d.fact 77 rfl))⟩⟩
  have hTil : TilT K mg := ⟨hCk, ⟨(c.t.d.def_ 36 rfl), (He.glo_ok X G (c.t.d.fact 78 rfl))⟩⟩
  have hCnt : CntT K mg := ⟨hTil, (He.free_ok X G (c.t.d.fact 79 rfl)), (He.free_ok X G (c.t.d.fact 80 rfl)), ⟨(c.t.d.def_ 35 rfl), He.meth_ok (c.t.d.fact 81 rfl)⟩, ⟨(c.t.d.def_ 41 rfl), (He.glo_ok X G (c.t.d.fact 82 rfl))⟩⟩
  have hNx : NxT K mg := ⟨hTil, (He.free_ok X G (c.t.d.fact 4 rfl)), ⟨(c.t.d.def_ 42 rfl), (He.glo_ok X G (c.t.d.fact 83 rfl))⟩⟩
  have hLw : LwT K mg := ⟨hHap, (He.free_ok X G (c.t.d.fact 4 rfl)), ⟨(c.t.d.def_ 43 rfl), (He.glo_ok X G (c.t.d.fact 84 rfl))⟩⟩
  have hPc : PcT K mg := ⟨hLaw, ⟨(c.t.d.def_ 58 rfl), (He.glo_ok X G (c.t.d.fact 85 rfl))⟩⟩
  have hLg : LgT K mg := ⟨hPc, (He.free_ok X G (c.t.d.fact 4 rfl)), ⟨(c.t.d.def_ 59 rfl), (He.glo_ok X G (c.t.d.fact 86 rfl))⟩⟩
  have hSu : SuT K mg := ⟨hLaw, (He.free_ok X G (c.t.d.fact 79 rfl)), ⟨(c.t.d.def_ 57 rfl), (He.glo_ok X G (c.t.d.fact 87 rfl))⟩⟩
  exact ⟨⟨hSho, hCyc, hLas, hSom, hEqu, hRk, hSfe, hNev, hCnt, hNx, hLw, hLg, hSu⟩,
    ⟨(c.t.d.def_ 60 rfl), (He.glo_ok X G (c.t.d.fact 88 rfl))⟩⟩
theorem facts2 {w : World} {K : PySem.W.Frag} {h : Heap} {mg : Str → Option Value} {f : Addr} (X : K.In h) (G : h.Ns mainGlobals mg) (hfa : mg ("law" : Str) = some (.ref f)) (c : SaysY w h K) :
    LamX.LawAtS PySem.Challenge.rw_sweeprota_k06_swept_tiles w K CX0 16 63 "_law_script" mg f h := by
  obtain ⟨T, L⟩ := facts X G c
  obtain ⟨fd, F⟩ := L.d
  have e := hfa.symm.trans L.g
  cases e
  have b := FunD.bindsA (ps := ["_law_script"]) F fun _ _ _ _ _ _ us hl => match us, hl with | [_], _ => rfl
  refine ⟨_, tfL.map (He.cT K), spLaw K, fun q hq => ?_, fun q hq => ?_, fun q hq => ?_, fun s v => b s [v] rfl, fun H a ns hl _ hH hS => ⟨a, ns, rfl, hH _ (List.mem_map.mpr ⟨("count_swept", none), by simp [tfL], rfl⟩), hS, hl, fun _ => rfl⟩, fun base _ _ hTB => ok_law T (hTB _ (List.mem_map.mpr ⟨("count_swept", none), by simp [tfL], rfl⟩)) F⟩
  · obtain ⟨p, hp, rfl⟩ := List.mem_map.mp hq
    exact (c.tb p hp).2.2
  · obtain ⟨p, hp, rfl⟩ := List.mem_map.mp hq
    exact (c.tb p hp).2.1
  · obtain ⟨p, hp, rfl⟩ := List.mem_map.mp hq
    exact PySem.W.codeHd_of_K X (c.tb p hp).1
end Sw
open PySem PySem.W PySem.Calls PyProof.Rows
theorem PySem.Challenge.cw_sweeprota_k06_swept_tiles_holds : PySem.Challenge.rw_sweeprota_k06_swept_tiles.Holds := by
  w_on; o_law
  refine HandSHeadRun.head_any (r := OpenLaw.row PySem.Challenge.rw_sweeprota_k06_swept_tiles) (q := view (OpenLaw.row PySem.Challenge.rw_sweeprota_k06_swept_tiles).prog [75]) (H := Sw.hk) (ob := Sw.ob) (M := 60000) (loose := Sw.names) (d := HandSHeadRun.topDef (OpenLaw.row PySem.Challenge.rw_sweeprota_k06_swept_tiles).prog 75) (kwd := []) Sw.ob_eq
    (by kernel_rfl) (fun s => by kernel_rfl) Sw.run (by kernel_rfl) (by kernel_rfl) (by kernel_rfl) (by rfl) (by first | assumption | decide +kernel) (by decide +kernel) ⟨rfl, rfl, rfl, rfl, rfl, by decide +kernel⟩ ?hw ?hc
  case hw => w_witness2
  case hc =>
    refine LamX.walk_ofTsE (l := PySem.Challenge.rw_sweeprota_k06_swept_tiles) (n := 63) (k := 16) (x := "_law_script") (CX := fun _ => L2.CX0) rfl (by decide) (by kernel_rfl) ⟨rfl, by decide, by decide⟩ ?F (fun _ _ _ _ _ z => z)
    intro w mg fa h Y G hmg0
    obtain ⟨K, KX, c⟩ := Y
    have hmg : mg ("law" : PySem.Str) = some (.ref fa) := by
      have e : (HandSHeadRun.topDef (OpenLaw.row PySem.Challenge.rw_sweeprota_k06_swept_tiles).prog 75).name = ("law" : PySem.Str) := by kernel_rfl
      rw [← e]
      exact hmg0
    exact ⟨K, KX, Sw.facts2 KX G hmg c⟩

end
