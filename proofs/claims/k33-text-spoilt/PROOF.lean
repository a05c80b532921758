import PyProof.Rows.All
import Wide.All
import OpenK.AllK
import Wide.FinOn
import HandS.ForMost
import HandS.ForExc
import HandS.Walk
import HandS.Evl
import HandS.Defaults
import PySem.Challenge.RW_manylanes_k33_whole_frames_text_spoilt
import KE.KUnpackStar
import HandS.IsInst
import HandS.StrMore
import HandS.ExcIs
import HandS.RaiseFrom
import HandS.SuiteRaise
import HandS.HeadHook3
import KE.KAsSuite
import HandS.HeadEnd
import HandS.Wide
import HandS.TupAny
import PyProof.ReprBulk
import HandS.Head0
import HandS.Head1
import HandS.Head2
import HandS.HeadHook1
import HandS.HeadHook2
set_option Elab.async false
set_option linter.all false
set_option maxRecDepth 100000
set_option maxHeartbeats 2000000
/-! The text of the program by places, and the scope of each def. -/
namespace Mk
open PySem PySem.Spec PyProof.Rows L2
def top (i : Nat) : Stmt := PySem.Challenge.pw_manylanes_k33_whole_frames_text_spoilt.main.body.getD i (.Pass ⟨0, 0, 0, 0⟩)
abbrev sIsWhole : Stmt := top 10
abbrev nIsWhole : List Str := ["thing"]
theorem scIsWhole : FnScope nIsWhole ["thing"] (defScope sIsWhole) := ⟨rfl, rfl, rfl, by decide +kernel, rfl, by decide +kernel, by decide +kernel⟩
abbrev sIsNumber : Stmt := top 11
abbrev nIsNumber : List Str := ["thing"]
theorem scIsNumber : FnScope nIsNumber ["thing"] (defScope sIsNumber) := ⟨rfl, rfl, rfl, by decide +kernel, rfl, by decide +kernel, by decide +kernel⟩
abbrev sIsLetters : Stmt := top 12
abbrev nIsLetters : List Str := ["thing", "sign"]
theorem scIsLetters : FnScope nIsLetters ["thing"] (defScope sIsLetters) := ⟨rfl, rfl, rfl, by decide +kernel, rfl, by decide +kernel, by decide +kernel⟩
abbrev sIsWord : Stmt := top 13
abbrev nIsWord : List Str := ["thing", "sign"]
theorem scIsWord : FnScope nIsWord ["thing"] (defScope sIsWord) := ⟨rfl, rfl, rfl, by decide +kernel, rfl, by decide +kernel, by decide +kernel⟩
abbrev sIsLane : Stmt := top 14
abbrev nIsLane : List Str := ["thing"]
theorem scIsLane : FnScope nIsLane ["thing"] (defScope sIsLane) := ⟨rfl, rfl, rfl, by decide +kernel, rfl, by decide +kernel, by decide +kernel⟩
abbrev sShowNumber : Stmt := top 17
abbrev nShowNumber : List Str := ["number"]
theorem scShowNumber : FnScope nShowNumber ["number"] (defScope sShowNumber) := ⟨rfl, rfl, rfl, by decide +kernel, rfl, by decide +kernel, by decide +kernel⟩
abbrev sReadNumber : Stmt := top 18
abbrev nReadNumber : List Str := ["text", "number", "sign"]
theorem scReadNumber : FnScope nReadNumber ["text"] (defScope sReadNumber) := ⟨rfl, rfl, rfl, by decide +kernel, rfl, by decide +kernel, by decide +kernel⟩
abbrev sArePiece : Stmt := top 23
abbrev nArePiece : List Str := ["parts", "lane", "at", "letters", "last"]
theorem scArePiece : FnScope nArePiece ["parts"] (defScope sArePiece) := ⟨rfl, rfl, rfl, by decide +kernel, rfl, by decide +kernel, by decide +kernel⟩
abbrev sAreGot : Stmt := top 24
abbrev nAreGot : List Str := ["rows", "ahead", "row", "first", "last"]
theorem scAreGot : FnScope nAreGot ["rows"] (defScope sAreGot) := ⟨rfl, rfl, rfl, by decide +kernel, rfl, by decide +kernel, by decide +kernel⟩
abbrev sIsFrame : Stmt := top 25
abbrev nIsFrame : List Str := ["thing", "word", "parts"]
theorem scIsFrame : FnScope nIsFrame ["thing"] (defScope sIsFrame) := ⟨rfl, rfl, rfl, by decide +kernel, rfl, by decide +kernel, by decide +kernel⟩
abbrev sNumbersIn : Stmt := top 26
abbrev nNumbersIn : List Str := ["words", "found", "word", "why"]
theorem scNumbersIn : FnScope nNumbersIn ["words"] (defScope sNumbersIn) := ⟨rfl, rfl, rfl, by decide +kernel, rfl, by decide +kernel, by decide +kernel⟩
abbrev sRowsIn : Stmt := top 27
abbrev nRowsIn : List Str := ["numbers", "at"]
theorem scRowsIn : FnScope nRowsIn ["numbers"] (defScope sRowsIn) := ⟨rfl, rfl, rfl, by decide +kernel, rfl, by decide +kernel, by decide +kernel⟩
abbrev sPieceIn : Stmt := top 28
abbrev nPieceIn : List Str := ["numbers", "rest", "lane", "at", "many", "last"]
theorem scPieceIn : FnScope nPieceIn ["numbers", "rest"] (defScope sPieceIn) := ⟨rfl, rfl, rfl, by decide +kernel, rfl, by decide +kernel, by decide +kernel⟩
abbrev sFrameIn : Stmt := top 29
abbrev nFrameIn : List Str := ["word", "words", "rest", "numbers"]
theorem scFrameIn : FnScope nFrameIn ["word", "words", "rest"] (defScope sFrameIn) := ⟨rfl, rfl, rfl, by decide +kernel, rfl, by decide +kernel, by decide +kernel⟩
abbrev sReadFrames : Stmt := top 30
abbrev nReadFrames : List Str := ["text", "found", "at", "end", "word", "words", "frame"]
theorem scReadFrames : FnScope nReadFrames ["text"] (defScope sReadFrames) := ⟨rfl, rfl, rfl, by decide +kernel, rfl, by decide +kernel, by decide +kernel⟩
abbrev sLawCell : Stmt := top 32
abbrev nLawCell : List Str := ["_law_script", "_law_k"]
theorem scLawCell : FnScope nLawCell ["_law_script", "_law_k"] (defScope sLawCell) := ⟨rfl, rfl, rfl, by decide +kernel, rfl, by decide +kernel, by decide +kernel⟩
abbrev sLawMix : Stmt := top 33
abbrev nLawMix : List Str := ["_law_cell_here", "_law_k", "_law_number_here", "_law_j"]
theorem scLawMix : FnScope nLawMix ["_law_cell_here", "_law_k"] (defScope sLawMix) := ⟨rfl, rfl, rfl, by decide +kernel, rfl, by decide +kernel, by decide +kernel⟩
abbrev sLawLetters : Stmt := top 34
abbrev nLawLetters : List Str := ["_law_cell_here", "_law_k", "_law_many", "_law_every", "_law_found", "_law_j", "_law_x"]
theorem scLawLetters : FnScope nLawLetters ["_law_cell_here", "_law_k", "_law_many"] (defScope sLawLetters) := ⟨rfl, rfl, rfl, by decide +kernel, rfl, by decide +kernel, by decide +kernel⟩
abbrev sLawNumber : Stmt := top 35
abbrev nLawNumber : List Str := ["_law_cell_here", "_law_k", "_law_x", "_law_y"]
theorem scLawNumber : FnScope nLawNumber ["_law_cell_here", "_law_k"] (defScope sLawNumber) := ⟨rfl, rfl, rfl, by decide +kernel, rfl, by decide +kernel, by decide +kernel⟩
abbrev sLawWord : Stmt := top 36
abbrev nLawWord : List Str := ["_law_cell_here", "_law_k", "_law_found", "_law_j", "_law_x"]
theorem scLawWord : FnScope nLawWord ["_law_cell_here", "_law_k"] (defScope sLawWord) := ⟨rfl, rfl, rfl, by decide +kernel, rfl, by decide +kernel, by decide +kernel⟩
abbrev sLawRows : Stmt := top 37
abbrev nLawRows : List Str := ["_law_cell_here", "_law_k", "_law_rows_here", "_law_scale", "_law_at", "_law_j", "_law_first", "_law_last"]
theorem scLawRows : FnScope nLawRows ["_law_cell_here", "_law_k"] (defScope sLawRows) := ⟨rfl, rfl, rfl, by decide +kernel, rfl, by decide +kernel, by decide +kernel⟩
abbrev sLawFrame : Stmt := top 38
abbrev nLawFrame : List Str := ["_law_cell_here", "_law_way", "_law_lane", "_law_number_here", "_law_size", "_law_last"]
theorem scLawFrame : FnScope nLawFrame ["_law_cell_here"] (defScope sLawFrame) := ⟨rfl, rfl, rfl, by decide +kernel, rfl, by decide +kernel, by decide +kernel⟩
abbrev sLawWritten : Stmt := top 39
abbrev nLawWritten : List Str := ["_law_frame_here", "_law_word_here", "_law_letters_here", "_law_parts", "_law_at", "_law_part", "_law_row"]
theorem scLawWritten : FnScope nLawWritten ["_law_frame_here"] (defScope sLawWritten) := ⟨rfl, rfl, rfl, by decide +kernel, rfl, by decide +kernel, by decide +kernel⟩
abbrev sLawIsNumber : Stmt := top 40
abbrev nLawIsNumber : List Str := ["_law_thing"]
theorem scLawIsNumber : FnScope nLawIsNumber ["_law_thing"] (defScope sLawIsNumber) := ⟨rfl, rfl, rfl, by decide +kernel, rfl, by decide +kernel, by decide +kernel⟩
abbrev sLawIsLane : Stmt := top 41
abbrev nLawIsLane : List Str := ["_law_thing"]
theorem scLawIsLane : FnScope nLawIsLane ["_law_thing"] (defScope sLawIsLane) := ⟨rfl, rfl, rfl, by decide +kernel, rfl, by decide +kernel, by decide +kernel⟩
abbrev sLawAreRows : Stmt := top 42
abbrev nLawAreRows : List Str := ["_law_thing", "_law_k", "_law_row"]
theorem scLawAreRows : FnScope nLawAreRows ["_law_thing"] (defScope sLawAreRows) := ⟨rfl, rfl, rfl, by decide +kernel, rfl, by decide +kernel, by decide +kernel⟩
abbrev sLawIsPiece : Stmt := top 43
abbrev nLawIsPiece : List Str := ["_law_thing", "_law_sign"]
theorem scLawIsPiece : FnScope nLawIsPiece ["_law_thing"] (defScope sLawIsPiece) := ⟨rfl, rfl, rfl, by decide +kernel, rfl, by decide +kernel, by decide +kernel⟩
abbrev sLawIs : Stmt := top 44
abbrev nLawIs : List Str := ["_law_thing", "_law_word_here", "_law_sizes", "_law_some", "_law_good", "_law_sign"]
theorem scLawIs : FnScope nLawIs ["_law_thing"] (defScope sLawIs) := ⟨rfl, rfl, rfl, by decide +kernel, rfl, by decide +kernel, by decide +kernel⟩
abbrev sLawFigures : Stmt := top 45
abbrev nLawFigures : List Str := ["_law_word_here", "_law_sign"]
theorem scLawFigures : FnScope nLawFigures ["_law_word_here"] (defScope sLawFigures) := ⟨rfl, rfl, rfl, by decide +kernel, rfl, by decide +kernel, by decide +kernel⟩
abbrev sLawMade : Stmt := top 46
abbrev nLawMade : List Str := ["_law_letter", "_law_parts", "_law_letters_here", "_law_numbers", "_law_words", "_law_part", "_law_k"]
theorem scLawMade : FnScope nLawMade ["_law_letter", "_law_parts", "_law_letters_here"] (defScope sLawMade) := ⟨rfl, rfl, rfl, by decide +kernel, rfl, by decide +kernel, by decide +kernel⟩
abbrev sLawFramesIn : Stmt := top 47
abbrev nLawFramesIn : List Str := ["_law_text", "_law_found", "_law_at", "_law_end", "_law_parts", "_law_many", "_law_frame_here"]
theorem scLawFramesIn : FnScope nLawFramesIn ["_law_text"] (defScope sLawFramesIn) := ⟨rfl, rfl, rfl, by decide +kernel, rfl, by decide +kernel, by decide +kernel⟩
abbrev sLawBent : Stmt := top 48
abbrev nLawBent : List Str := ["_law_text", "_law_cell_here", "_law_k", "_law_signs", "_law_x", "_law_sign", "_law_at", "_law_way", "_law_both", "_law_far"]
theorem scLawBent : FnScope nLawBent ["_law_text", "_law_cell_here", "_law_k"] (defScope sLawBent) := ⟨rfl, rfl, rfl, by decide +kernel, rfl, by decide +kernel, by decide +kernel⟩
abbrev sLawTold : Stmt := top 49
abbrev nLawTold : List Str := ["_law_thing", "_law_found", "e", "_law_other"]
theorem scLawTold : FnScope nLawTold ["_law_thing"] (defScope sLawTold) := ⟨rfl, rfl, rfl, by decide +kernel, rfl, by decide +kernel, by decide +kernel⟩
abbrev sLawDue : Stmt := top 50
abbrev nLawDue : List Str := ["_law_text", "_law_found"]
theorem scLawDue : FnScope nLawDue ["_law_text"] (defScope sLawDue) := ⟨rfl, rfl, rfl, by decide +kernel, rfl, by decide +kernel, by decide +kernel⟩
abbrev sLaw : Stmt := top 51
abbrev nLaw : List Str := ["_law_script", "_law_k", "_law_cell_here", "_law_frames", "_law_text", "_law_wrong", "_law_turn", "_law_odd", "_law_far", "_law_j", "_law_frame_here"]
theorem scLaw : FnScope nLaw ["_law_script"] (defScope sLaw) := ⟨rfl, rfl, rfl, by decide +kernel, rfl, by decide +kernel, by decide +kernel⟩
end Mk
set_option maxHeartbeats 2000000
/-! Rules that the layer lacks. -/
namespace Mk
open PySem PySem.Spec PyProof.Rows L2 Evl

/-! ### a first item, the rest as a new list -/
def gStar (K : PySem.W.Frag) (t : TGs) : TG := fun v σ H Q => ∃ a x xs, v = .ref a ∧ SqT K H a (x :: xs) ∧ xs.length ≤ 10000 ∧ ∀ p, H p = none → t [x, .ref p] σ (upd H p (.lst xs)) Q
theorem star_items {prog : Program} {w : World} {A : Around} {E : Value → Shared → Prop} {s : Shared} {t : Addr} {u : Value} {us : List Value} {Q : List Value → Shared → Prop} (hh : A.handled = none) (ht : IsTup s.heap t (u :: us).toArray) (hz : us.length ≤ 10000)
    (hQ : ∀ (h' : Heap) (tk : Nat), (∀ b o, s.heap.get? b = some o → h'.get? b = some o) → Q [u, .ref h'.objs.size] { s with heap := h'.push { cls := .type "list", data := .seq us.toArray }, toks := tk }) :
    wpAny (model prog w) A (unpackItems (.ref t) 2 (some 1)) Q E s := by
  have away : t ≠ s.heap.objs.size := by
    obtain ⟨o, ho, _⟩ := ht
    exact Nat.ne_of_lt (Heap.lt_size ho)
  have big : (u :: us).toArray.size = us.length + 1 := by simp
  unfold unpackItems notIterableAtAll
  refine wpAny_bind (wpAny_bind (wpAny_specialOf ht.typeIs slot_tuple_iter.lookup (wpAny_pure ?_)))
  simp only [Bool.false_eq_true, if_false]
  refine wpAny_bind (wpAny_holding (iter_tuple ht ?_))
  refine wpAny_bind (wpAny_holding (draw_tuple away 1 0 _ _ ⟨_, Heap.get?_push_size _ rfl, rfl, rfl⟩ (ht.push _) (by omega) fun h₁ it₁ same₁ => ?_))
  have tup₁ : IsTup h₁ t (u :: us).toArray := (ht.push _).extBut same₁.extBut away
  have ilt : s.heap.objs.size < h₁.objs.size := by
    obtain ⟨oi, hoi, _⟩ := it₁
    exact Heap.lt_size hoi
  have tlt : t < h₁.objs.size := by
    obtain ⟨ol, hol, _⟩ := tup₁
    exact Heap.lt_size hol
  show wpAny _ _ (if ([u] : List Value).length < 1 then _ else _) _ _ _
  rw [if_neg (by simp)]
  refine wpAny_bind (wpAny_holding (PySem.W.kun_collect (s := { s with heap := h₁ }) (T := "tuple_iterator") (.inr (.inr (.inr rfl))) (Walks.tuple (A := A.in1) hh s.heap.objs.size t away (u :: us).toArray) (fun j v st => st.1.typeIs) (k := 1) (by omega) ⟨it₁, tup₁⟩ ilt tlt (fun h₂ tk keep => ?_) (by rw [big, sizeLine_eq]; omega)))
  show wpAny _ _ (if us.length < 0 then _ else _) _ _ _
  rw [if_neg (Nat.not_lt_zero _)]
  show wpAny _ _ (newList (us.take us.length) >>= fun d => pure ([u] ++ [d] ++ us.drop us.length)) _ _ _
  rw [List.take_length, List.drop_length]
  refine wpAny_bind (wpAny_newList ?_ (by rw [sizeLine_eq]; omega))
  exact wpAny_pure (hQ h₂ tk fun b o e => keep b o (Nat.ne_of_lt (Heap.lt_size e)) (same₁.extBut b o (Nat.ne_of_lt (Heap.lt_size e)) (Heap.get?_push_of_some _ e)))
theorem pg_star {X : Cx} {e1 e2 : Expr} {k : Nat} {p2 pos : Pos} {t : TGs} (hc : X.calm = true) (h : PGs X [e1, e2] t)
    (hn : (assignEach [e1, .Starred e2 p2] X.env).length = 2 := by rfl) (hst : (assignEach [e1, .Starred e2 p2] X.env).findIdx? (·.1) = some 1 := by rfl)
    (hm : (assignEach [e1, .Starred e2 p2] X.env).map (·.2) = (assignEach [e1, e2] X.env).map (·.2) := by rfl) : PG X (.Tuple [e1, .Starred e2 p2] k pos) (gStar X.K t) := by
  refine ⟨fun pins s σ H v u Q I r hw => ?_⟩
  obtain ⟨a, x, xs, rfl, hq, hl, go⟩ := hw
  cases r
  obtain ⟨its, rv, ht, _⟩ := I.tuple hq
  cases rv with
  | cons rx rest =>
    rw [PyProof.Rows.assign_Tuple]
    refine wpAny_bind (wpAny_standAt ?_)
    unfold unpack
    rw [hn, hst, hm]
    refine wpAny_bind (wpAny_holding (star_items (I.ok.hd hc) ht (by rw [← rest.length]; exact hl) fun h' tk keep => ?_))
    have I1 : Inv X pins σ H { s with heap := h', toks := tk } := I.kept keep
    exact h.run pins _ σ _ [x, .ref h'.objs.size] _ Q (I1.lnew (t' := tk) rest (by rw [sizeLine_eq]; omega)) (.cons rx (.cons rfl .nil)) (go _ I1.fresh)

/-! ### repr, str of data -/
/-- no guard is up (no repr of a list or tuple is under way) -/
def rRepr (K : PySem.W.Frag) : List V → Hp → VK → Prop := fun xs H Q => ∃ a d, xs = [.ref a] ∧ Dp K H (.ref a) d ∧ d.showable = true ∧ d.hasDict = false ∧ d.depth ≤ 60 ∧ d.shown.length ≤ sizeLine ∧ Q (.str d.shown) H
theorem call_reprD {X : Cx} (hg : X.A.guards = some []) (hu : X.A.units + 64 < cLine) : CallR X (.builtin "repr") (rRepr X.K) := by
  intro pins s σ H xs us Q I r h
  obtain ⟨a, d, rfl, hd, hs, hn, hdep, hz, q⟩ := h
  cases r with
  | cons r1 rs =>
    cases rs
    obtain ⟨as, hr⟩ := Dp.reads I d _ _ hd r1
    cases r1
    exact repr_of_reads' hr hs (fun z => by rw [hn] at z; cases z) hg (by omega) (fun _ _ e => e) (fun h' u tk hk => ⟨.str d.shown, H, I.kept hk, ⟨u, rfl⟩, q⟩) hz
/-- str(x) as text -/
def strD : PyData → Str
  | .int i => Str.ofString (toString i)
  | .str x => x
  | .bool b => if b then "True" else "False"
  | d => d.shown
def rStrD (K : PySem.W.Frag) : List V → Hp → VK → Prop := fun xs H Q => ∃ x, xs = [x] ∧ ((∃ i : Int, x = .int i ∧ i.natAbs.log2 < 1920 ∧ Q (.str (strD (.int i))) H) ∨ (∃ z : Str, x = .str z ∧ Q (.str z) H) ∨ (∃ b : Bool, x = .bl b ∧ Q (.str (strD (.bool b))) H) ∨
  ∃ a d, x = .ref a ∧ Dp K H (.ref a) d ∧ d.showable = true ∧ d.hasDict = false ∧ d.depth ≤ 60 ∧ d.shown.length ≤ sizeLine ∧ Q (.str d.shown) H)
theorem call_strD {X : Cx} (hg : X.A.guards = some []) (hu : X.A.units + 64 < cLine) : CallR X (.type "str") (rStrD X.K) := by
  intro pins s σ H xs us Q I r h
  obtain ⟨x, rfl, h⟩ := h
  cases r with
  | cons r1 rs =>
    cases rs
    rcases h with ⟨i, rfl, hi, q⟩ | ⟨z, rfl, q⟩ | ⟨b, rfl, q⟩ | ⟨a, d, rfl, hd, hs, hn, hdep, hz, q⟩
    · obtain ⟨t, rfl⟩ := r1
      exact P.str_of_int hi ⟨.str _, H, I.tok _, ⟨_, rfl⟩, q⟩
    · obtain ⟨t, rfl⟩ := r1
      exact P.str_of_str ⟨.str _, H, I, ⟨_, rfl⟩, q⟩
    · cases r1
      exact P.str_of_bool ⟨.str (strD (.bool b)), H, I.tok _, ⟨_, rfl⟩, q⟩
    · obtain ⟨as, hr⟩ := Dp.reads I d _ _ hd r1
      cases r1
      exact str_of_reads hr hs (fun z => by rw [hn] at z; cases z) hg (by omega) (fun _ _ e => e) (fun h' u tk hk => ⟨.str d.shown, H, I.kept hk, ⟨u, rfl⟩, q⟩) hz

/-! ### a text times a number; a text backwards -/
def rMulS : R2 := fun x y H Q => ∃ (z : Str) (n : Int), x = .str z ∧ y = .int n ∧ z.length = 1 ∧ 1 ≤ n ∧ n ≤ 100000 ∧ Q (.str (Txt.mul z n)) H
theorem op_mulS {X : Cx} : OpR X (binaryOp .Mult) rMulS := by
  intro pins s σ H x y v u Q I rx ry h
  obtain ⟨z, n, rfl, rfl, hz, h1, h2, q⟩ := h
  obtain ⟨t, rfl⟩ := rx
  obtain ⟨t', rfl⟩ := ry
  refine SB.mul ⟨by simp; omega, fun _ _ => ?_, fun _ _ => ?_⟩ fun t2 k => ⟨.str _, H, I.tok _, ⟨_, rfl⟩, q⟩
  · rw [hz]
    have h3 : (1 : Int) ≤ (2 ^ 63 - 1) / n := by
      rw [Int.le_ediv_iff_mul_le (by omega)]
      omega
    omega
  · rw [hz]
    unfold Builtin.Str.tooLong
    rw [decide_eq_false_iff_not, sizeLine_eq]
    omega
def revT (z : Str) : Str := ⟨((Builtin.Str.strSliceIndices none none (-1) z.length).filterMap (z.cps[·]?)).toArray⟩
theorem revT_len {z : Str} (h : z.length ≤ 2) : (revT z).length ≤ 2 := by
  have h1 : ∀ n : Nat, n ≤ 2 → (Builtin.Str.strSliceIndices none none (-1) n).length ≤ 2 := by
    intro n hn
    match n, hn with
    | 0, _ => decide +kernel
    | 1, _ => decide +kernel
    | 2, _ => decide +kernel
  have h2 := h1 _ h
  show (((Builtin.Str.strSliceIndices none none (-1) z.length).filterMap (z.cps[·]?)).toArray).size ≤ 2
  rw [List.size_toArray]
  exact Nat.le_trans (List.length_filterMap_le _ _) h2
def tRevS (te : TE) : TE := fun σ H Q => te σ H fun x H1 => ∃ z : Str, x = .str z ∧ z.length ≤ 2 ∧ Q (.str (revT z)) H1
end Mk
set_option maxHeartbeats 2000000
namespace Mk
open PySem PySem.Spec PyProof.Rows L2 Evl
theorem pe_revS {X : Cx} {e : Expr} {te : TE} {k : Nat} {p1 p2 p3 pos : Pos} (he : PE X e te) : PE X (.Subscript e (.Slice none none (some (.UnaryOp .USub (.Constant (.int 1) k p1) p2)) p3) pos) (tRevS te) := by
  refine ⟨fun pins s σ H Q I h => Subscript_ (thn (he.run pins s σ H _ I h) fun v s1 got => ?_)⟩
  obtain ⟨x, H1, I1, r1, z, ez, hz, q⟩ := got
  subst ez
  obtain ⟨t, rfl⟩ := r1
  have part0 : PO X none tNoPart := po_none
  have partM : PO X (some (.UnaryOp .USub (.Constant (.int 1) k p1) p2)) (tPart (tUn (rU fun i => .int (-i)) (tC (.int 1)))) := po_some (pe_un un_neg pe_int)
  refine wpAny_Slice (thn (part0.run pins s1 σ H1 (fun o G => o = none ∧ G = H1) I1 ⟨rfl, rfl⟩) fun va s2 ⟨o2, G2, I2, pa, e2, g2⟩ => ?_)
  subst e2 g2
  refine thn (part0.run pins s2 σ G2 (fun o G => o = none ∧ G = G2) I2 ⟨rfl, rfl⟩) fun vb s3 ⟨o3, G3, I3, pb, e3, g3⟩ => ?_
  subst e3 g3
  refine thn (partM.run pins s3 σ G3 (fun o G => o = some (-1) ∧ G = G3) I3 ⟨1, rfl, -1, rfl, rfl, rfl⟩) fun vc s4 ⟨o4, G4, I4, pc, e4, g4⟩ => ?_
  subst e4 g4
  obtain ⟨la, rfl, ea⟩ := IsPart.raw pa
  obtain ⟨lb, rfl, eb⟩ := IsPart.raw pb
  obtain ⟨lc, rfl, ec⟩ := IsPart.raw pc
  show wpAny (model X.prog X.w) X.A (subscriptTail e (.Slice none none (some (.UnaryOp .USub (.Constant (.int 1) k p1) p2)) p3) (.str z t) (.ref s4.heap.objs.size)) (EP X pins σ Q) X.xe { s4 with heap := s4.heap.push { cls := .type "slice", data := .fields #[partValue la, partValue lb, partValue lc] } }
  refine tail_any (ops := [.str z t, .ref s4.heap.objs.size]) (typeIs_str _ _ _) F.slot_str_getitem.lookup ?_ (by with_unfolding_all rfl)
  refine wpAny_getItem_str_slice (l := la) (u := lb) (st := lc) ⟨_, Heap.get?_push_size _ rfl, rfl, rfl⟩ (by rw [ec]; rfl) ?_
  have I5 : Inv X pins σ G4 { s4 with heap := s4.heap.push { cls := .type "slice", data := .fields #[partValue la, partValue lb, partValue lc] } } := I4.kept (t' := s4.toks) fun b ob y => Heap.get?_push_of_some _ y
  have e6 : sliceMade z t la lb lc = Made.str (revT z) := by
    unfold sliceMade slicePicked
    rw [ea, eb, ec]
    exact if_neg (by simp)
  rw [e6]
  exact ⟨Nat.le_trans (revT_len hz) (by rw [sizeLine_eq]; omega), .str _, G4, I5.tok _, ⟨_, rfl⟩, q⟩

/-! ### d.update(e) -/
def rUpdate : V → List V → Hp → VK → Prop := fun x xs H Q => ∃ d e kvs more, x = .ref d ∧ xs = [.ref e] ∧ H d = some (.dK kvs) ∧ H e = some (.dK more) ∧ d ≠ e ∧ kvs.length + more.length ≤ 1000 ∧ Q .non (upd H d (.dK (mergeK kvs more)))
theorem mt_update {X : Cx} : MtR X "dict.update" rUpdate := by
  intro pins s σ H x xs v us Q I rx rs h
  obtain ⟨d, e, kvs, more, rfl, rfl, hd, he, hne, hz, q⟩ := h
  cases rx
  cases rs with
  | cons r1 rr =>
    cases rr
    cases r1
    obtain ⟨z1, n1, vs, k1, D1⟩ := dk_of I.hok hd
    obtain ⟨z2, n2, ws, k2, D2⟩ := dk_of I.hok he
    refine call_meetsIn F.slot_dict_update D1.typeIs F.entry_dict_update (F.args_dict_update_2 _ _) (meets_dict_update (mixKind X.prog X.w) d e hne n2)
      ⟨vs, ws, D1, D2, by rw [← k1.length, ← k2.length, sizeLine_eq]; omega, fun h' D' _ same => ⟨.non, _, d_write I (by rw [hd]; exact True.intro) same (let ⟨o, _, _, ho, _⟩ := D'; ⟨o, ho⟩) (dk_new ?_ n1 (KV.merge k2 k1) D'), rfl, q⟩⟩
    exact Nat.le_trans (length_mergeK more kvs) (by rw [sizeLine_eq]; omega)
end Mk
set_option maxHeartbeats 2000000
/-! except X as n: raise Y('..') from n -/
namespace Mk
open PySem PySem.Spec PyProof.Rows L2 Evl

/-! ### a name of the suite goes, in the state without the error -/
theorem goneState {X : Cx} {pins : List (Addr × Obj)} {σ : L2.St} {H : Hp} {s : Shared} {i : Nat} {n : Str} {v : Option Value} {m : Str → Option Value} {oL : Obj} {h2 : Heap} (I : L2.Inv X pins σ H s) (hN : X.N.Nodup) (hi : X.N[i]? = some n)
    (hm : ∀ (j : Nat) (x : Str) (u : V), X.N[j]? = some x → σ[j]? = some (some u) → Vis X.env.scope x → ∃ w, RelV u w ∧ Look X.env s.heap m x w)
    (same : Heap.SameBut X.env.locals s.heap h2) (ns : h2.Ns X.env.locals (fun x => if x = n then v else m x)) : L2.Inv X pins (σ.set i none) H { s with heap := h2 } := by
  have apart : ∀ b o, X.s_0.heap.get? b = some o → b ≠ X.env.locals := fun b o e z => by
    rw [z] at e
    exact absurd (Nat.lt_of_lt_of_le (Heap.lt_size e) I.ok.above) (Nat.lt_irrefl _)
  have stay : ∀ b, b ≠ X.env.locals → h2.get? b = s.heap.get? b := fun b hb => same.2 b hb
  exact
    { ok := I.ok, os := I.os, bare := I.bare
      base :=
        { keep := fun b o e f hb hx => (stay b (apart b o e)).trans (I.base.keep b o e f hb hx)
          slot := fun b o e f hb hx => (I.base.slot b o e f hb hx).imp fun sl q => (stay b (apart b o e)).trans q
          free := I.base.free
          there := fun b o e hx => (I.base.there b o e hx).imp fun o' q => (stay b (apart b o e)).trans q
          tups := I.base.tups, frzs := I.base.frzs, tbls := I.base.tbls }
      loc := ⟨_, ns, fun j x u ex eu vis => by
        have hji : j ≠ i := fun z => by
          rw [z] at eu
          by_cases hl : i < σ.length
          · rw [List.getElem?_set_self hl] at eu
            cases eu
          · rw [List.getElem?_eq_none (by rw [List.length_set]; omega)] at eu
            cases eu
        rw [List.getElem?_set_ne (Ne.symm hji)] at eu
        obtain ⟨w, rw1, lk⟩ := hm j x u ex eu vis
        refine ⟨w, rw1, ?_⟩
        rcases lk with ⟨k1, k2⟩ | ⟨k1, c, k2, k3⟩
        · refine .inl ⟨k1, ?_⟩
          show (if x = n then v else m x) = some w
          rw [if_neg (fun z : x = n => hji (nodup_ix hN ex (by rw [z]; exact hi)))]
          exact k2
        · exact .inr ⟨k1, c, k2, k3.sameBut same (I.cne x c k2)⟩⟩
      cell := fun x c e => (I.cell x c e).imp fun w q => q.sameBut same (I.cne x c e)
      free := I.free, freeC := I.freeC
      pin := fun p hp => by
        obtain ⟨p1, p2, p3, p4, p5⟩ := I.pin p hp
        exact ⟨(stay p.1 p3).trans p1, p2, p3, p4, p5⟩
      hok := fun b o e => (I.hok b o e).stay (fun c u hc q => by
        refine (stay c fun z => ?_).trans q
        rcases hc with hc | hc
        · rw [← hc, z, I.free] at e
          cases e
        · rw [z, I.free] at hc
          cases hc) (fun _ q => q) (fun _ _ q => q)
      len := by rw [List.length_set]; exact I.len }
/-- a namespace's object laid over a heap -/
theorem overlay {h h2 : Heap} {L : Addr} {m : Str → Option Value} (a : h.Ns L m) {m2 : Str → Option Value} (b : h2.Ns L m2) : ∃ (o2 : Obj), h2.get? L = some o2 ∧ (h.update L fun _ => o2).Ns L m2 ∧ Heap.SameBut L h (h.update L fun _ => o2) ∧ (h.update L fun _ => o2).get? L = some o2 ∧ (∀ vs, o2.data ≠ .fields vs) := by
  obtain ⟨o, es, ep, e, _⟩ := a
  obtain ⟨o2, es2, ep2, e2, d2, k2, f2⟩ := b
  have g : (h.update L fun _ => o2).get? L = some o2 := Heap.get?_update_self (fun _ => o2) e (by obtain ⟨oc, od, dt, sl⟩ := o2; have d3 : dt = .dict es2 ep2 := d2; subst d3; rfl)
  exact ⟨o2, e2, ⟨o2, es2, ep2, g, d2, k2, f2⟩, Heap.SameBut.update .., g, fun vs z => by rw [d2] at z; cases z⟩

/-! ### raise v from w, w the error that is handled -/
theorem raise_from {prog : Program} {w : World} {A : Around} {E : Value → Shared → Prop} {env : Env} {s : Shared} {x c : Sem Value} {Q : Flow → Shared → Prop} {x1 : Addr}
    (h : wpAny (model prog w) A x (fun v s₁ => ∃ a oe vs cls o1 cls1, v = .ref a ∧ s₁.heap.get? a = some oe ∧ oe.cls = cls ∧ oe.data = .fields vs ∧ vs[1]? = some .none ∧ 4 < vs.size ∧ x1 ≠ a ∧ HotX.HotAt A x1 s₁.heap ∧
      (∀ Q' : Value → Shared → Prop, Q' (.ref x1) s₁ → wpAny (model prog w) A c Q' E s₁) ∧ s₁.heap.get? x1 = some o1 ∧ o1.cls = cls1 ∧ PySem.W.Looks (model prog w) s₁.heap (isSubtype cls1 (.type "BaseException")) true ∧
      PySem.W.Looks (model prog w) s₁.heap (isSubtype cls (.type "BaseException")) true ∧
      (∀ h' : Heap, (∀ b o, b ≠ a → s₁.heap.get? b = some o → h'.get? b = some o) → PySem.W.Looks (model prog w) h' (typeOf cls) (.type "type")) ∧
      ∀ (h' : Heap) (oe' : Obj) (vs' : Array Value), (∀ b, b ≠ a → h'.get? b = s₁.heap.get? b) → h'.get? a = some oe' → oe'.cls = oe.cls → oe'.dict = oe.dict → oe'.data = .fields vs' → vs'[1]? = some .none → E (.ref a) { s₁ with heap := h' }) E s) :
    wpAny (model prog w) A (raiseStmt env (some x) (some c)) Q E s := by
  unfold raiseStmt
  dsimp only
  refine wpAny_bind (wpAny_mono h (fun v s₁ h₁ => ?_) fun _ _ z => z)
  obtain ⟨a, oe, vs, cls, o1, cls1, rfl, ha, hcls, hd, n1, big, hne, hot, hc, h1, hcls1, sub1, sub, ty, out⟩ := h₁
  obtain ⟨_, oh, vh, gh, dh, _⟩ := id hot
  have eo : oh = o1 := Option.some.inj (gh.symm.trans h1)
  subst eo
  -- what the two objects are
  have plain : ∀ {h' : Heap} {b : Addr} {o : Obj} {us : Array Value} {tk : Nat} {R : Bool → Shared → Prop}, h'.get? b = some o → o.data = .fields us → R false { s₁ with heap := h', toks := tk } → wpAny (model prog w) A (isType (.ref b)) R E { s₁ with heap := h', toks := tk } := by
    intro h' b o us tk R g d q
    simp only [isType, loadHead]
    refine wpAny_bind (wpAny_loadPart g ?_)
    rw [d]
    exact wpAny_pure q
  have isExc : ∀ {b : Addr} {o : Obj} {us : Array Value} {R : Value → Shared → Prop} {msg : String}, s₁.heap.get? b = some o → o.data = .fields us → PySem.W.Looks (model prog w) s₁.heap (isSubtype o.cls (.type "BaseException")) true → R (.ref b) s₁ →
      wpAny (model prog w) A (excFromValue (.ref b) msg) R E s₁ := by
    intro b o us R msg g d l q
    have LT : PySem.W.Looks (model prog w) s₁.heap (typeOf (.ref b)) o.cls := fun A Q E s k q => wpAny_typeOf_ref (k _ _ g) q
    unfold excFromValue isExcClass
    refine wpAny_bind (wpAny_bind (plain (tk := s₁.toks) g d ?_))
    simp only [Bool.false_eq_true, if_false]
    refine wpAny_pure ?_
    simp only [Bool.false_eq_true, if_false]
    refine wpAny_bind ((LT.andThen l).here ?_)
    simp only [if_true]
    exact wpAny_pure q
  -- the cause and the mark are stored
  have d3 := Obj.data_mapFields hd (·.setIfInBounds 3 (.ref x1))
  have g3 := Heap.get?_update_self (Obj.mapFields (·.setIfInBounds 3 (.ref x1))) ha (Obj.isFreed_of_fields d3)
  have d4 := Obj.data_mapFields d3 (·.setIfInBounds 4 (.bool true))
  have g4 := Heap.get?_update_self (Obj.mapFields (·.setIfInBounds 4 (.bool true))) g3 (Obj.isFreed_of_fields d4)
  have z3 : 4 < (vs.setIfInBounds 3 (Value.ref x1)).size := by rw [Array.size_setIfInBounds]; exact big
  have z4 : 2 < ((vs.setIfInBounds 3 (Value.ref x1)).setIfInBounds 4 (Value.bool true)).size := by rw [Array.size_setIfInBounds, Array.size_setIfInBounds]; omega
  have m4 : ((vs.setIfInBounds 3 (Value.ref x1)).setIfInBounds 4 (Value.bool true))[1]? = some Value.none := HotX.set_other (by decide) (HotX.set_other (by decide) n1)
  have away : ∀ b, b ≠ a → ((s₁.heap.update a (Obj.mapFields (·.setIfInBounds 3 (.ref x1)))).update a (Obj.mapFields (·.setIfInBounds 4 (.bool true)))).get? b = s₁.heap.get? b := fun b hb => by
    rw [Heap.get?_update_other _ _ (Ne.symm hb), Heap.get?_update_other _ _ (Ne.symm hb)]
  generalize hh4 : (s₁.heap.update a (Obj.mapFields (·.setIfInBounds 3 (.ref x1)))).update a (Obj.mapFields (·.setIfInBounds 4 (.bool true))) = h4 at g4 away
  have hot4 : HotX.HotAt A x1 h4 := ⟨hot.1, oh, vh, (away x1 hne).trans gh, dh, by assumption⟩
  have d2 := Obj.data_mapFields d4 (·.setIfInBounds 2 (.ref x1))
  have g2 := Heap.get?_update_self (Obj.mapFields (·.setIfInBounds 2 (.ref x1))) g4 (Obj.isFreed_of_fields d2)
  have last : wpAny (model prog w) A (raiseNew (.ref a) : Sem Flow) Q E { s₁ with heap := h4 } := by
    refine HotX.raiseNew_hot hot4 hne g4 d4 z4 (out _ _ _ (fun b hb => ?_) g2 ?_ ?_ d2 (HotX.set_other (by decide) m4))
    · exact (Heap.get?_update_other _ _ (Ne.symm hb)).trans (away b hb)
    · rw [Obj.cls_mapFields, Obj.cls_mapFields, Obj.cls_mapFields]
    · rw [HandSPX.dict_mapFields, HandSPX.dict_mapFields, HandSPX.dict_mapFields]
  have ty4 := ty h4 fun b o hb e => (away b hb).trans e
  have LT4 : PySem.W.Looks (model prog w) h4 (typeOf (.ref a)) cls := fun A Q E s k q => wpAny_typeOf_ref (k _ _ g4) (by rw [Obj.cls_mapFields, Obj.cls_mapFields, hcls]; exact q)
  have rest : wpAny (model prog w) A (do
      let b ← isType (.ref a)
      if b = true then do
        let e ← holding [.ref a] (raisedFor (.ref a) (.ref a))
        setFlight e none
        raiseNew e
      else do
        let e ← raisedInstance (.ref a)
        setFlight e none
        raiseNew e : Sem Flow) Q E { s₁ with heap := h4 } := by
    refine wpAny_bind (plain (tk := s₁.toks) g4 d4 ?_)
    simp only [Bool.false_eq_true, if_false]
    unfold raisedInstance setFlight
    refine wpAny_bind (wpAny_bind (LT4.here (wpAny_bind (ty4.here ?_))))
    rw [if_pos (beq_self_eq_true _)]
    refine wpAny_pure (wpAny_bind (wpAny_bind (wpAny_field g4 d4 m4 ?_)))
    rw [if_neg (by decide)]
    exact wpAny_pure last
  refine wpAny_bind (wpAny_holding (hc _ (wpAny_bind (wpAny_pure ?_))))
  dsimp only
  refine wpAny_bind (wpAny_holding (isExc ha hd (by rw [hcls]; exact sub) ?_))
  rw [if_neg (show ¬ (Value.ref x1 == Value.none) = true by simp)]
  refine wpAny_bind (wpAny_holding (isExc h1 dh (by rw [hcls1]; exact sub1) ?_))
  refine wpAny_bind (wpAny_setField ha hd (by omega) (wpAny_bind (wpAny_setField g3 d3 z3 ?_)))
  rw [hh4]
  exact rest

section
variable {X : Cx} {C : Addr} {bmB : List Value} {B newId initId : String}
/-- X('m'), its record told -/
theorem made_text {x m : Str} {j : Nat} {p p2 pos : Pos} (F : ExcBaseFacts B newId initId bmB) (q : PySem.W.excIn X.K C bmB newId = true) (gC : X.mg x = some (.ref C)) (kC : PySem.W.keepIn X.K (.ref C) = true) (r : Raises X (.ref C)) (hg : Gl X x)
    (hdb : (x == ("__debug__" : Str)) = false := by decide) : L2H.PMk5 X (.Call (.Name x p) [.Constant (.str m) j p2] [] pos) (fun _ H Q => Q (.ref C) none H) := by
  intro pins s σ H Q I h
  have one : PA X [.Constant (.str m) j p2] (tCons (tC (.str m)) tNil) := pa_cons pe_str pa_nil
  refine wpAny_Call_Name_kw (ld_glob I hg gC (PySem.W.callWith_K (h₀ := X.base) I.ok.mod.kin kC (thn (one.run pos pins s σ H (fun vs G => vs = [V.str m] ∧ G = H) I ⟨rfl, rfl⟩) fun us s1 got => ?_)) hdb)
  obtain ⟨vs, G, I1, rel, rfl, rfl⟩ := got
  refine ⟨I1.kIn, ?_⟩
  cases rel with
  | cons ru rn =>
    cases rn
    obtain ⟨bm, N, nm, qn, bs, hdct, sn, sub, ab, col, dd, k0, k1, k2, k3, k5, mN, o1, o2, o3, T⟩ := exc_obj I1.kIn q
    exact wpAny_call_exc_subT F T o1 o2 o3 (fun h' e made => L2H.mk_of5 I1 made r h (I1.hok.gone made.new)) (by show 1 ≤ sizeLine; rw [sizeLine_eq]; omega)
end
/-- raise v from n, in the suite of except X as n: p is the error that the suite holds -/
theorem ps_raiseFrom {Y : Cx} {W : WX} {e : Expr} {t : L2.St → Hp → XK → Prop} {p : Addr × Obj} {i : Nat} {n : Str} {np pos : Pos} (hp : p ∈ Y.pn) (hot : L2H.Hot1 Y.A p) (hsub : ∀ (M : Model) (h : Heap), Y.K.In h → PySem.W.Looks M h (isSubtype p.2.cls (.type "BaseException")) true)
    (hN : Y.N[i]? = some n) (hl : Y.env.kindOf n = some .local) (tk : L2.Takes Y W) (he : L2H.PMk5 Y e t) (hdb : (n == ("__debug__" : Str)) = false := by decide) :
    PS Y (.Raise (some e) (some (.Name n np)) pos) (fun _ σ H => σ[i]? = some (some (.ref p.1)) ∧ t σ H fun cls d H' => W cls d σ H') := by
  refine ⟨fun pins s σ H D I h => ?_⟩
  obtain ⟨at_, h⟩ := h
  obtain ⟨hh, vh, dh, ch⟩ := hot
  show wpAny _ _ (do standAt pos; raiseStmt Y.env (some (do let v ← eval e Y.env; standAt pos; pure v)) (some (do let v ← eval (.Name n np) Y.env; standAt pos; pure v))) _ _ _
  refine wpAny_bind (wpAny_standAt (raise_from (x1 := p.1) (wpAny_bind (wpAny_mono (he pins s σ H _ I h) (fun u s1 hu => wpAny_bind (wpAny_standAt (wpAny_pure ?_))) fun _ _ z => z))))
  obtain ⟨⟨a, oe, vs, sI, H', cls, d, rfl, J, keep, new, ha, hz, hd, n1, na, os, ag, r, q⟩, six⟩ := hu
  obtain ⟨pg, pn, pL, pF, _⟩ := J.pin p (List.mem_append_left _ hp)
  have gp : s1.heap.get? p.1 = some p.2 := keep _ _ pg
  have apart : p.1 ≠ a := fun z => by
    rw [z, new] at pg
    cases pg
  obtain ⟨m, nsm, look⟩ := J.loc
  obtain ⟨w, rw1, lk⟩ := look i n (.ref p.1) hN at_ (.inl hl)
  have named : m n = some (.ref p.1) := by
    rcases lk with ⟨_, k⟩ | ⟨k, _⟩
    · rw [k, (show w = Value.ref p.1 from rw1)]
    · rcases k with k | k
      · rw [hl] at k
        cases k
      · rw [hl] at k
        cases k
  obtain ⟨r1, _⟩ := r (model Y.prog Y.w) s1.heap (J.kIn.keeps keep)
  refine ⟨a, oe, vs, cls, p.2, p.2.cls, rfl, ha, hz.1, hd, n1, six a oe vs rfl ha hd, apart, ⟨hh, p.2, vh, gp, dh, ch⟩, fun Q' q' => wpAny_bind (wpAny_Name (wpAny_loadName_local J.ok.kind hl (nsm.keeps keep) named (wpAny_bind (wpAny_standAt (wpAny_pure q')))) hdb), gp, rfl,
    hsub _ _ (J.kIn.keeps keep), r1, fun h' kp => (r (model Y.prog Y.w) h' (J.kIn.keeps fun b o z => kp b o (fun y => by rw [y, new] at z; cases z) (keep b o z))).2, fun h' oe' vs' same ga hc hdd hv hv1 => ?_⟩
  refine tk _ _ (XE.new J (fun b o z => ?_) new ga ⟨hc.trans hz.1, hdd.trans hz.2.1⟩ hv hv1 na os ag q)
  rw [show h'.get? b = s1.heap.get? b from same b fun y => by rw [y, new] at z; cases z]
  exact keep b o z
end Mk
set_option maxHeartbeats 2000000
namespace Mk
open PySem PySem.Spec PyProof.Rows L2 Evl
/-- the context of the suite of except X as n that may raise -/
abbrev asX (X : Cx) (a : Addr) (pn : List (Addr × Obj)) (n : Str) (pos' : Pos) : Cx :=
  (L2H.suiteX X a pn).wish fun u s => AsSuiteRaised (model X.prog X.w) (X.A.mark (some (.ref a))) X.env n pos' (notedBy (model X.prog X.w) (X.A.mark (some (.ref a))) X.env fun x s' => cameBackBy (model X.prog X.w) X.A X.env X.xe x s') u s
theorem held_sameBut {B h h' : Heap} {l : List Env} {e L : Addr} {Z : Obj → Prop} {m : Str → Option Value} {fl : Addr} (x : HandSPX.HeldZ B l e Z fl h) (same : Heap.SameBut L h h') (ns : h'.Ns L m) (hB : B.get? L = none) (hL : ∃ o, h.get? L = some o ∧ ∀ vs, o.data ≠ .fields vs) : HandSPX.HeldZ B l e Z fl h' := by
  obtain ⟨st, ne, ff, oe, vs, T, oT, ts, he, hz, hd, h1, hT, hTe, gT, dT, h3⟩ := x
  obtain ⟨oL, gL, nf⟩ := hL
  have other : ∀ {b o us}, h.get? b = some o → o.data = Data.fields us → h'.get? b = some o := fun {b o us} g d => by
    refine (same.2 b fun z => ?_).trans g
    rw [z, gL] at g
    cases g
    exact nf _ d
  refine ⟨fun b o g => (same.2 b fun z => ?_).trans (st b o g), ne, Heap.FunFrames.sameBut same ns ff, oe, vs, T, oT, ts, other he hd, hz, hd, h1, hT, hTe, other gT dT, dT, h3⟩
  rw [z, hB] at g
  cases g
/-- what the suite raises goes on behind the clause, its name gone -/
theorem takes_as {X : Cx} {a : Addr} {n : Str} {i : Nat} {pos' : Pos} {Wout : WX} {q : Addr × Obj} {pins0 : List (Addr × Obj)} (ok : X.Ok) (hs : X.stack = X.env :: X.outer) (hf : X.env.frame = some X.env.locals) (hN : X.N.Nodup) (hi : X.N[i]? = some n) (hln : X.env.kindOf n = some .local)
    (tk : L2.Takes X Wout) : L2.Takes (asX X a (q :: (X.pn ++ pins0)) n pos') (fun cls d σ H => Wout cls d (σ.set i none) H) := by
  rintro u s' ⟨a2, B, sI, pins, σ, H, cls, d, rfl, I0, nb, up, sky, na, os, ag, w⟩
  have I : L2.Inv X pins0 σ H sI := L2H.unsuiteX (Inv.unwish I0) ok
  have fr : (X.A.mark (some (.ref a))).frames = some (X.env :: X.outer) := by
    show X.A.frames = _
    rw [ok.frames, hs]
  have sky' : Sky B (X.env :: X.outer) a2 (Zc cls d) X.env.locals s'.heap := by
    rw [← hs]
    exact sky
  have nb' : ∀ b o, sI.heap.get? b = some o → b ∉ frs X.stack → B.get? b = some o := nb
  -- behind the suite's frame has noted it
  have noted : ∀ {h1 : Heap} {tk1 : Nat}, HandSPX.HeldZ B (X.env :: X.outer) a2 (Zc cls d) X.env.locals h1 → s'.heap.UpToSlots h1 →
      wpAny (model X.prog X.w) (X.A.mark (some (.ref a))) (do bindName X.env n .none; unbindBehindTheSuite X.env n pos')
        (fun _ s₂ => wpAny (model X.prog X.w) (X.A.mark (some (.ref a))) (PySem.passOn "try.except-as" (.ref a2) X.env : Sem Flow) (fun _ _ => False) (notedBy (model X.prog X.w) (X.A.mark (some (.ref a))) X.env fun x s' => cameBackBy (model X.prog X.w) X.A X.env X.xe x s') s₂)
        (fun y s₂ => wpAny (model X.prog X.w) (X.A.mark (some (.ref a))) (setFlight (.ref a2) none) (fun _ s₃ => (notedBy (model X.prog X.w) (X.A.mark (some (.ref a))) X.env fun x s' => cameBackBy (model X.prog X.w) X.A X.env X.xe x s') y s₃) (notedBy (model X.prog X.w) (X.A.mark (some (.ref a))) X.env fun x s' => cameBackBy (model X.prog X.w) X.A X.env X.xe x s') s₂) { s' with heap := h1 } := by
    intro h1 tk1 held up1
    obtain ⟨m, nsI, look⟩ := I.loc
    have ns1 : h1.Ns X.env.locals m := (up.trans up1).ns nsI
    have plainK : (X.env.scope.kind == .class || (X.env.scope.kind == .module && X.env.locals != X.env.globals)) = false := by rw [ok.kind]; rfl
    refine wpAny_nameGoes_keeps hln ns1 plainK fun h2 v ns2 same2 => ?_
    have lmem : X.env.locals ∈ frs (X.env :: X.outer) := List.mem_filterMap.mpr ⟨X.env, List.mem_cons_self, hf⟩
    have inFr := held.2.2.1.mem lmem
    have held2 := held_sameBut held same2 ns2 inFr.1 inFr.2
    obtain ⟨o2, g2, nsO, sameO, gO, nfO⟩ := overlay nsI ns2
    have I2 := goneState (v := v) (oL := o2) I hN hi look sameO nsO
    -- the new state without the error lies below the one with it
    have up2 : (sI.heap.update X.env.locals fun _ => o2).UpToSlots h2 := fun b o g nf => by
      by_cases hb : b = X.env.locals
      · rw [hb, gO] at g
        cases g
        exact ⟨o2.slots, by rw [hb]; exact g2⟩
      · rw [sameO.2 b hb] at g
        obtain ⟨sl, e⟩ := (up.trans up1) b o g nf
        exact ⟨sl, (same2.2 b hb).trans e⟩
    have leave : ∀ {h3 : Heap} {tk3 : Nat}, HandSPX.HeldZ B (X.env :: X.outer) a2 (Zc cls d) X.env.locals h3 → h2.UpToSlots h3 → X.xe (.ref a2) { s' with heap := h3, toks := tk3 } := fun {h3 tk3} held3 up3 => by
      refine tk _ _ ⟨a2, B, { sI with heap := sI.heap.update X.env.locals fun _ => o2 }, pins0, σ.set i none, H, cls, d, rfl, I2, fun b o g hb => ?_, up2.trans up3, .inr (.inr (by rw [hs]; exact held3)), na, os, ag, w⟩
      have hbL : b ≠ X.env.locals := fun z => hb (by rw [hs, z]; exact lmem)
      rw [show (sI.heap.update X.env.locals fun _ => o2).get? b = sI.heap.get? b from sameO.2 b hbL] at g
      exact nb' b o g hb
    obtain ⟨st, ne, ff, oe, vs, T, oT, ts, he, hz, hd, h1', hT, hTe, gT, dT, h3'⟩ := id held2
    unfold PySem.passOn
    refine wpAny_bind (wpAny_field (s := { s' with heap := h2, toks := _ }) he hd h1' ?_)
    rw [if_neg (show ¬ ((Value.ref T == Value.none) = true) from by simp)]
    rw [hf]
    have go : wpAny (model X.prog X.w) (X.A.mark (some (.ref a))) (do setFlight (.ref a2) (some X.env.locals); throw (.ref a2) : Sem Flow) (fun _ _ => False) (notedBy (model X.prog X.w) (X.A.mark (some (.ref a))) X.env fun x s' => cameBackBy (model X.prog X.w) X.A X.env X.xe x s') { s' with heap := h2, toks := s'.toks + 1 } := by
      refine wpAny_bind (HandSPX.setFlight_anyZ (s := { s' with heap := h2, toks := s'.toks + 1 }) (fr := some X.env.locals) st ff ⟨oe, vs, T, oT, ts, he, hz, hd, h1', hT, hTe, gT, dT, h3'⟩ fun h3 k1 k2 k3 k4 => wpAny_throw ?_)
      refine HandSPX.againZ hf k3 ?_
      obtain ⟨oe4, vs4, T4, oT4, ts4, he4, hz4, hd4, h14, hT4, hTe4, gT4, dT4, h34⟩ := id k3
      show wpAny _ _ (do
        if (← field (.ref a2) 1) == .none then unsupported "frame.own-activation:exception-without-traceback"
        setFlight (.ref a2) X.env.frame) _ _ _
      refine wpAny_bind (wpAny_field he4 hd4 h14 ?_)
      rw [if_neg (show ¬ ((Value.ref T4 == Value.none) = true) from by simp)]
      rw [hf]
      have fin := HandSPX.setFlight_anyZ (M := model X.prog X.w) (A := X.A) (E := X.xe) (s := { s' with heap := h3, toks := s'.toks + 1 }) (Q := fun _ s'' => X.xe (.ref a2) s'') (fr := some X.env.locals) k1 k2 k3 fun h5 j1 j2 j3 j4 => leave ⟨j1, ne, j2, j3⟩ (k4.trans j4)
      first
        | exact fin
        | exact wpAny_bind (wpAny_pure fin)
    first
      | exact go
      | exact wpAny_bind (wpAny_pure go)
  show AsSuiteRaised _ _ _ _ _ _ _ _
  rcases sky' with ⟨st, ne, ff, oe, vs, he, hz, hd, h1⟩ | fl | hh
  · exact HandSPX.look_newZ Zc.steady fr ff hf he st ne hd h1 hz fun h1 held up1 => noted (tk1 := 0) held up1
  · exact HandSPX.looks_onZ Zc.steady fr hf fl fun h1 held up1 => noted (tk1 := 0) held up1
  · exact HandSPX.againZ hf hh.2.2.2 (noted (tk1 := 0) hh (Heap.UpToSlots.refl _))

/-- the wish of the clause: it names every error that comes; the name's slot is i -/
def wHit (K : PySem.W.Frag) (c : Value) (i : Nat) (ts : Addr → Value → Option Addr → TS) (D : Ends) : WX := fun cls d σ H =>
  PySem.W.exmOne K cls c = some true ∧ ∀ a, H a = none → ts a cls d { nx := fun σ' H' => D.nx (σ'.set i none) H', rt := D.rt, bk := fun σ' H' => D.bk (σ'.set i none) H', ct := fun σ' H' => D.ct (σ'.set i none) H' } (σ.set i (some (.ref a))) H
/-- try: body, except x as n: suite, where the suite may raise; the body's errors have no context -/
theorem ps_try_asX {X : Cx} {x n : Str} {c : Value} {i : Nat} {body suite : List Stmt} {b₀ : Stmt} {np pos pos' : Pos} {tb : WX → TS} {ts : Addr → Value → Option Addr → TS} {Wout : WX}
    (hs : X.stack = X.env :: X.outer) (hf : X.env.frame = some X.env.locals) (hN : X.N.Nodup) (hi : X.N[i]? = some n) (hln : X.env.kindOf n = some .local) (hc : Names X x c) (tk : L2.Takes X Wout)
    (hb : ∀ (W : WX) (pn : List (Addr × Obj)) (xe : Value → Shared → Prop), L2N.Takes (X.tr pn xe) W → PassesOwn (model X.prog X.w) X.A X.env xe → PSs (X.tr pn xe) body (tb W))
    (hsu : ∀ (a : Addr) (oe : Obj) (cls : Value) (d : Option Addr) (pn : List (Addr × Obj)), oe.cls = cls → L2H.Hot1 (X.A.mark (some (.ref a))) (a, oe) → L2.Takes (asX X a ((a, oe) :: pn) n pos') (fun cls d σ H => Wout cls d (σ.set i none) H) →
      PSs (asX X a ((a, oe) :: pn) n pos') (b₀ :: suite) (ts a cls d)) :
    PS X (.Try body [.ExceptHandler (some (.Name x np)) (some n) (b₀ :: suite) pos'] [] [] pos) (fun D σ H => tb (wHit X.K c i ts D) D σ H) := by
  refine ⟨fun pins s σ H D I h => ?_⟩
  have ok := I.ok
  have fr : X.A.frames = some (X.env :: X.outer) := by rw [ok.frames, hs]
  have body_ := (hb (wHit X.K c i ts D) (X.pn ++ pins) (fun e s₁ => wpAny (model X.prog X.w) X.A (noteFrame e X.env) (fun _ s₂ => wpAny (model X.prog X.w) X.A (setFlight e none) (fun _ s₃ =>
    wpAny (model X.prog X.w) X.A (handleBy e X.env [.ExceptHandler (some (.Name x np)) (some n) (b₀ :: suite) pos']) (SP X pins D) X.xe s₃) X.xe s₂) X.xe s₁) ?caught PassesOwn.looking).run [] s σ H D (I.toTry _) h
  case caught =>
    rintro u s' ⟨a, B, sI, pins', σ', H', cls, d, rfl, J0, nb, up, sky, na, os, ag, hit, go⟩
    have J : L2.Inv X pins σ' H' sI := J0.ofTry ok
    have sky' : Sky B (X.env :: X.outer) a (L2N.Zn cls d) X.env.locals s'.heap := by
      rw [← hs]
      exact sky
    show wpAny (model X.prog X.w) X.A (noteFrame (.ref a) X.env) _ _ _
    refine L2N.Sky.land L2N.Zn.steady fr hf sky' fun h3 fl3 up3 => ?_
    have state : ∀ {h4 : Heap}, HandSPX.FlyingZ B (X.env :: X.outer) a (L2N.Zn cls d) h4 → s'.heap.UpToSlots h4 → ∃ oe vs, h4.get? a = some oe ∧ L2N.Zn cls d oe ∧ oe.data = .fields vs ∧ L2.Inv (X.suite a ((a, oe) :: (X.pn ++ pins))) [] σ' H' { s' with heap := h4 } := by
      intro h4 fl4 up4
      have J4 : L2.Inv X pins σ' H' { s' with heap := h4 } := J.landed nb fl4.1 (up.trans up4) os ag
      obtain ⟨oe, vs, ge, ze, de⟩ := fl4.there
      have off : a ∉ frs (X.env :: X.outer) := fun hm => by
        obtain ⟨_, o', g', nf⟩ := fl4.2.2.1.mem hm
        rw [ge] at g'
        cases g'
        exact nf _ de
      have notL : a ≠ X.env.locals := fun z => off (List.mem_filterMap.mpr ⟨X.env, List.mem_cons_self, by rw [hf, z]⟩)
      have notF : a ∉ X.fs := fun hm => by
        obtain ⟨v, hv, qv⟩ := List.mem_filterMap.mp hm
        exact off (List.mem_filterMap.mpr ⟨v, List.mem_cons_of_mem _ hv, qv⟩)
      exact ⟨oe, vs, ge, ze, de, J4.suite ge de na notL notF⟩
    obtain ⟨oe3, vs3, ge3, ze3, de3, S3⟩ := state fl3 up3
    refine wpAny_handleBy_cons (codeAny_handlers_test ?_) (by intro z; cases z)
    have LT : PySem.W.Looks (model X.prog X.w) h3 (typeOf (.ref a)) cls := fun A Q E s k q => wpAny_typeOf_ref (k _ _ ge3) (by rw [ze3.1]; exact q)
    have LM := PySem.W.exm_one (M := model X.prog X.w) S3.kIn LT hit
    have test : ∀ {R : Value → Shared → Prop} {E : Value → Shared → Prop}, R c { s' with heap := h3 } → wpAny (model X.prog X.w) (X.A.mark (some (.ref a))) (eval (.Name x np) X.env) R E { s' with heap := h3 } := fun {R E} q => by
      obtain ⟨hg, hdbg, hm | ⟨hm, hv, hnn⟩⟩ := hc
      · exact ld_glob (X := X.suite a ((a, oe3) :: (X.pn ++ pins))) S3 hg hm q hdbg
      · exact ld_blt (X := X.suite a ((a, oe3) :: (X.pn ++ pins))) S3 hg hm hv q hnn hdbg
    refine test (LM.here ?_)
    refine codeAny_handlers_suite_as ?_
    refine HandSPX.lands_againZ fl3 fun h4 fl4 up4 => ?_
    obtain ⟨oe4, vs4, ge4, ze4, de4, S4⟩ := state fl4 (up3.trans up4)
    refine store_ok (X := X.suite a ((a, oe4) :: (X.pn ++ pins))) (v := .ref a) S4 hN hi (.inl hln) rfl (fun s5 S5 => ?_) (.inr hln)
    have hot : L2H.Hot1 (X.A.mark (some (.ref a))) (a, oe4) := ⟨rfl, vs4, de4, ze4.2.2 vs4 de4⟩
    have S6 : L2.Inv (asX X a ((a, oe4) :: (X.pn ++ pins)) n pos') [] _ H' s5 := Inv.wish (L2H.suiteX_of S5) _
    refine wpAny_mono ((hsu a oe4 cls d (X.pn ++ pins) ze4.1 hot (takes_as (q := (a, oe4)) (pins0 := pins) ok hs hf hN hi hln tk)).run [] s5 _ H' _ S6 (go a na)) (fun f s6 hsp => ?_) (fun e6 s6 z => z)
    have back : ∀ {σ6 : L2.St} {H6 : Hp}, L2.Inv (asX X a ((a, oe4) :: (X.pn ++ pins)) n pos') [] σ6 H6 s6 → L2.Inv X pins σ6 H6 s6 := fun S => L2H.unsuiteX (Inv.unwish S) ok
    have end_ : ∀ {σ6 : L2.St} {H6 : Hp} {R : Shared → Prop}, L2.Inv X pins σ6 H6 s6 → (∀ s7, L2.Inv X pins (σ6.set i none) H6 s7 → R s7) → wpAny (model X.prog X.w) X.A (do bindName X.env n .none; unbindBehindTheSuite X.env n pos') (fun _ s7 => R s7) X.xe s6 := fun S q => gone_ok S hN hi hln q
    cases f with
    | next =>
      obtain ⟨σ6, H6, S, q6⟩ := hsp
      exact end_ (back S) fun s7 J7 => ⟨_, _, J7, q6⟩
    | brk =>
      obtain ⟨σ6, H6, S, q6⟩ := hsp
      exact end_ (back S) fun s7 J7 => ⟨_, _, J7, q6⟩
    | cont =>
      obtain ⟨σ6, H6, S, q6⟩ := hsp
      exact end_ (back S) fun s7 J7 => ⟨_, _, J7, q6⟩
    | ret u =>
      obtain ⟨v6, σ6, H6, S, r6, q6⟩ := hsp
      exact end_ (back S) fun s7 J7 => ⟨_, _, _, J7, r6, q6⟩
  refine wpAny_Try_except (wpAny_mono body_ (fun f s1 hsp => ?_) fun e s1 z => z)
  cases f with
  | next =>
    obtain ⟨σ', H', J, q⟩ := hsp
    exact wpAny_execs_nil ⟨σ', H', J.ofTry ok, q⟩
  | brk =>
    obtain ⟨σ', H', J, q⟩ := hsp
    exact ⟨σ', H', J.ofTry ok, q⟩
  | cont =>
    obtain ⟨σ', H', J, q⟩ := hsp
    exact ⟨σ', H', J.ofTry ok, q⟩
  | ret u =>
    obtain ⟨v, σ', H', J, r, q⟩ := hsp
    exact ⟨v, σ', H', J.ofTry ok, r, q⟩
end Mk
set_option maxHeartbeats 2000000
/-! Calls by names; defs that ask that no guard is up. -/
namespace Mk
open PySem PySem.Spec PyProof.Rows L2 Evl

/-- as FnOk, called where no guard is up -/
structure FnG (P : Program) (w : World) (K : PySem.W.Frag) (mg : Str → Option Value) (base : Heap) (CX : CXT) (k : Nat) (f : Addr) (fd : FuncData) (ps : List Str) (sp : Sp) : Prop where
  len : ∀ vs H Q E, sp vs H Q E → vs.length = ps.length
  run : ∀ (A : Around) (outer : List Env) (s : Shared) (H : Hp) (args : Args) (us : List Value) (vs : List V) (Q : VK) (E : XK), Room k A → A.guards = some [] → Env0 P w K mg base A outer s H → BindsTo s fd args (ps.zip us) → Vals vs us → sp vs H Q E →
    codeAny (model P w) A (.call (.ref f) args) (CR CX outer P w H s Q E) s
/-- the def st of the text stands at the module's name x -/
structure DefAt (K : PySem.W.Frag) (mg : Str → Option Value) (x : Str) (st : Stmt) : Prop where
  ex : ∃ f fd, FunD K x x (defArgs st) (defBody st) (defScope st) [] [] f fd ∧ mg x = some (.ref f)
/-- the module's name x is a def that keeps the promise sp -/
structure Cal (P : Program) (w : World) (K : PySem.W.Frag) (mg : Str → Option Value) (base : Heap) (CX : CXT) (k : Nat) (x : Str) (ps : List Str) (sp : Sp) : Prop where
  ex : ∃ f fd, FnOk P w K mg base CX k f fd ps sp ∧ mg x = some (.ref f) ∧ PySem.W.keepIn K (.ref f) = true ∧ Binds K fd ps []
structure CalG (P : Program) (w : World) (K : PySem.W.Frag) (mg : Str → Option Value) (base : Heap) (CX : CXT) (k : Nat) (x : Str) (ps : List Str) (sp : Sp) : Prop where
  ex : ∃ f fd, FnG P w K mg base CX k f fd ps sp ∧ mg x = some (.ref f) ∧ PySem.W.keepIn K (.ref f) = true ∧ Binds K fd ps [] ∧ ∀ (s : Shared) (us : List Value), us.length = ps.length → BindsTo s fd ⟨us, []⟩ (ps.zip us)
section
variable {P : Program} {w : World} {K : PySem.W.Frag} {mg : Str → Option Value} {base : Heap} {CX : CXT} {k : Nat} {x : Str} {st : Stmt} {N ps : List Str} {sp : Sp}
abbrev BindP (x : Str) (st : Stmt) (ps : List Str) : Prop := ∀ (kV doc pm : Value) (an : Option Addr) (cdv ct : Value) (us : List Value), us.length = ps.length → bindArgs (PySem.W.fnOf x x (defArgs st) (defBody st) (defScope st) .none kV doc pm an cdv ct) ⟨us, []⟩ = pure (ps.zip us)
theorem cal_of (D : DefAt K mg x st) (S : FnScope N ps (defScope st)) (hb : BindP x st ps) (len : ∀ vs H Q E, sp vs H Q E → vs.length = ps.length)
    (body : ∀ (f : Addr) (cdv : Value) (A : Around) (outer : List Env) (s : Shared) (H : Hp) (vs : List V) (Q : VK) (E : XK), Room k (A.deeper (envOfC x (defScope st) s.heap.objs.size f cdv)) → sp vs H Q E →
      ∃ t, PSs (cxOf CX P w K mg base N x (defScope st) f cdv A outer s H E) (defBody st) t ∧ t { nx := fun _ H' => Q .non H', rt := Q } (start N vs) H) : Cal P w K mg base CX (k + 1) x ps sp := by
  obtain ⟨f, fd, F, g⟩ := D.ex
  exact ⟨f, fd, F.ok S len fun cdv A outer s H vs Q E hr h => body f cdv A outer s H vs Q E hr h, g, F.kp, F.bindsN hb⟩
theorem fnG_of {f : Addr} {name qual : Str} {params : Arguments} {body : List Stmt} {scope : Scope} {dV kV doc pm cdv ct oc : Value} {an od : Option Addr} {osl : Array (Option Value)}
    (lk : K.lookup f = some ⟨oc, od, .func (PySem.W.fnOf name qual params body scope dV kV doc pm an cdv ct), osl⟩) (hcd : PySem.W.codeIn K cdv qual = true) (S : FnScope N ps scope) (len : ∀ vs H Q E, sp vs H Q E → vs.length = ps.length)
    (hbody : ∀ (A : Around) (outer : List Env) (s : Shared) (H : Hp) (vs : List V) (Q : VK) (E : XK), Room k (A.deeper (envOfC qual scope s.heap.objs.size f cdv)) → (A.deeper (envOfC qual scope s.heap.objs.size f cdv)).guards = some [] → sp vs H Q E →
      ∃ t, PSs (cxOf CX P w K mg base N qual scope f cdv A outer s H E) body t ∧ t { nx := fun _ H' => Q .non H', rt := Q } (start N vs) H) :
    FnG P w K mg base CX (k + 1) f (PySem.W.fnOf name qual params body scope dV kV doc pm an cdv ct) ps sp := by
  refine ⟨len, fun A outer s H args us vs Q E room calm e0 bound rel hsp => ?_⟩
  have nlen := len _ _ _ _ hsp
  have inK : K.In s.heap := e0.mod.kin.keeps fun b o e => (e0.bs b o e).1
  have kinds : ∀ y ∈ ps.zip us, scope.names.lookup y.1 = some .local ∨ (scope.names.lookup y.1 = some .cell ∧ ((cellsFrom (s.heap.objs.size + 1) scope.names []).lookup y.1).isSome = true) := by
    rintro ⟨y, v⟩ hy
    exact (S.par y (List.of_mem_zip hy).1).imp id fun q => ⟨q, PySem.W.cellsFrom_some _ _ _ (.inl q)⟩
  refine codeAny_call_function room.depth (inK _ _ lk) rfl S.co S.gen rfl (PySem.W.codeRec_of inK hcd) (bound _ _ _ _ (wpAny_newFunctionEnv_cells S.kind kinds fun env he s1 new => ?_))
  subst he
  refine ⟨(e0.mod.nolimit.keeps fun b o e => (e0.bs b o e).1).keeps new.toInCall.keep, codeAny_func ?_⟩
  obtain ⟨t, ht, hq⟩ := hbody A outer s H vs Q E (room.deeper _) calm hsp
  refine wpAny_mono (ht.run [] s1 (start N vs) H _ (inv_start S room.hd e0 nlen rel new) hq) (fun fl s' hs => ?_) fun e s' hs => hs
  cases fl with
  | ret u =>
    obtain ⟨v, σ', H', J, rv, q⟩ := hs
    exact ⟨v, H', J.os, J.bare, J.base, J.hok, rv, q⟩
  | next =>
    obtain ⟨σ', H', J, q⟩ := hs
    exact ⟨.non, H', J.os, J.bare, J.base, J.hok, rfl, q⟩
  | brk => exact hs.elim fun _ z => z.elim fun _ y => y.2.elim
  | cont => exact hs.elim fun _ z => z.elim fun _ y => y.2.elim
theorem calG_of (D : DefAt K mg x st) (S : FnScope N ps (defScope st)) (hb : BindP x st ps) (len : ∀ vs H Q E, sp vs H Q E → vs.length = ps.length)
    (body : ∀ (f : Addr) (cdv : Value) (A : Around) (outer : List Env) (s : Shared) (H : Hp) (vs : List V) (Q : VK) (E : XK), Room k (A.deeper (envOfC x (defScope st) s.heap.objs.size f cdv)) → (A.deeper (envOfC x (defScope st) s.heap.objs.size f cdv)).guards = some [] → sp vs H Q E →
      ∃ t, PSs (cxOf CX P w K mg base N x (defScope st) f cdv A outer s H E) (defBody st) t ∧ t { nx := fun _ H' => Q .non H', rt := Q } (start N vs) H) : CalG P w K mg base CX (k + 1) x ps sp := by
  obtain ⟨f, fd, F, g⟩ := D.ex
  obtain ⟨oc, od, dV, kV, doc, pm, an, cdv, ct, osl, rfl, lk, hcd, _, _⟩ := id F.ex
  exact ⟨f, _, fnG_of lk hcd S len fun A outer s H vs Q E hr hg h => body f cdv A outer s H vs Q E hr hg h, g, F.kp, F.bindsN hb, F.bindsA hb⟩
end
section
variable {X : Cx} {CX : CXT} {k : Nat} {x : Str} {ps : List Str} {sp : Sp} {E : XK} {p pos : Pos} {e : Expr} {es : List Expr} {t : TA}
/-- f(e, ..) -/
theorem pe_cal (C : Cal X.prog X.w X.K X.mg X.base CX k x ps sp) (hr : Room k X.A) (hg : Gl X x) (hx : Passes CX X E) (ha : PA X (e :: es) t) (hdb : (x == ("__debug__" : Str)) = false := by decide)
    (he : starEach (e :: es) X.env = (false, eval e X.env) :: starEach es X.env := by rfl) (hpl : (backTo pos (starEach es X.env)).any (·.1) = false := by rfl) : PE X (.Call (.Name x p) (e :: es) [] pos) (tCall sp [] E t) := by
  obtain ⟨f, fd, F, g, kp, b⟩ := C.ex
  exact pe_call F hr hg g kp b .nil hx ha hdb he hpl
/-- f(e, ..), what it raises wished for at the slots -/
theorem pe_calS {ES : L2.St → XK} (C : Cal X.prog X.w X.K X.mg X.base CX k x ps sp) (hr : Room k X.A) (hg : Gl X x) (hx : ∀ σ, PassesAt CX X σ (ES σ)) (ha : PA X (e :: es) t) (hdb : (x == ("__debug__" : Str)) = false := by decide)
    (he : starEach (e :: es) X.env = (false, eval e X.env) :: starEach es X.env := by rfl) (hpl : (backTo pos (starEach es X.env)).any (·.1) = false := by rfl) : PE X (.Call (.Name x p) (e :: es) [] pos) (tCallS sp ES t) := by
  obtain ⟨f, fd, F, g, kp, b⟩ := C.ex
  exact pe_callS F hr hg g kp b hx ha hdb he hpl
theorem pe_calG (C : CalG X.prog X.w X.K X.mg X.base CX k x ps sp) (hr : Room k X.A) (calm : X.A.guards = some []) (hg : Gl X x) (hx : Passes CX X E) (ha : PA X (e :: es) t) (hdb : (x == ("__debug__" : Str)) = false := by decide)
    (he : starEach (e :: es) X.env = (false, eval e X.env) :: starEach es X.env := by rfl) (hpl : (backTo pos (starEach es X.env)).any (·.1) = false := by rfl) : PE X (.Call (.Name x p) (e :: es) [] pos) (tCall sp [] E t) := by
  obtain ⟨f, fd, F, g, kp, b, _⟩ := C.ex
  refine ⟨fun pins s σ H Q I h => wpAny_Call_Name_kw (ld_glob I hg g (PySem.W.callWith_K (h₀ := X.base) I.ok.mod.kin kp (thn (ha.run pos pins s σ H _ I h) fun us s1 got => ?_) he hpl) hdb)⟩
  obtain ⟨vs, H1, I1, rel, q⟩ := got
  have q' : sp vs H1 Q E := by
    have z : sp (vs ++ []) H1 Q E := q
    rw [List.append_nil] at z
    exact z
  have nlen : us.length = ps.length := rel.length.symm.trans (F.len _ _ _ _ q')
  refine ⟨I1.kIn, wpAny_call (codeAny_mono (F.run X.A X.stack s1 H1 ⟨us, []⟩ us vs Q E hr calm I1.env0 (by have z := b s1 us I1.kIn (by rw [List.append_nil]; exact nlen); rw [List.append_nil] at z; exact z) rel q') fun r s' hq => ?_)⟩
  cases r with
  | error e => exact hx pins σ H1 s1 e s' I1 hq
  | ok fl =>
    cases fl with
    | ret u => exact I1.after hq
    | next => exact False.elim hq
    | brk => exact False.elim hq
    | cont => exact False.elim hq
end

/-! ### the end -/
theorem law_callG {P : Program} {w : World} {K : PySem.W.Frag} {mg mb : Str → Option Value} {CX : CXT} {k : Nat} {fa a : Addr} {fd : FuncData} {x : Str} {sp : Sp} {s₁ : Shared} {vs : List Value} {ns : List Int}
    (KX : K.In s₁.heap) (hns : s₁.heap.Ns mainGlobals mg) (hb : s₁.heap.Ns builtinsNs mb) (hbb : ∀ x : Str, x ≠ "__name__" → mb x = bootBuiltins x) (hlim : s₁.heap.NoLimit) (hg : s₁.gens = #[])
    (ha : s₁.heap.get? a = some { cls := .type "list", data := .seq vs.toArray }) (hi : IntsAre vs ns) (hl : ns.length ≤ sizeLine) (hr : Room k callerA)
    (F : ∀ base : Heap, K.In base → base.Ns mainGlobals mg → FnG P w K mg base CX k fa fd [x] sp) (hbind : ∀ (s : Shared) (u : Value), BindsTo s fd ⟨[u], []⟩ [(x, u)])
    (hsp : ∀ H : Hp, Only H → SqL K H a (ns.map V.int) → sp [.ref a] H (fun v _ => v = .bl true) fun _ _ _ => False)
    (hCX : ∀ H e s', CX [] H s₁ (fun _ _ _ => False) e s' → False) :
    codeAny (model P w) callerA (.call (.ref fa) ⟨[.ref a], []⟩) (fun r s' => r = .ok (.ret (.bool true)) ∧ OldK s₁.heap s'.heap ∧ s'.os = s₁.os ∧ AllBare s'.gens) s₁ := by
  have rel := vals_ints hi
  -- H: what is tracked at the call, at most the script, as it stands
  have from_ : ∀ H : Hp, Only H → SqL K H a (ns.map V.int) → HOk P w H s₁.heap → (∀ b u, H b = some u → b = a ∧ K.lookup a = none) →
      codeAny (model P w) callerA (.call (.ref fa) ⟨[.ref a], []⟩) (fun r s' => r = .ok (.ret (.bool true)) ∧ OldK s₁.heap s'.heap ∧ s'.os = s₁.os ∧ AllBare s'.gens) s₁ := by
    intro H only seq ok mine
    have free : ∀ {b : Addr} {o : Obj}, s₁.heap.get? b = some o → (b = a → o.data ≠ .seq vs.toArray ∨ K.lookup b = some o) → H b = none := by
      intro b o g n
      cases q : H b with
      | none => rfl
      | some u =>
        obtain ⟨e, no⟩ := mine b u q
        rcases n e with z | z
        · subst e
          rw [ha] at g
          cases g
          exact absurd rfl z
        · rw [e, no] at z
          cases z
    have nsOf : ∀ {b : Addr} {m : Str → Option Value}, s₁.heap.Ns b m → (hidT s₁.heap H).Ns b m := by
      rintro b m ⟨o, es, ep, g, d, r⟩
      exact ⟨o, es, ep, hidT_get g (free g fun _ => .inl fun z => by rw [d] at z; cases z), d, r⟩
    have inB : K.In (hidT s₁.heap H) := fun b o e => hidT_get (KX b o e) (free (KX b o e) fun _ => .inr e)
    obtain ⟨mc, l1, l2⟩ := hlim
    have e0 : Env0 P w K mg (hidT s₁.heap H) callerA [] s₁ H :=
      ⟨rfl, ⟨inB, nsOf hns, ⟨mb, nsOf hb, hbb⟩, ⟨mc, nsOf l1, l2⟩⟩, fun b o e => of_hidT e, Nat.le_of_eq (hidT_size _ _), trivial, fun b z => (List.not_mem_nil (show b ∈ ([] : List Addr) from z)).elim, ok, .of_eq hg⟩
    refine codeAny_mono ((F _ inB (nsOf hns)).run callerA [] s₁ H ⟨[.ref a], []⟩ [.ref a] [.ref a] _ _ hr rfl e0 (hbind s₁ (.ref a)) (.cons rfl .nil) (hsp H only seq)) fun r s' h => ?_
    match r, h with
    | .error e, h => exact (hCX H e s' h).elim
    | .ok .next, h => exact False.elim h
    | .ok .brk, h => exact False.elim h
    | .ok .cont, h => exact False.elim h
    | .ok (.ret u), ⟨v, H', os, bare, un, ok', ru, q⟩ =>
      have ev : v = V.bl true := q
      subst ev
      have eu : u = Value.bool true := ru
      subst eu
      refine ⟨rfl, OldK.of_keep fun b o g => ?_, os, bare⟩
      rcases only b with z | ⟨ob, xs, z⟩
      · exact un.keep b o g z (fun y => List.not_mem_nil (show b ∈ ([] : List Addr) from y)) (List.not_mem_nil)
      · have g1 := (ok b _ z).1
        have g2 := (ok' b _ (un.frzs b ob _ z)).1
        rw [g] at g1
        cases g1
        exact g2
  cases hk : K.lookup a with
  | some o =>
    have g := KX a o hk
    rw [ha] at g
    cases g
    exact from_ (fun _ => none) (fun _ => .inl rfl) (.inr ⟨_, vs.toArray, _, hk, rfl, rfl, rfl, by rw [List.size_toArray, hi.length]; exact hl, by simpa using rel⟩) (fun b u z => by cases z) fun b u z => by cases z
  | none =>
    have key : ∀ {b : Addr} {u : HO}, (if b = a then some (HO.frz { cls := .type "list", data := .seq vs.toArray } (.lst (ns.map V.int))) else none) = some u → b = a ∧ u = HO.frz { cls := .type "list", data := .seq vs.toArray } (.lst (ns.map V.int)) := by
      intro b u z
      by_cases hb : b = a
      · rw [if_pos hb] at z
        exact ⟨hb, (Option.some.inj z).symm⟩
      · rw [if_neg hb] at z
        cases z
    refine from_ (fun b => if b = a then some (.frz { cls := .type "list", data := .seq vs.toArray } (.lst (ns.map V.int))) else none) (fun b => ?_) (.inl (.inr ⟨_, if_pos rfl⟩)) (fun b u z => ?_) fun b u z => ⟨(key z).1, hk⟩
    · by_cases hb : b = a
      · exact .inr ⟨_, _, if_pos hb⟩
      · exact .inl (if_neg hb)
    · obtain ⟨e1, e2⟩ := key z
      subst e1 e2
      exact ⟨ha, by rw [List.length_map]; exact hl, vs, _, rel, ha⟩
/-- a law of the script alone whose def asks that no guard is up -/
theorem walk_ofG {l : PySem.W.OpenLaw} {k : Nat} {q : Program} {loose : List Str} {XP : (Str → Option Value) → Heap → Prop} {YP : World → Heap → Prop} {d : DefRec} {x : Str} (most : l.most = some 63) (plain : d.params.defaults = []) (room : Room k callerA)
    (F : ∀ (w : World) (mg : Str → Option Value) (fa : Addr) (h : Heap), YP w h → h.Ns mainGlobals mg → mg d.name = some (.ref fa) →
      ∃ (K : PySem.W.Frag) (fd : FuncData) (sp : Sp), K.In h ∧ (∀ (s : Shared) (u : Value), BindsTo s fd ⟨[u], []⟩ [(x, u)]) ∧ (∀ (H : Hp) (a : Addr) (ns : List Int), ns.length ≤ 63 → SqL K H a (ns.map V.int) → sp [.ref a] H (fun v _ => v = .bl true) fun _ _ _ => False) ∧
        ∀ base : Heap, K.In base → base.Ns mainGlobals mg → FnG l.prog w K mg base CX0 k fa fd [x] sp) :
    PySem.W.WalkO q loose XP YP l.row.toRowW d [] (fun f vs => PySem.call f vs) :=
  Att.attach_call most plain fun w _ s₁ mg _ fa _ _ _ _ a vs ns ground Y _ _ _ named script whole few none_ => by
    obtain ⟨K, fd, sp, inK, bind, promise, keeps⟩ := F w mg fa _ Y ground.T.g named
    exact law_callG inK ground.T.g ground.T.b ground.T.builtins ground.T.nolimit none_ script whole (by rw [sizeLine_eq]; omega) room keeps bind (fun H _ seq => promise H a ns few seq) fun _ _ _ z => z
end Mk
set_option maxHeartbeats 2000000
/-! What evaluates to what: more of it. -/
namespace Mk
open PySem PySem.Spec PyProof.Rows L2 Evl

/-! ### data at values -/
section
variable {K : PySem.W.Frag} {H H' : Hp}
mutual
theorem dp_ex (e : Ex H H') : ∀ {v : V} {d : PyData}, Dp K H v d → Dp K H' v d
  | _, _, .non => .non
  | _, _, .bl b => .bl b
  | _, _, .int i => .int i
  | _, _, .str x => .str x
  | _, _, .lst h a => .lst (ex_l e h) (dpAll_ex e a)
  | _, _, .tup h a => .tup (ex_t e h) (dpAll_ex e a)
theorem dpAll_ex (e : Ex H H') : ∀ {vs : List V} {ds : List PyData}, DpAll K H vs ds → DpAll K H' vs ds
  | _, _, .nil => .nil
  | _, _, .cons h t => .cons (dp_ex e h) (dpAll_ex e t)
end
theorem dp_int {v : V} {i : Int} (h : Dp K H v (.int i)) : v = .int i := by cases h; rfl
theorem dp_str {v : V} {x : Str} (h : Dp K H v (.str x)) : v = .str x := by cases h; rfl
theorem dp_bl {v : V} {b : Bool} (h : Dp K H v (.bool b)) : v = .bl b := by cases h; rfl
theorem dp_lst {v : V} {ds : List PyData} (h : Dp K H v (.list ds)) : ∃ a xs, v = .ref a ∧ SqL K H a xs ∧ DpAll K H xs ds := by cases h with | lst h a => exact ⟨_, _, rfl, h, a⟩
theorem dp_tup {v : V} {ds : List PyData} (h : Dp K H v (.tuple ds)) : ∃ a xs, v = .ref a ∧ SqT K H a xs ∧ DpAll K H xs ds := by cases h with | tup h a => exact ⟨_, _, rfl, h, a⟩
theorem dpAll_len : ∀ {vs : List V} {ds : List PyData}, DpAll K H vs ds → vs.length = ds.length
  | _, _, .nil => rfl
  | _, _, .cons _ t => congrArg (· + 1) (dpAll_len t)
theorem dpAll_ints : ∀ {vs : List V} {ns : List Int}, DpAll K H vs (ns.map PyData.int) → vs = ns.map V.int
  | [], [], _ => rfl
  | _ :: _, [], h => by cases h
  | [], _ :: _, h => by cases h
  | v :: vs, n :: ns, h => by
    cases h with
    | cons h t =>
      rw [dp_int h, dpAll_ints t]
      rfl
theorem dpAll_strs : ∀ {vs : List V} {zs : List Str}, DpAll K H vs (zs.map PyData.str) → vs = zs.map V.str
  | [], [], _ => rfl
  | _ :: _, [], h => by cases h
  | [], _ :: _, h => by cases h
  | v :: vs, n :: ns, h => by
    cases h with
    | cons h t =>
      rw [dp_str h, dpAll_strs t]
      rfl
theorem ints_dp : ∀ (ns : List Int), DpAll K H (ns.map V.int) (ns.map PyData.int)
  | [] => .nil
  | n :: ns => .cons (.int n) (ints_dp ns)
theorem strs_dp : ∀ (zs : List Str), DpAll K H (zs.map V.str) (zs.map PyData.str)
  | [] => .nil
  | n :: ns => .cons (.str n) (strs_dp ns)
theorem dpAll_app : ∀ {vs : List V} {ds : List PyData} {v : V} {d : PyData}, DpAll K H vs ds → Dp K H v d → DpAll K H (vs ++ [v]) (ds ++ [d])
  | _, _, _, _, .nil, h => .cons h .nil
  | _, _, _, _, .cons a t, h => .cons a (dpAll_app t h)
theorem dpAll_get : ∀ {vs : List V} {ds : List PyData} {i : Nat} {v : V}, DpAll K H vs ds → vs[i]? = some v → ∃ d, ds[i]? = some d ∧ Dp K H v d
  | _, _, _, _, .nil, h => by simp at h
  | _, _, 0, _, .cons a t, h => by
    simp at h
    subst h
    exact ⟨_, rfl, a⟩
  | _, _, i + 1, _, .cons a t, h => dpAll_get (i := i) t (by simpa using h)
/-- its type's name -/
def tyN : PyData → String
  | .none => "NoneType"
  | .bool _ => "bool"
  | .int _ => "int"
  | .str _ => "str"
  | .list _ => "list"
  | .tuple _ => "tuple"
  | .dict _ => "dict"
theorem tyx_L {a : Addr} {xs : List V} (h : SqL K H a xs) : TyX K H (.ref a) (.type "list") := by
  rcases h with (h | ⟨o, h⟩) | ⟨o, its, n, hk, hc, _⟩
  · exact .base (.lst h)
  · exact .base (.frz h)
  · exact .kList hk hc
theorem tyx_T {a : Addr} {xs : List V} (h : SqT K H a xs) : TyX K H (.ref a) (.type "tuple") := by
  rcases h with (h | ⟨o, h⟩) | ⟨o, its, n, hk, hc, _⟩
  · exact .base (.tup h)
  · exact .fTuple h
  · exact .kTuple hk hc
theorem tyx_dp {v : V} {d : PyData} (h : Dp K H v d) : TyX K H v (.type (tyN d)) := by
  cases h with
  | non => exact .base .non
  | bl b => exact .base (.bl b)
  | int i => exact .base (.int i)
  | str x => exact .base (.str x)
  | lst h _ => exact tyx_L h
  | tup h _ => exact tyx_T h
end

/-! ### values by names of the module -/
section
variable {X : Cx}
theorem pe_gint {x : Str} {i : Int} {pos : Pos} (h : ∃ t, X.mg x = some (.int i t)) (hg : Gl X x) (hd : (x == ("__debug__" : Str)) = false := by decide) : PE X (.Name x pos) (tC (.int i)) := by
  obtain ⟨t, e⟩ := h
  exact pe_glob hg e ⟨t, rfl⟩ hd
theorem pe_gstr {x : Str} {z : Str} {pos : Pos} (h : ∃ t, X.mg x = some (.str z t)) (hg : Gl X x) (hd : (x == ("__debug__" : Str)) = false := by decide) : PE X (.Name x pos) (tC (.str z)) := by
  obtain ⟨t, e⟩ := h
  exact pe_glob hg e ⟨t, rfl⟩ hd
end

section
variable {K : PySem.W.Frag} {σ : L2.St} {H H' : Hp} {ta tb te tx : TE} {t u : TT} {x y z v : V} {r : R2}
/-! ### expressions that give data all of whose objects are new -/
/-- what is new between H and H2 stands in H' -/
def New (H H2 H' : Hp) : Prop := ∀ a o, H a = none → H2 a = some o → H' a = some o
/-- the datum d at v, of objects new between H and H2 -/
def DpN (K : PySem.W.Frag) (H H2 : Hp) (v : V) (d : PyData) : Prop := ∀ H', New H H2 H' → Dp K H' v d
def DpNs (K : PySem.W.Frag) (H H2 : Hp) (vs : List V) (ds : List PyData) : Prop := ∀ H', New H H2 H' → DpAll K H' vs ds
theorem DpN.dp {H2 : Hp} {d : PyData} (h : DpN K H H2 v d) : Dp K H2 v d := h H2 fun _ _ _ q => q
theorem DpNs.dp {H2 : Hp} {vs : List V} {ds : List PyData} (h : DpNs K H H2 vs ds) : DpAll K H2 vs ds := h H2 fun _ _ _ q => q
theorem New.wide {H0 H1 H2 H3 G : Hp} (e : Ex H0 H1) (e' : Ex H2 H3) (n : New H0 H3 G) : New H1 H2 G := fun a o h q => n a o (fresh_back e h) (e' a o q)
theorem DpN.wide {H0 H1 H2 H3 : Hp} {d : PyData} (h : DpN K H1 H2 v d) (e : Ex H0 H1) (e' : Ex H2 H3) : DpN K H0 H3 v d := fun G n => h G (n.wide e e')
theorem DpNs.wide {H0 H1 H2 H3 : Hp} {vs : List V} {ds : List PyData} (h : DpNs K H1 H2 vs ds) (e : Ex H0 H1) (e' : Ex H2 H3) : DpNs K H0 H3 vs ds := fun G n => h G (n.wide e e')
def EvN (K : PySem.W.Frag) (te : TE) (σ : L2.St) (H : Hp) (d : PyData) : Prop := ∀ H1, Ex H H1 → ∀ Q : VK, (∀ v H2, Ex H1 H2 → DpN K H1 H2 v d → Q v H2) → te σ H1 Q
theorem EvN.mono {d : PyData} (e : Ex H H') (h : EvN K te σ H d) : EvN K te σ H' d := fun H1 a Q q => h H1 (e.trans a) Q q
theorem EvL.monoL {xs : List V} (e : Ex H H') (h : EvL te σ H xs) : EvL te σ H' xs := fun H1 a Q q => h H1 (e.trans a) Q q
def SpN (K : PySem.W.Frag) (sp : Sp) (vs : List V) (H : Hp) (d : PyData) : Prop := ∀ H1, Ex H H1 → ∀ Q : VK, (∀ v H2, Ex H1 H2 → DpN K H1 H2 v d → Q v H2) → ∀ E : XK, sp vs H1 Q E
theorem en_call {sp : Sp} {dvs vs : List V} {E : XK} {ta : TA} {d : PyData} (h : EvA ta σ H vs) (hs : SpN K sp (vs ++ dvs) H d) : EvN K (tCall sp dvs E ta) σ H d := fun H1 e Q q =>
  h H1 e _ fun H2 e2 => hs H2 (e.trans e2) Q (fun v H3 e3 hd => q v H3 (e2.trans e3) (hd.wide e2 (Ex.refl H3))) E
theorem en_flat {d : PyData} (h : Ev te σ H v) (hd : ∀ G, Dp K G v d) : EvN K te σ H d := fun H1 e Q q => h H1 e Q fun H2 e2 => q v H2 e2 fun G _ => hd G
theorem en_tup {xs : List V} {ds : List PyData} (h : EvU te σ H xs) (hd : ∀ G, DpAll K G xs ds) : EvN K te σ H (.tuple ds) := fun H1 e Q q => h H1 e Q fun p H2 n e2 hp => q _ H2 e2 fun G ng => .tup (st_of (ng p _ n hp)) (hd G)
theorem en_lst {xs : List V} {ds : List PyData} (h : EvL te σ H xs) (hd : ∀ G, DpAll K G xs ds) : EvN K te σ H (.list ds) := fun H1 e Q q => h H1 e Q fun p H2 n e2 hp => q _ H2 e2 fun G ng => .lst (sq_of (ng p _ n hp)) (hd G)
/-- arguments that are such data -/
def EvNA (K : PySem.W.Frag) (ta : TA) (σ : L2.St) (H : Hp) (ds : List PyData) : Prop := ∀ H1, Ex H H1 → ∀ Q : List V → Hp → Prop, (∀ vs H2, Ex H1 H2 → DpNs K H1 H2 vs ds → Q vs H2) → ta σ H1 Q
theorem ena_nil : EvNA K tNil σ H [] := fun H1 _ _ q => q [] H1 (Ex.refl H1) fun _ _ => .nil
theorem ena_cons {tr : TA} {d : PyData} {ds : List PyData} (h : EvN K te σ H d) (hr : EvNA K tr σ H ds) : EvNA K (tCons te tr) σ H (d :: ds) := fun H1 e _ q =>
  h H1 e _ fun v H2 e2 hd => hr H2 (e.trans e2) _ fun vs H3 e3 ha => q (v :: vs) H3 (e2.trans e3) fun G n => .cons (hd G (n.wide (Ex.refl H1) e3)) (ha G (n.wide e2 (Ex.refl H3)))
theorem en_tupN {ta : TA} {ds : List PyData} (h : EvNA K ta σ H ds) (hl : ds.length ≤ 100000) : EvN K (tTup ta) σ H (.tuple ds) := fun H1 e _ q =>
  h H1 e _ fun vs H2 e2 ha => ⟨sz_of (by rw [dpAll_len ha.dp]; exact hl), fun p hp => q _ _ (e2.trans (Ex.new hp)) fun G n => .tup (st_of (n p _ (fresh_back e2 hp) upd_same)) (ha G (n.wide (Ex.refl H1) (Ex.new hp)))⟩
theorem en_lstN {ta : TA} {ds : List PyData} (h : EvNA K ta σ H ds) (hl : ds.length ≤ 100000) : EvN K (tLst ta) σ H (.list ds) := fun H1 e _ q =>
  h H1 e _ fun vs H2 e2 ha => ⟨sz_of (by rw [dpAll_len ha.dp]; exact hl), fun p hp => q _ _ (e2.trans (Ex.new hp)) fun G n => .lst (sq_of (n p _ (fresh_back e2 hp) upd_same)) (ha G (n.wide (Ex.refl H1) (Ex.new hp)))⟩
variable {D : Ends} {tz : TS}
theorem s_asgN {i : Nat} {d : PyData} (h : EvN K te σ H d) (k : ∀ v H1, Ex H H1 → DpN K H H1 v d → D.nx (σ.set i (some v)) H1) : tAsg te (gName i) D σ H := h H (Ex.refl H) _ k
theorem q_asgN {i : Nat} {d : PyData} (h : EvN K te σ H d) (k : ∀ v H1, Ex H H1 → DpN K H H1 v d → tz D (σ.set i (some v)) H1) : tSeq (tAsg te (gName i)) tz D σ H := s_asgN (D := { D with nx := tz D }) h k
theorem s_retN {d : PyData} (h : EvN K te σ H d) (k : ∀ v H1, Ex H H1 → DpN K H H1 v d → D.rt v H1) : tRet te D σ H := h H (Ex.refl H) _ k
/-- the promise's shape: new data -/
def RetN (K : PySem.W.Frag) (d : PyData) (H : Hp) (Q : VK) : Prop := ∀ v H2, Ex H H2 → DpN K H H2 v d → Q v H2
theorem RetN.go {d : PyData} {Q : VK} (k : RetN K d H Q) (e : Ex H H') : RetN K d H' Q := fun v H2 e2 hd => k v H2 (e.trans e2) (hd.wide e (Ex.refl H2))
theorem RetV.goV {Q : VK} (k : RetV v H Q) (e : Ex H H') : RetV v H' Q := fun H2 e2 => k H2 (e.trans e2)
theorem s_retV (h : Ev te σ H v) (k : RetV v H D.rt) : tRet te D σ H := s_ret h fun H1 e => k H1 e
theorem s_retR {d : PyData} (h : EvN K te σ H d) (k : RetN K d H D.rt) : tRet te D σ H := s_retN h fun v H1 e hd => k v H1 e hd
/-- a list at p that grows, its items new since H0 and apart from p -/
structure Grows (K : PySem.W.Frag) (H0 : Hp) (p : Addr) (ds : List PyData) (H : Hp) : Prop where
  ex : Ex H0 H
  new : H0 p = none
  at_ : ∃ acc, H p = some (.lst acc) ∧ ∀ G : Hp, (∀ a o, a ≠ p → H0 a = none → H a = some o → G a = some o) → DpAll K G acc ds
theorem grows_nil {H0 : Hp} {p : Addr} (h : H0 p = none) (e : Ex H0 H) (hp : H p = some (.lst [])) : Grows K H0 p [] H := ⟨e, h, [], hp, fun _ _ => .nil⟩
theorem Grows.on {H0 : Hp} {p : Addr} {ds : List PyData} (g : Grows K H0 p ds H) (e : Ex H H') : Grows K H0 p ds H' := by
  obtain ⟨acc, h1, h2⟩ := g.at_
  exact ⟨g.ex.trans e, g.new, acc, e p _ h1, fun G n => h2 G fun a o na h0 q => n a o na h0 (e a o q)⟩
theorem Grows.seq {H0 : Hp} {p : Addr} {ds : List PyData} (g : Grows K H0 p ds H) : ∃ acc, H p = some (.lst acc) ∧ acc.length = ds.length := by
  obtain ⟨acc, h1, h2⟩ := g.at_
  exact ⟨acc, h1, dpAll_len (h2 H fun _ _ _ _ q => q)⟩
/-- the list with one more item, at the end -/
theorem Grows.more {H0 : Hp} {p : Addr} {ds : List PyData} {d : PyData} {acc : List V} (g : Grows K H0 p ds H) (hp : H p = some (.lst acc)) (hd : DpN K H H' v d) (e : Ex H H') : Grows K H0 p (ds ++ [d]) (upd H' p (.lst (acc ++ [v]))) := by
  obtain ⟨acc', h1, h2⟩ := g.at_
  rw [hp] at h1
  cases h1
  refine ⟨(g.ex.trans e).mut g.new, g.new, acc ++ [v], upd_same, fun G n => dpAll_app (h2 G fun a o na h0 q => n a o na h0 (by rw [upd_ne na]; exact e a o q)) (hd G fun a o h0 q => ?_)⟩
  have na : a ≠ p := fun z => by
    rw [z, hp] at h0
    cases h0
  exact n a o na (fresh_back g.ex h0) (by rw [upd_ne na]; exact q)
/-- at the front -/
theorem Grows.front {H0 : Hp} {p : Addr} {ds : List PyData} {d : PyData} {acc : List V} (g : Grows K H0 p ds H) (hp : H p = some (.lst acc)) (hd : DpN K H H' v d) (e : Ex H H') : Grows K H0 p (d :: ds) (upd H' p (.lst (v :: acc))) := by
  obtain ⟨acc', h1, h2⟩ := g.at_
  rw [hp] at h1
  cases h1
  refine ⟨(g.ex.trans e).mut g.new, g.new, v :: acc, upd_same, fun G n => .cons (hd G fun a o h0 q => ?_) (h2 G fun a o na h0 q => n a o na h0 (by rw [upd_ne na]; exact e a o q))⟩
  have na : a ≠ p := fun z => by
    rw [z, hp] at h0
    cases h0
  exact n a o na (fresh_back g.ex h0) (by rw [upd_ne na]; exact q)
theorem Grows.done {H0 : Hp} {p : Addr} {ds : List PyData} (g : Grows K H0 p ds H) : DpN K H0 H (.ref p) (.list ds) := by
  obtain ⟨acc, h1, h2⟩ := g.at_
  exact fun G n => .lst (sq_of (n p _ g.new h1)) (h2 G fun a o _ h0 q => n a o h0 q)

/-! ### isinstance, len, all, texts -/
theorem ev_isi {T c : String} {b : Bool} (h : Ev te σ H v) (ty : TyX K H v (.type T)) (mono : ∀ H1, Ex H H1 → TyX K H1 v (.type T)) (kb : kitB T c = some b) : Ev (tCB (rIsi K) (tCons te (tCons (tC (.ty c)) tNil))) σ H (.bl b) := fun H1 e Q q =>
  h H1 e _ fun H2 e2 => ⟨v, .ty c, .type T, .type c, b, rfl, .ty c, mono H2 (e.trans e2), kit_ty kb, q H2 e2⟩
theorem ev_isiD {c : String} {b : Bool} {d : PyData} (h : Ev te σ H v) (hd : Dp K H v d) (kb : kitB (tyN d) c = some b) : Ev (tCB (rIsi K) (tCons te (tCons (tC (.ty c)) tNil))) σ H (.bl b) :=
  ev_isi h (tyx_dp hd) (fun H1 e => tyx_dp (dp_ex e hd)) kb
abbrev rLenC (K : PySem.W.Frag) : List V → Hp → VK → Prop := fun xs H Q => ∃ x n, xs = [x] ∧ LenV K x H n ∧ Q (.int n) H
theorem ev_lenS {w : Str} (h : Ev te σ H (.str w)) (hz : w.length ≤ 100000) : Ev (tCB (rLenC K) (tCons te tNil)) σ H (.int (w.length : Int)) := fun H1 e Q q =>
  h H1 e _ fun H2 e2 => ⟨_, w.length, rfl, ⟨sz_of hz, rfl⟩, q H2 e2⟩
theorem ev_lenL {p : Addr} {xs : List V} (h : Ev te σ H (.ref p)) (hl : SqL K H p xs) : Ev (tCB (rLenC K) (tCons te tNil)) σ H (.int (xs.length : Int)) := fun H1 e Q q =>
  h H1 e _ fun H2 e2 => ⟨_, xs.length, rfl, .inl ⟨xs, ex_l (e.trans e2) hl, rfl⟩, q H2 e2⟩
theorem ev_lenT {p : Addr} {xs : List V} (h : Ev te σ H (.ref p)) (hl : SqT K H p xs) : Ev (tCB (rLenC K) (tCons te tNil)) σ H (.int (xs.length : Int)) := fun H1 e Q q =>
  h H1 e _ fun H2 e2 => ⟨_, xs.length, rfl, .inr ⟨xs, ex_t (e.trans e2) hl, rfl⟩, q H2 e2⟩
theorem ev_all {bs : List Bool} (h : EvL te σ H (bs.map V.bl)) : Ev (tCB (rAll K) (tCons te tNil)) σ H (.bl (bs.all id)) := fun H1 e Q q =>
  h H1 e _ fun p H2 _ e2 hp => ⟨p, bs, rfl, sq_of hp, q H2 e2⟩
abbrev rLeS : R2 := fun x y H Q => ∃ i j, x = .str i ∧ y = .str j ∧ Q (.bl (!decide (j.cps.toList < i.cps.toList))) H
theorem rv_leS {a b : Str} : RV rLeS (.str a) (.str b) H (.bl (!decide (b.cps.toList < a.cps.toList))) := fun H1 _ _ q => ⟨a, b, rfl, rfl, q H1 (Ex.refl H1)⟩
abbrev rInSg : R2 := fun x y H Q => ∃ (c : Nat) (z : Str), x = .str ⟨#[c]⟩ ∧ y = .str z ∧ Q (.bl (decide (c ∈ z.cps.toList))) H
abbrev rNotInSg : R2 := fun x y H Q => ∃ (c : Nat) (z : Str), x = .str ⟨#[c]⟩ ∧ y = .str z ∧ Q (.bl (!decide (c ∈ z.cps.toList))) H
theorem rv_inSg {c : Nat} {w : Str} : RV rInSg (.str ⟨#[c]⟩) (.str w) H (.bl (decide (c ∈ w.cps.toList))) := fun H1 _ _ q => ⟨c, w, rfl, rfl, q H1 (Ex.refl H1)⟩
theorem rv_notInSg {c : Nat} {w : Str} : RV rNotInSg (.str ⟨#[c]⟩) (.str w) H (.bl (!decide (c ∈ w.cps.toList))) := fun H1 _ _ q => ⟨c, w, rfl, rfl, q H1 (Ex.refl H1)⟩
abbrev rAddS : R2 := fun x y H Q => ∃ i j, x = .str i ∧ y = .str j ∧ i.length + j.length ≤ sizeLine ∧ Q (.str (i ++ j)) H
theorem rv_addS {a b : Str} (h : a.length + b.length ≤ 100000) : RV rAddS (.str a) (.str b) H (.str (a ++ b)) := fun H1 _ _ q => ⟨a, b, rfl, rfl, sz_of h, q H1 (Ex.refl H1)⟩
theorem ev_slS {tl th : TO} {w : Str} {lo hi : Option Int} (h : Ev te σ H (.str w)) (h1 : EvO tl σ H lo) (h2 : EvO th σ H hi) (hz : w.length ≤ 100000) : Ev (tSl rSlS te tl th) σ H (.str (cutS w lo hi)) := fun H1 e _ q =>
  h H1 e _ fun H2 e2 => h1 H2 (e.trans e2) _ fun H3 e3 => h2 H3 ((e.trans e2).trans e3) _ fun H4 e4 => ⟨w, rfl, sz_of hz, q H4 ((e2.trans e3).trans e4)⟩
/-- a chain of two comparisons -/
theorem ev_chain {r r' : R2} {a b : Bool} {tc : TE} (ha : Ev ta σ H x) (hb : Ev tb σ H y) (hr : RV r x y H (.bl a)) (hc : a = true → Ev tc σ H z) (hr' : a = true → RV r' y z H (.bl b)) : Ev (tChain r r' ta tb tc) σ H (.bl (a && b)) := fun H1 e Q q =>
  ha H1 e _ fun H2 e2 => hb H2 (e.trans e2) _ fun H3 e3 => hr H3 ((e.trans e2).trans e3) _ fun H4 e4 => ⟨a, rfl, by
    have e14 := (e2.trans e3).trans e4
    cases a with
    | true =>
      show tc σ H4 fun w' H5 => r' y w' H5 Q
      exact hc rfl H4 (e.trans e14) _ fun H5 e5 => hr' rfl H5 ((e.trans e14).trans e5) Q fun H6 e6 => q H6 ((e14.trans e5).trans e6)
    | false =>
      show Q (.bl false) H4
      exact q H4 e14⟩

/-! ### comprehensions: each item's value -/
theorem given_map {n : Nat} {v : Nat → V} : given n (fun _ => true) v = (List.range n).map v := by
  unfold given
  rw [List.filter_eq_self.mpr fun _ _ => rfl]
theorem et_yes : EvT tYes σ H true := fun H1 _ _ q => q H1 (Ex.refl H1)
theorem map_range_get {α : Type} {xs : List α} {f : α → V} {g : Nat → V} (h : ∀ i x, xs[i]? = some x → g i = f x) : (List.range xs.length).map g = xs.map f := by
  apply List.ext_getElem?
  intro i
  rw [List.getElem?_map, List.getElem?_map]
  by_cases hi : i < xs.length
  · rw [List.getElem?_range hi, List.getElem?_eq_getElem hi]
    exact congrArg some (h i _ (List.getElem?_eq_getElem hi))
  · rw [List.getElem?_eq_none (by rw [List.length_range]; omega), List.getElem?_eq_none (by omega)]
    rfl
/-- over a list that is read -/
theorem el_mapL {a : Addr} {xs : List V} {tl : TE} {j : Nat} {vs : List Nat} (f : V → V) (h : Ev tl σ H (.ref a)) (hx : SqL K H a xs) (hz : xs.length ≤ 40000) (hw : ∀ x, wipe ((wipe σ vs).set j (some x)) vs = wipe σ vs)
    (he : ∀ (x : V) H1, Ex H H1 → x ∈ xs → Ev te ((wipe σ vs).set j (some x)) H1 (f x)) : EvL (tLc (iList K tl) (gName j) tYes te vs) σ H (xs.map f) := by
  have q := el_lcL (K := K) (te := te) (t := tYes) (fun _ => true) (fun i => (xs[i]?.map f).getD .non) h hx hz hw (fun i x H1 _ _ => et_yes) (fun i x H1 e hi _ => by
    rw [hi]
    exact he x H1 e (List.mem_of_getElem? hi))
  rw [given_map, map_range_get (f := f) fun i x hi => by rw [hi]; rfl] at q
  exact q
/-- over a text's signs -/
theorem el_mapS {w : Str} {tl : TE} {j : Nat} {vs : List Nat} (f : Nat → V) (h : Ev tl σ H (.str w)) (hz : w.length ≤ 40000) (hw : ∀ x, wipe ((wipe σ vs).set j (some x)) vs = wipe σ vs)
    (he : ∀ (c : Nat) H1, Ex H H1 → c ∈ w.cps.toList → Ev te ((wipe σ vs).set j (some (.str ⟨#[c]⟩))) H1 (f c)) : EvL (tLc (iStr tl) (gName j) tYes te vs) σ H (w.cps.toList.map f) := fun H0 e Q q => h H0 e _ fun H1 e1 => ⟨w, rfl, fun Dl hD => by
  have hlen : w.cps.toList.length = w.cps.size := by simp
  refine lc_it walk_str (Cw H1 (fun _ => true) (fun i => (w.cps.toList[i]?.map f).getD .non) Dl) ⟨hD, Ex.new hD, upd_same⟩ (fun _ _ _ _ => trivial) (fun i x H2 H3 hi p y => ?_) fun H2 p => ?_
  · obtain ⟨rfl, c, hc, rfl⟩ := y
    have hc' : w.cps.toList[i]? = some c := by rw [Array.getElem?_toList]; exact hc
    have hi' : i < 50000 := by
      have : w.length = w.cps.size := rfl
      omega
    refine ⟨hw _, cw_turn p hi' et_yes fun _ => ?_⟩
    rw [hc']
    exact he c H1 (e.trans e1) (List.mem_of_getElem? hc')
  · refine q Dl H2 (fresh_back e1 p.1) (e1.trans p.2.1) ?_
    have := p.2.2
    rw [given_map, ← hlen, map_range_get (f := f) fun i x hi => by rw [hi]; rfl] at this
    exact this⟩
/-- over anything that is walked and makes nothing itself, each item's new datum -/
theorem en_map {J : It} {n : Nat} {G : Hp → Prop} {Y : Nat → Hp → V → Hp → Prop} {j : Nat} {vs : List Nat} {f : Nat → PyData} {Q : VK} {H1 : Hp} (w : Walk J n G Y) (hn : n ≤ 40000) (hG : ∀ H2, Ex H1 H2 → G H2) (hY : ∀ i H x H', Y i H x H' → H' = H)
    (hw : ∀ x, wipe ((wipe σ vs).set j (some x)) vs = wipe σ vs) (he : ∀ (i : Nat) (x : V) H2, Ex H1 H2 → i < n → Y i H2 x H2 → EvN K te ((wipe σ vs).set j (some x)) H2 (f i)) (q : ∀ v H2, Ex H1 H2 → DpN K H1 H2 v (.list ((List.range n).map f)) → Q v H2) :
    ∀ D, H1 D = none → ∃ W : Nat → Nat → Hp → Prop, (∃ m, W 0 m (upd H1 D (.lst []))) ∧ ∀ i m H, W i m H → (J.stop i H ∧ Q (.ref D) H) ∨ (J.go i H ∧ ∃ Nx : Hp → Prop, (∀ H', Nx H' → ∃ m', m' < m ∧ W (i + 1) m' H') ∧ ∀ x H', J.yld i H x H' → gName j x (wipe σ vs) H' fun σ2 H2 => wipe σ2 vs = wipe σ vs ∧ tYes σ2 H2 fun b H3 =>
      if b = true then te σ2 H3 fun y H4 => ∃ acc, H4 D = some (.lst acc) ∧ acc.length < sizeLine ∧ Nx (upd H4 D (.lst (acc ++ [y]))) else Nx H3) := fun Dl hD => by
  refine lc_it w (fun i H2 => Grows K H1 Dl ((List.range i).map f) H2) (grows_nil hD (Ex.new hD) upd_same) (fun i H2 _ p => hG H2 p.ex) (fun i x H2 H3 hi p y => ?_) fun H2 p => q _ H2 p.ex p.done
  obtain rfl := hY _ _ _ _ y
  refine ⟨hw x, ?_⟩
  show te ((wipe σ vs).set j (some x)) H3 fun y H4 => ∃ acc, H4 Dl = some (.lst acc) ∧ acc.length < sizeLine ∧ Grows K H1 Dl ((List.range (i + 1)).map f) (upd H4 Dl (.lst (acc ++ [y])))
  refine he i x H3 p.ex hi y H3 (Ex.refl H3) _ fun v H4 e4 hd => ?_
  obtain ⟨acc, hp, hl⟩ := p.seq
  refine ⟨acc, e4 Dl _ hp, by rw [hl, List.length_map, List.length_range, sizeLine_eq]; omega, ?_⟩
  rw [List.range_succ, List.map_append]
  exact p.more hp hd e4
end
end Mk
set_option maxHeartbeats 2000000
/-! The leaves of the program: what each asks and gives. -/
namespace Mk
open PySem PySem.Spec PyProof.Rows L2 Evl TL

/-- an own error class at its name -/
structure ExT (K : PySem.W.Frag) (mg : Str → Option Value) (x : Str) : Prop where
  xc : PySem.W.excIn K (He.ga K x) He.veBase "ValueError.__new__" = true
  kc : PySem.W.keepIn K (.ref (He.ga K x)) = true
  bc : PySem.W.subIn K (.ref (He.ga K x)) (.type "BaseException") = some true
  tc : PySem.W.typeIn K (.ref (He.ga K x)) = some (.type "type")
  gc : mg x = some (.ref (He.ga K x))
  ec : PySem.W.exmOne K (.ref (He.ga K x)) (.ref (He.ga K x)) = some true
/-- what the module's names are -/
structure Tx (K : PySem.W.Frag) (mg : Str → Option Value) : Prop where
  b_isinstance : mg "isinstance" = none
  b_int : mg "int" = none
  b_bool : mg "bool" = none
  b_str : mg "str" = none
  b_list : mg "list" = none
  b_tuple : mg "tuple" = none
  b_all : mg "all" = none
  b_len : mg "len" = none
  b_range : mg "range" = none
  b_repr : mg "repr" = none
  b_min : mg "min" = none
  iMOST : ∃ t, mg "MOST" = some (.int 1000000000000 t)
  iLANES : ∃ t, mg "LANES" = some (.int 40 t)
  iWORD : ∃ t, mg "WORD" = some (.int 8 t)
  iLONGEST : ∃ t, mg "LONGEST" = some (.int 13 t)
  iMOST_LETTERS : ∃ t, mg "MOST_LETTERS" = some (.int 64 t)
  iMOST_ROWS : ∃ t, mg "MOST_ROWS" = some (.int 8 t)
  sSMALL : ∃ t, mg "SMALL" = some (.str "abcdefghijklmnopqrstuvwxyz" t)
  eF : ExT K mg "BadFigures"
  eP : ExT K mg "BadPacket"
theorem pe_ty {X : Cx} {x : Str} {c : String} {pos : Pos} (hg : Gl X x) (hm : X.mg x = none) (hv : bootBuiltins x = some (.type c) := by decide +kernel) (hn : x ≠ "__name__" := by decide) (hd : (x == ("__debug__" : Str)) = false := by decide) : PE X (.Name x pos) (tC (.ty c)) := pe_bltn hg hm hv rfl hn hd

theorem k_ss : kitB "str" "str" = some true := by decide +kernel
theorem k_tt : kitB "tuple" "tuple" = some true := by decide +kernel
theorem k_ll : kitB "list" "list" = some true := by decide +kernel
theorem k_bb : kitB "bool" "bool" = some true := by decide +kernel
theorem k_ii : kitB "int" "int" = some true := by decide +kernel
theorem k_ib : kitB "int" "bool" = some false := by decide +kernel
/-! ### what is computed -/
def numB (i : Int) : Bool := decide (0 ≤ i) && decide (i ≤ 1000000000000)
def laneB (i : Int) : Bool := decide (0 ≤ i) && decide (i < 40)
def letB (c : Nat) : Bool := decide (32 ≤ c) && decide (c ≤ 126)
def smB (c : Nat) : Bool := decide (c ∈ ("abcdefghijklmnopqrstuvwxyz" : Str).cps.toList)
def dgB (c : Nat) : Bool := decide (c ∈ ("0123456789" : Str).cps.toList)
def wordB (x : Str) : Bool := decide (1 ≤ x.length) && decide (x.length ≤ 8) && (tl x).all smB
def figB (x : Str) : Bool := decide (1 ≤ x.length) && (decide (x.length ≤ 13) && ((tl x).all dgB && (!(decide ((tl x).head? = some 48) && !decide (x = "0")) && decide (NumText.digitsVal (tl x) ≤ 1000000000000))))
def figS (x : Str) : Option Int := if figB x = true then some (NumText.digitsVal (tl x) : Int) else none
def pieceB (a b : Int) (x : Str) (l : Bool) : Bool := laneB a && (numB b && ((tl x).all letB && (decide (x.length ≤ 64) && (!decide (x = "") || l))))
def rowsB : Option Int → List (Int × Int) → Bool
  | _, [] => true
  | ah, (a, b) :: r => numB a && (numB b && (decide (a ≤ b) && ((match ah with | none => true | some h => decide (b + 1 < h)) && rowsB (some a) r)))
def gotB (rs : List (Int × Int)) : Bool := decide (1 ≤ rs.length) && (decide (rs.length ≤ 8) && rowsB none rs)
/-- a frame before it is asked -/
inductive Raw where
  | cl (zs : List Str)
  | pc (a b : Int) (x : Str) (l : Bool)
  | gt (rs : List (Int × Int))
  | nu (w : Str) (ns : List Int)
def rowD (q : Int × Int) : PyData := .tuple [.int q.1, .int q.2]
def Raw.word : Raw → Str
  | .cl _ => "close"
  | .pc .. => "piece"
  | .gt _ => "got"
  | .nu w _ => w
def Raw.parts : Raw → List PyData
  | .cl zs => zs.map .str
  | .pc a b x l => [.int a, .int b, .str x, .bool l]
  | .gt rs => [.list (rs.map rowD)]
  | .nu _ ns => ns.map .int
def Raw.data (f : Raw) : PyData := .tuple (.str f.word :: f.parts)
/-- the words of frames of numbers alone -/
def NuW (w : Str) : Prop := w = "credit" ∨ w = "whole" ∨ w = "reset" ∨ w = "ask" ∨ w = "answer" ∨ w = "early"
def two (w : Str) : Bool := decide (w = "credit") || decide (w = "reset")
def Raw.ok : Raw → Bool
  | .cl [z] => wordB z
  | .cl _ => false
  | .pc a b x l => pieceB a b x l
  | .gt rs => gotB rs
  | .nu w [a] => !two w && numB a
  | .nu w [a, b] => two w && (laneB a && numB b)
  | .nu _ _ => false
theorem sg0 (c : Nat) (z : Str) (d : Nat) (h : z = ⟨#[d]⟩) : decide (V.str ⟨#[c]⟩ = V.str z) = decide (c = d) := by
  subst h
  by_cases e : c = d
  · subst e
    simp
  · rw [decide_eq_false e, decide_eq_false]
    intro h
    apply e
    have := V.str.inj h
    injection this with this
    injection this with this
    injection this with this
theorem str_eqV (x y : Str) : decide (V.str x = V.str y) = decide (x = y) := by
  by_cases e : x = y
  · subst e
    simp
  · rw [decide_eq_false e, decide_eq_false]
    intro h
    exact e (V.str.inj h)
theorem int_eqV (x y : Int) : decide (V.int x = V.int y) = decide (x = y) := by
  by_cases e : x = y
  · subst e
    simp
  · rw [decide_eq_false e, decide_eq_false]
    intro h
    exact e (V.int.inj h)
theorem lt_sg (c d : Nat) : decide (([c] : List Nat) < [d]) = decide (c < d) := by
  by_cases e : c < d
  · rw [decide_eq_true e, decide_eq_true]
    exact List.Lex.rel e
  · rw [decide_eq_false e, decide_eq_false]
    intro h
    cases h with
    | rel h => exact e h
    | cons h => cases h
theorem let_chain (c : Nat) : (!decide (((⟨#[c]⟩ : Str).cps.toList) < ((" " : Str).cps.toList)) && !decide ((("~" : Str).cps.toList) < ((⟨#[c]⟩ : Str).cps.toList))) = letB c := by
  have h1 : (" " : Str).cps.toList = [32] := by decide +kernel
  have h2 : ("~" : Str).cps.toList = [126] := by decide +kernel
  show (!decide ([c] < _) && !decide (_ < [c])) = letB c
  rw [h1, h2, lt_sg, lt_sg]
  unfold letB
  by_cases a : c < 32 <;> by_cases b : 126 < c <;> simp [a, b] <;> omega
theorem all_map (l : List Nat) (f : Nat → Bool) : (l.map f).all id = l.all f := by
  induction l with
  | nil => rfl
  | cons a l ih => simp [ih]
theorem dg_of {c : Nat} (h : dgB c = true) : 48 ≤ c ∧ c ≤ 57 := by
  have e : ("0123456789" : Str).cps.toList = [48, 49, 50, 51, 52, 53, 54, 55, 56, 57] := by decide +kernel
  unfold dgB at h
  rw [e] at h
  have := of_decide_eq_true h
  simp at this
  omega
theorem fig_int {x : Str} (h1 : 1 ≤ x.length) (h2 : x.length ≤ 13) (h3 : (tl x).all dgB = true) : PySem.intText? x = some ((NumText.digitsVal (tl x) : Nat) : Int) := by
  refine PySem.intText_digits (fun c hc => dg_of (List.all_eq_true.mp h3 c hc)) (fun z => ?_) (by omega)
  have := len_tl x
  rw [tl, z] at this
  simp at this
  omega
section
variable {P : Program} {w : World} {K : PySem.W.Frag} {mg : Str → Option Value} {base : Heap} {k : Nat} {σ : L2.St} {H : Hp} {te : TE}
theorem ev_len13 {r r' : R2} {ta tb : TE} {a b : Int} {x : Int} (h0 : Ev ta σ H (.int a)) (h1 : Ev te σ H (.int x)) (h2 : Ev tb σ H (.int b)) {p q : Bool} (hr : RV r (.int a) (.int x) H (.bl p)) (hr' : RV r' (.int x) (.int b) H (.bl q)) : Ev (tChain r r' ta te tb) σ H (.bl (p && q)) :=
  ev_chain h0 h1 hr (fun _ => h2) fun _ => hr'
/-- all of a text's signs -/
theorem ev_allS {z : Str} {tv : TE} {j : Nat} {vs : List Nat} {f : Nat → Bool} {te : TE} (h : Ev tv σ H (.str z)) (hz : z.length ≤ 40000) (hw : ∀ x, wipe ((wipe σ vs).set j (some x)) vs = wipe σ vs)
    (he : ∀ (c : Nat) H1, Ex H H1 → c ∈ z.cps.toList → Ev te ((wipe σ vs).set j (some (.str ⟨#[c]⟩))) H1 (.bl (f c))) : Ev (tCB (rAll K) (tCons (tLc (iStr tv) (gName j) tYes te vs) tNil)) σ H (.bl ((tl z).all f)) := by
  have q := el_mapS (fun c => V.bl (f c)) h hz hw he
  have e : z.cps.toList.map (fun c => V.bl (f c)) = (((tl z).map f).map V.bl) := by simp [tl]
  rw [e] at q
  have := ev_all (K := K) q
  rw [all_map] at this
  exact this

def spIsWhole : Sp := fun vs H Q _ => ∃ i : Int, vs = [.int i] ∧ RetV (.bl true) H Q
theorem okIsWhole (D : DefAt K mg "is_whole" sIsWhole) (T : Tx K mg) : Cal P w K mg base CX0 1 "is_whole" ["thing"] spIsWhole := by
  refine cal_of D scIsWhole (fun _ _ _ _ _ _ us hl => match us, hl with | [_], _ => rfl) (fun vs H Q E ⟨i, e, _⟩ => by rw [e]; rfl) fun f cdv A outer s H vs Q E hr h => ?_
  obtain ⟨i, rfl, h⟩ := h
  refine ⟨_, ((pss_one (ps_ret (pe_and (pe_callB call_isi (by rfl) T.b_isinstance (by decide +kernel) (pa_cons (pv 0) (pa_cons (pe_ty (c := "int") rfl T.b_int) pa_nil))) (pe_one (pe_not (pe_callB call_isi (by rfl) T.b_isinstance (by decide +kernel) (pa_cons (pv 0) (pa_cons (pe_ty (c := "bool") rfl T.b_bool) pa_nil))))))))), ?_⟩
  have i0 : ∀ c b, kitB "int" c = some b → Ev (tCB (rIsi K) (tCons (tVar 0) (tCons (tC (.ty c)) tNil))) (start nIsWhole [.int i]) H (.bl b) := fun c b h => ev_isiD (ev_var rfl) (.int i) h
  exact s_retV (ev_andV (i0 "int" true k_ii) fun _ => ev_notV (i0 "bool" false k_ib)) h
def spInt (f : Int → Bool) : Sp := fun vs H Q _ => ∃ i : Int, vs = [.int i] ∧ RetV (.bl (f i)) H Q
theorem len_int {f : Int → Bool} {x : Str} : ∀ vs H Q E, spInt f vs H Q E → vs.length = [x].length := fun vs H Q E ⟨i, e, _⟩ => by rw [e]; rfl
theorem call_whole {te : TE} {i : Int} {E : XK} (h : Ev te σ H (.int i)) : Ev (tCall spIsWhole [] E (tCons te tNil)) σ H (.bl true) := ev_call (ea_cons h ea_nil) fun H1 e Q q E => ⟨i, rfl, fun H2 e2 => q H2 e2⟩
theorem call_int {f : Int → Bool} {te : TE} {i : Int} {E : XK} (h : Ev te σ H (.int i)) : Ev (tCall (spInt f) [] E (tCons te tNil)) σ H (.bl (f i)) := ev_call (ea_cons h ea_nil) fun H1 e Q q E => ⟨i, rfl, fun H2 e2 => q H2 e2⟩
theorem okIsNumber (D : DefAt K mg "is_number" sIsNumber) (T : Tx K mg) (GIsWhole : Cal P w K mg base CX0 1 "is_whole" ["thing"] spIsWhole) : Cal P w K mg base CX0 2 "is_number" ["thing"] (spInt numB) := by
  refine cal_of D scIsNumber (fun _ _ _ _ _ _ us hl => match us, hl with | [_], _ => rfl) len_int fun f cdv A outer s H vs Q E hr h => ?_
  obtain ⟨i, rfl, h⟩ := h
  refine ⟨_, ((pss_one (ps_ret (pe_and (pe_cal GIsWhole (hr.mono (by decide)) rfl pass0 (pa_cons (pv 0) pa_nil)) (pe_one (pe_chain op_le op_le pe_int (pv 0) (pe_gint T.iMOST rfl))))))), ?_⟩
  exact s_retV (ev_is (ev_andV (call_whole (ev_var rfl)) fun _ => ev_len13 ev_c (ev_var rfl) ev_c rv_I0 rv_I0) rfl) h
theorem okIsLane (D : DefAt K mg "is_lane" sIsLane) (T : Tx K mg) (GIsWhole : Cal P w K mg base CX0 1 "is_whole" ["thing"] spIsWhole) : Cal P w K mg base CX0 2 "is_lane" ["thing"] (spInt laneB) := by
  refine cal_of D scIsLane (fun _ _ _ _ _ _ us hl => match us, hl with | [_], _ => rfl) len_int fun f cdv A outer s H vs Q E hr h => ?_
  obtain ⟨i, rfl, h⟩ := h
  refine ⟨_, ((pss_one (ps_ret (pe_and (pe_cal GIsWhole (hr.mono (by decide)) rfl pass0 (pa_cons (pv 0) pa_nil)) (pe_one (pe_chain op_le op_lt pe_int (pv 0) (pe_gint T.iLANES rfl))))))), ?_⟩
  exact s_retV (ev_is (ev_andV (call_whole (ev_var rfl)) fun _ => ev_len13 ev_c (ev_var rfl) ev_c rv_I0 rv_I0) rfl) h
def spStr (f : Str → Bool) : Sp := fun vs H Q _ => ∃ z : Str, vs = [.str z] ∧ z.length ≤ 40000 ∧ RetV (.bl (f z)) H Q
theorem len_str {f : Str → Bool} {x : Str} : ∀ vs H Q E, spStr f vs H Q E → vs.length = [x].length := fun vs H Q E ⟨i, e, _⟩ => by rw [e]; rfl
theorem call_strB {f : Str → Bool} {te : TE} {z : Str} {E : XK} (h : Ev te σ H (.str z)) (hz : z.length ≤ 40000) : Ev (tCall (spStr f) [] E (tCons te tNil)) σ H (.bl (f z)) := ev_call (ea_cons h ea_nil) fun H1 e Q q E => ⟨z, rfl, hz, fun H2 e2 => q H2 e2⟩
theorem okIsLetters (D : DefAt K mg "is_letters" sIsLetters) (T : Tx K mg) : Cal P w K mg base CX0 1 "is_letters" ["thing"] (spStr fun z => (tl z).all letB) := by
  refine cal_of D scIsLetters (fun _ _ _ _ _ _ us hl => match us, hl with | [_], _ => rfl) len_str fun f cdv A outer s H vs Q E hr h => ?_
  obtain ⟨z, rfl, hz, h⟩ := h
  refine ⟨_, ((pss_one (ps_ret (pe_and (pe_callB call_isi (by rfl) T.b_isinstance (by decide +kernel) (pa_cons (pv 0) (pa_cons (pe_ty (c := "str") rfl T.b_str) pa_nil))) (pe_one (pe_callB (cr_all rfl) (by rfl) T.b_all (by decide +kernel) (pa_cons (pe_lc (own := [("sign", 1)]) (g := gName 1) (tt := tYes) rfl scIsLetters.nd (pi_str (pv 0)) (blkOk_by (own := [("sign", 1)]) (N := nIsLetters) (sc := defScope sIsLetters) (by decide +kernel)) (fun _ _ _ _ _ => pg_name (i := 1) scIsLetters.nd rfl (Or.inl rfl)) (fun _ _ _ _ _ => pts_nil) (fun _ _ _ _ _ => (pe_chain op_le_str op_le_str pe_str (pv 1) pe_str))) pa_nil))))))), ?_⟩
  refine s_retV (ev_is (ev_andV (ev_isiD (ev_var rfl) (.str z) k_ss) fun _ => ev_allS (f := letB) (ev_var rfl) hz (fun _ => rfl) fun c H1 e hc => ev_is (ev_chain ev_c (ev_var rfl) rv_leS (fun _ => ev_c) fun _ => rv_leS) ?_) rfl) h
  rw [let_chain]
theorem okIsWord (D : DefAt K mg "is_word" sIsWord) (T : Tx K mg) : Cal P w K mg base CX0 1 "is_word" ["thing"] (spStr wordB) := by
  refine cal_of D scIsWord (fun _ _ _ _ _ _ us hl => match us, hl with | [_], _ => rfl) len_str fun f cdv A outer s H vs Q E hr h => ?_
  obtain ⟨z, rfl, hz, h⟩ := h
  refine ⟨_, ((pss_one (ps_ret (pe_and (pe_callB call_isi (by rfl) T.b_isinstance (by decide +kernel) (pa_cons (pv 0) (pa_cons (pe_ty (c := "str") rfl T.b_str) pa_nil))) (pe_and (pe_chain op_le op_le pe_int (pe_callB call_len (by rfl) T.b_len (by decide +kernel) (pa_cons (pv 0) pa_nil)) (pe_gint T.iWORD rfl)) (pe_one (pe_callB (cr_all rfl) (by rfl) T.b_all (by decide +kernel) (pa_cons (pe_lc (own := [("sign", 1)]) (g := gName 1) (tt := tYes) rfl scIsWord.nd (pi_str (pv 0)) (blkOk_by (own := [("sign", 1)]) (N := nIsWord) (sc := defScope sIsWord) (by decide +kernel)) (fun _ _ _ _ _ => pg_name (i := 1) scIsWord.nd rfl (Or.inl rfl)) (fun _ _ _ _ _ => pts_nil) (fun _ _ _ _ _ => (pe_cmpR op_in_sign (pv 1) (pe_gstr T.sSMALL rfl) rfl))) pa_nil)))))))), ?_⟩
  refine s_retV (ev_is (ev_andV (ev_isiD (ev_var rfl) (.str z) k_ss) fun _ => ev_andV (ev_len13 ev_c (ev_lenS (ev_var rfl) (by omega)) ev_c rv_I0 rv_I0) fun _ => ev_allS (f := smB) (ev_var rfl) hz (fun _ => rfl) fun c H1 e hc => ev_op (ev_var rfl) ev_c rv_inSg) ?_) h
  unfold wordB
  have e1 : decide ((1 : Int) ≤ (z.length : Int)) = decide (1 ≤ z.length) := by
    by_cases e : 1 ≤ z.length
    · rw [decide_eq_true e, decide_eq_true (by omega)]
    · rw [decide_eq_false e, decide_eq_false (by omega)]
  have e2 : decide ((z.length : Int) ≤ 8) = decide (z.length ≤ 8) := by
    by_cases e : z.length ≤ 8
    · rw [decide_eq_true e, decide_eq_true (by omega)]
    · rw [decide_eq_false e, decide_eq_false (by omega)]
  rw [e1, e2]
  rfl
end
end Mk
set_option maxHeartbeats 4000000
/-! The program: numbers, pieces, rows, a frame asked. -/
namespace Mk
open PySem PySem.Spec PyProof.Rows L2 Evl TL
def numsOf : List Str → Option (List Int)
  | [] => some []
  | z :: r => match figS z, numsOf r with
    | some n, some ns => some (n :: ns)
    | _, _ => none
def pairs : List Int → List (Int × Int)
  | a :: b :: r => (a, b) :: pairs r
  | _ => []
def pieceP (ns : List Int) (rest : Str) : Option Raw := match ns with
  | [a, b, m, l] => if l > 1 then none else some (.pc a b (cutS rest none (some m)) (decide (l = 1)))
  | _ => none
def rawP (w : Str) (zs : List Str) (rest : Str) : Option Raw :=
  if w = "close" then some (.cl zs) else match numsOf zs with
    | none => none
    | some ns => if w = "piece" then pieceP ns rest else if w = "got" then (if ns.length / 2 * 2 ≠ ns.length then none else some (.gt (pairs ns))) else some (.nu w ns)

section
variable {P : Program} {w : World} {K : PySem.W.Frag} {mg : Str → Option Value} {base : Heap} {k : Nat} {σ : L2.St} {H : Hp} {te : TE}
variable {D : Ends} {tz : TS}
theorem q_star {i j : Nat} {a : Addr} {x : V} {xs : List V} (h : Ev te σ H (.ref a)) (ht : SqT K H a (x :: xs)) (hz : xs.length ≤ 10000) (k : ∀ p H1, Ex H H1 → H1 p = some (.lst xs) → tz D ((σ.set i (some x)).set j (some (.ref p))) H1) :
    tSeq (tAsg te (gStar K (gCons (gName i) (gCons (gName j) gNil)))) tz D σ H := h H (Ex.refl H) _ fun H1 e => ⟨a, x, xs, rfl, ex_t e ht, hz, fun p hp => ⟨_, _, rfl, _, _, rfl, rfl, k p _ (e.trans (Ex.new hp)) upd_same⟩⟩
theorem q_unp4 {i j l m : Nat} {a : Addr} {x y z u : V} (h : Ev te σ H (.ref a)) (ht : SqL K H a [x, y, z, u]) (k : ∀ H1, Ex H H1 → tz D ((((σ.set i (some x)).set j (some y)).set l (some z)).set m (some u)) H1) :
    tSeq (tAsg te (gLst K 4 (gCons (gName i) (gCons (gName j) (gCons (gName l) (gCons (gName m) gNil)))))) tz D σ H := h H (Ex.refl H) _ fun H1 e => ⟨a, _, rfl, ex_l e ht, rfl, _, _, rfl, _, _, rfl, _, _, rfl, _, _, rfl, rfl, k H1 e⟩
theorem q_unpT {i j : Nat} {a : Addr} {x y : V} (h : Ev te σ H (.ref a)) (ht : SqT K H a [x, y]) (k : ∀ H1, Ex H H1 → tz D ((σ.set i (some x)).set j (some y)) H1) :
    tSeq (tAsg te (gTup K 2 (gCons (gName i) (gCons (gName j) gNil)))) tz D σ H := h H (Ex.refl H) _ fun H1 e => ⟨a, _, rfl, ex_t e ht, rfl, _, _, rfl, _, _, rfl, rfl, k H1 e⟩
theorem q_asgE {i : Nat} {sp : Sp} {ES : L2.St → XK} {ta : TA} {vs : List V} (h : EvA ta σ H vs) (k : ∀ H1, Ex H H1 → sp vs H1 (fun v H2 => tz D (σ.set i (some v)) H2) (ES σ)) : tSeq (tAsg (tCallS sp ES ta) (gName i)) tz D σ H := h H (Ex.refl H) _ k
theorem s_retE {sp : Sp} {ES : L2.St → XK} {ta : TA} {vs : List V} (h : EvA ta σ H vs) (k : ∀ H1, Ex H H1 → sp vs H1 D.rt (ES σ)) : tRet (tCallS sp ES ta) D σ H := h H (Ex.refl H) _ k

theorem at_nat {α : Type} {xs : List α} {j : Nat} {x : α} (h : xs[j]? = some x) : atI xs (j : Int) = some x := by
  have hj : j < xs.length := by
    by_cases q : j < xs.length
    · exact q
    · rw [List.getElem?_eq_none (by omega)] at h
      cases h
  unfold atI
  rw [ixN_nat hj]
  exact h
theorem nat_le {a b : Nat} : decide ((a : Int) ≤ (b : Int)) = decide (a ≤ b) := by
  by_cases e : a ≤ b
  · rw [decide_eq_true e, decide_eq_true (by omega)]
  · rw [decide_eq_false e, decide_eq_false (by omega)]
theorem nat_eqV {a b : Nat} : decide (V.int (a : Int) = V.int (b : Int)) = decide (a = b) := by
  rw [int_eqV]
  by_cases e : a = b
  · rw [decide_eq_true e, decide_eq_true (by omega)]
  · rw [decide_eq_false e, decide_eq_false (by omega)]

def spShow : Sp := fun vs H Q _ => ∃ i : Nat, vs = [.int (i : Int)] ∧ i < 1000000000 ∧ RetV (.str (toString (i : Int))) H Q
theorem okShowNumber (D : DefAt K mg "show_number" sShowNumber) (T : Tx K mg) : Cal P w K mg base CX0 1 "show_number" ["number"] spShow := by
  refine cal_of D scShowNumber (fun _ _ _ _ _ _ us hl => match us, hl with | [_], _ => rfl) (fun vs H Q E ⟨i, e, _⟩ => by rw [e]; rfl) fun f cdv A outer s H vs Q E hr h => ?_
  obtain ⟨i, rfl, hi, h⟩ := h
  refine ⟨_, ((pss_one (ps_ret (pe_callTy call_str_int (by rfl) T.b_str (by decide +kernel) (pa_cons (pv 0) pa_nil))))), ?_⟩
  refine s_retV (ev_cb (ea_cons (ev_var rfl) ea_nil) fun H1 e Q q => ⟨_, rfl, ?_, q H1 (Ex.refl H1)⟩) h
  have : (i : Int).natAbs = i := rfl
  rw [this]
  by_cases z : i = 0
  · subst z
    decide
  · have := (Nat.log2_lt z (k := 1920)).mpr (Nat.lt_of_lt_of_le hi (by decide +kernel))
    exact this
def spRead (K : PySem.W.Frag) : Sp := fun vs H Q E => ∃ z : Str, vs = [.str z] ∧ z.length ≤ 40000 ∧ (∀ n, figS z = some n → RetV (.int n) H Q) ∧ (figS z = none → ∀ H2, Ex H H2 → E (.ref (He.ga K "BadFigures")) none H2)
theorem figS_none {z : Str} (h : figB z = false) : figS z = none := by
  unfold figS
  rw [if_neg (by rw [h]; simp)]
theorem figS_some {z : Str} (h : figB z = true) : figS z = some ((NumText.digitsVal (tl z) : Nat) : Int) := by
  unfold figS
  rw [if_pos h]
theorem okReadNumber (D : DefAt K mg "read_number" sReadNumber) (T : Tx K mg) : Cal P w K mg base (L2N.CX P w) 1 "read_number" ["text"] (spRead K) := by
  refine cal_of D scReadNumber (fun _ _ _ _ _ _ us hl => match us, hl with | [_], _ => rfl) (fun vs H Q E ⟨i, e, _⟩ => by rw [e]; rfl) fun f cdv A outer s H vs Q E hr h => ?_
  obtain ⟨z, rfl, hz, hy, hn⟩ := h
  refine ⟨_, ((pss_cons (ps_if (PW.pt (pw_or (pt_not (pt_val (pe_callB call_isi (by rfl) T.b_isinstance (by decide +kernel) (pa_cons (pv 0) (pa_cons (pe_ty (c := "str") rfl T.b_str) pa_nil))))) (pw_or1 (pt_not (pt_chain op_le op_le pe_int (pe_callB call_len (by rfl) T.b_len (by decide +kernel) (pa_cons (pv 0) pa_nil)) (pe_gint T.iLONGEST rfl)))))) (pss_one (L2N.ps_raise rfl (L2N.takes_of rfl rfl rfl rfl) (L2N.pmk_own PySem.F.excBase_ValueError T.eF.xc T.eF.gc T.eF.kc (raises_own T.eF.bc T.eF.tc) rfl))) pss_nil)
      (pss_cons (ps_if (PW.pt (pw_or (pt_not (pt_val (pe_callB (cr_all rfl) (by rfl) T.b_all (by decide +kernel) (pa_cons (pe_lc (own := [("sign", 2)]) (g := gName 2) (tt := tYes) rfl scReadNumber.nd (pi_str (pv 0)) (blkOk_by (own := [("sign", 2)]) (N := nReadNumber) (sc := defScope sReadNumber) (by decide +kernel)) (fun _ _ _ _ _ => pg_name (i := 2) scReadNumber.nd rfl (Or.inl rfl)) (fun _ _ _ _ _ => pts_nil) (fun _ _ _ _ _ => (pe_cmpR op_in_sign (pv 2) pe_str rfl))) pa_nil)))) (pw_or1 (PW.pt (pw_and (pt_cmpR op_eq (pe_ix ix_str (pv 0) pe_int (fun _ _ => rfl)) pe_str (nomark _)) (pw_and1 (pt_cmpR op_ne (pv 0) pe_str (nomark _)))))))) (pss_one (L2N.ps_raise rfl (L2N.takes_of rfl rfl rfl rfl) (L2N.pmk_own PySem.F.excBase_ValueError T.eF.xc T.eF.gc T.eF.kc (raises_own T.eF.bc T.eF.tc) rfl))) pss_nil)
      (pss_cons (ps_set (i := 1) scReadNumber.nd rfl (Or.inl rfl) (pe_callTy call_int_str (by rfl) T.b_int (by decide +kernel) (pa_cons (pv 0) pa_nil)))
      (pss_cons (ps_if (pt_cmpR op_gt (pv 1) (pe_gint T.iMOST rfl) (nomark _)) (pss_one (L2N.ps_raise rfl (L2N.takes_of rfl rfl rfl rfl) (L2N.pmk_own PySem.F.excBase_ValueError T.eF.xc T.eF.gc T.eF.kc (raises_own T.eF.bc T.eF.tc) rfl))) pss_nil)
      (pss_one (ps_ret (pv 1)))))))), ?_⟩
  refine q_when (et_is (et_or (et_not (et_B (ev_isiD (ev_var rfl) (.str z) k_ss))) fun _ => et_not (et_test (ev_len13 ev_c (ev_lenS (ev_var rfl) (by omega)) ev_c rv_I0 rv_I0))) (b := !(decide (1 ≤ z.length) && decide (z.length ≤ 13))) ?_) (fun hb H1 e => ?_) fun hb H1 e => ?_
  · have : decide ((1 : Int) ≤ (z.length : Int)) = decide (1 ≤ z.length) := @nat_le 1 z.length
    have h2 : decide ((z.length : Int) ≤ 13) = decide (z.length ≤ 13) := @nat_le z.length 13
    show (!true || !(decide ((1 : Int) ≤ _) && decide (_ ≤ (13 : Int)))) = _
    rw [← this, ← h2]
    rfl
  · refine hn (figS_none ?_) H1 e
    unfold figB
    revert hb
    cases decide (1 ≤ z.length) <;> cases decide (z.length ≤ 13) <;> simp
  simp only [Bool.not_eq_false', Bool.and_eq_true, decide_eq_true_eq] at hb
  obtain ⟨l1, l13⟩ := hb
  have hd0 : ∃ c r, tl z = c :: r := by
    have := len_tl z
    cases h : tl z with
    | nil => rw [h] at this; simp at this; omega
    | cons c r => exact ⟨c, r, rfl⟩
  obtain ⟨c, r, ecr⟩ := hd0
  have e48 : decide (V.str (⟨#[c]⟩ : Str) = V.str "0") = decide ((tl z).head? = some 48) := by
    rw [sg0 c "0" 48 (by decide +kernel), ecr]
    simp
  refine q_when (et_is (et_or (et_not (et_B (ev_allS (f := dgB) (ev_var rfl) hz (fun _ => rfl) fun c H1 e hc => ev_op (ev_var rfl) ev_c rv_inSg))) fun _ => et_and (et_test (ev_op (ev_op (ev_var rfl) ev_c (rv_ixS (c := c) (by omega) ?_)) ev_c (rv_eq rfl))) fun _ => et_test (ev_op (ev_var rfl) ev_c (rv_ne rfl)))
    (b := !(tl z).all dgB || (decide ((tl z).head? = some 48) && !decide (z = "0"))) ?_) (fun hb H2 e2 => ?_) fun hb H2 e2 => ?_
  · show atI (tl z) 0 = some c
    rw [ecr]
    exact at_nat (j := 0) rfl
  · rw [e48, str_eqV]
  · refine hn (figS_none ?_) H2 (e.trans e2)
    unfold figB
    cases h1 : (tl z).all dgB
    · simp
    · rw [h1] at hb
      simp only [Bool.not_true, Bool.false_or] at hb
      rw [hb]
      simp
  rw [Bool.or_eq_false_iff] at hb
  obtain ⟨d1, d2⟩ := hb
  have d1' : (tl z).all dgB = true := by simpa using d1
  refine q_asg (ev_cb (ea_cons (ev_var rfl) ea_nil) fun H1 e Q q => ⟨_, _, rfl, fig_int l1 l13 d1', by omega, q H1 (Ex.refl H1)⟩) fun H3 e3 => ?_
  refine q_when (et_test (ev_op (ev_var rfl) ev_c rv_I0)) (fun hb H4 e4 => ?_) fun hb H4 e4 => ?_
  · refine hn (figS_none ?_) H4 (((e.trans e2).trans e3).trans e4)
    unfold figB
    have : ¬ (NumText.digitsVal (tl z) ≤ 1000000000000) := by
      have := of_decide_eq_true hb
      omega
    rw [decide_eq_false this]
    simp
  · refine s_ret (ev_var rfl) fun H5 e5 => hy _ (figS_some ?_) H5 ((((e.trans e2).trans e3).trans e4).trans e5)
    unfold figB
    have : NumText.digitsVal (tl z) ≤ 1000000000000 := by
      have := of_decide_eq_false hb
      omega
    rw [decide_eq_true this, decide_eq_true l1, decide_eq_true l13, d1', d2]
    rfl
end
end Mk
set_option maxHeartbeats 4000000
/-! The program: a frame asked. -/
namespace Mk
open PySem PySem.Spec PyProof.Rows L2 Evl TL
section
variable {P : Program} {w : World} {K : PySem.W.Frag} {mg : Str → Option Value} {base : Heap} {k : Nat} {σ : L2.St} {H : Hp} {te : TE}
variable {D : Ends} {tz : TS}
theorem bool_and_eq {a b c : Bool} (h : a = true → b = c) : (a && b) = (a && c) := by
  cases a
  · rfl
  · exact h rfl
def spPiece (K : PySem.W.Frag) : Sp := fun vs H Q _ => ∃ p a b x l, vs = [.ref p] ∧ SqL K H p [.int a, .int b, .str x, .bl l] ∧ x.length ≤ 40000 ∧ RetV (.bl (pieceB a b x l)) H Q
theorem okArePiece (D : DefAt K mg "are_piece" sArePiece) (T : Tx K mg) (GIsLane : Cal P w K mg base CX0 2 "is_lane" ["thing"] (spInt laneB)) (GIsNumber : Cal P w K mg base CX0 2 "is_number" ["thing"] (spInt numB)) (GIsLetters : Cal P w K mg base CX0 1 "is_letters" ["thing"] (spStr fun z => (tl z).all letB)) :
    Cal P w K mg base CX0 3 "are_piece" ["parts"] (spPiece K) := by
  refine cal_of D scArePiece (fun _ _ _ _ _ _ us hl => match us, hl with | [_], _ => rfl) (fun vs H Q E ⟨p, a, b, x, l, e, _⟩ => by rw [e]; rfl) fun f cdv A outer s H vs Q E hr h => ?_
  obtain ⟨p, a, b, x, l, rfl, hp, hx, h⟩ := h
  refine ⟨_, ((pss_cons (ps_if (pt_cmpR op_ne (pe_callB call_len (by rfl) T.b_len (by decide +kernel) (pa_cons (pv 0) pa_nil)) pe_int (nomark _)) (pss_one (ps_ret pe_bl)) pss_nil)
      (pss_cons (ps_asg (pv 0) (pg_lst rfl (pgs_cons (pg_name (i := 1) scArePiece.nd rfl (Or.inl rfl)) (pgs_cons (pg_name (i := 2) scArePiece.nd rfl (Or.inl rfl)) (pgs_cons (pg_name (i := 3) scArePiece.nd rfl (Or.inl rfl)) (pgs_cons (pg_name (i := 4) scArePiece.nd rfl (Or.inl rfl)) pgs_nil))))))
      (pss_cons (ps_if (PW.pt (pw_or (pt_not (pt_val (pe_cal GIsLane (hr.mono (by decide)) rfl pass0 (pa_cons (pv 1) pa_nil)))) (pw_or (pt_not (pt_val (pe_cal GIsNumber (hr.mono (by decide)) rfl pass0 (pa_cons (pv 2) pa_nil)))) (pw_or1 (pt_not (pt_val (pe_callB call_isi (by rfl) T.b_isinstance (by decide +kernel) (pa_cons (pv 4) (pa_cons (pe_ty (c := "bool") rfl T.b_bool) pa_nil))))))))) (pss_one (ps_ret pe_bl)) pss_nil)
      (pss_one (ps_ret (pe_and (pe_cal GIsLetters (hr.mono (by decide)) rfl pass0 (pa_cons (pv 3) pa_nil)) (pe_and (pe_cmpR op_le (pe_callB call_len (by rfl) T.b_len (by decide +kernel) (pa_cons (pv 3) pa_nil)) (pe_gint T.iMOST_LETTERS rfl) (nomark _)) (pe_one (pe_or (pe_cmpR op_ne (pv 3) pe_str (nomark _)) (pe_one (pv 4)))))))))))), ?_⟩
  refine q_when (et_test (ev_op (ev_lenL (ev_var rfl) hp) ev_c (rv_ne rfl))) (fun hb => absurd hb (by simp)) fun _ H1 e1 => ?_
  refine q_unp4 (ev_var rfl) (ex_l e1 hp) fun H2 e2 => ?_
  refine q_when (et_or (et_not (et_B (call_int (f := laneB) (ev_var rfl)))) fun _ => et_or (et_not (et_B (call_int (f := numB) (ev_var rfl)))) fun _ => et_not (et_B (ev_isiD (ev_var rfl) (.bl l) k_bb))) (fun hb H3 e3 => ?_) fun hb H3 e3 => ?_
  · refine s_retV (ev_is ev_c ?_) (RetV.goV h ((e1.trans e2).trans e3))
    unfold pieceB
    revert hb
    cases laneB a <;> cases numB b <;> simp
  · refine s_retV (ev_is (ev_andV (call_strB (f := fun z => (tl z).all letB) (ev_var rfl) hx) fun _ => ev_andV (ev_op (ev_lenS (ev_var rfl) (by omega)) ev_c rv_I0) fun _ => ev_orV (ev_op (ev_var rfl) ev_c (rv_ne rfl)) fun _ => ev_var rfl) ?_) (RetV.goV h ((e1.trans e2).trans e3))
    have q : decide ((x.length : Int) ≤ 64) = decide (x.length ≤ 64) := @nat_le x.length 64
    unfold pieceB
    rw [q, str_eqV]
    have e0 : decide (x = ("" : Str)) = decide (x = (Str.ofString "")) := rfl
    revert hb
    cases laneB a <;> cases numB b <;> simp
def ahV : Option Int → V
  | none => .non
  | some i => .int i
theorem decide_aux {p q : Prop} [Decidable p] [Decidable q] (h : p ↔ q) : decide p = decide q := by
  by_cases e : p
  · rw [decide_eq_true e, decide_eq_true (h.mp e)]
  · rw [decide_eq_false e, decide_eq_false fun z => e (h.mpr z)]
def spGot (K : PySem.W.Frag) : Sp := fun vs H Q _ => ∃ v rs, vs = [v] ∧ Dp K H v (.list (rs.map rowD)) ∧ rs.length ≤ 40000 ∧ RetV (.bl (gotB rs)) H Q
theorem rows_get {vs : List V} {rs : List (Int × Int)} {i : Nat} {v : V} (h : DpAll K H vs (rs.map rowD)) (hi : vs[i]? = some v) : ∃ q, rs[i]? = some q ∧ Dp K H v (rowD q) := by
  obtain ⟨d, h1, h2⟩ := dpAll_get h hi
  rw [List.getElem?_map] at h1
  cases h3 : rs[i]? with
  | none => rw [h3] at h1; cases h1
  | some q =>
    rw [h3] at h1
    cases h1
    exact ⟨q, rfl, h2⟩
theorem row_at {v : V} {q : Int × Int} (h : Dp K H v (rowD q)) : ∃ a, v = .ref a ∧ SqT K H a [.int q.1, .int q.2] := by
  obtain ⟨a, xs, rfl, hq, hx⟩ := dp_tup h
  cases hx with
  | cons h1 t =>
    cases t with
    | cons h2 t =>
      cases t
      rw [dp_int h1, dp_int h2] at hq
      exact ⟨a, rfl, hq⟩
theorem drop_at {α : Type} {xs : List α} {i : Nat} {x : α} (h : xs[i]? = some x) : xs.drop i = x :: xs.drop (i + 1) := by
  have hj : i < xs.length := by
    by_cases q : i < xs.length
    · exact q
    · rw [List.getElem?_eq_none (by omega)] at h
      cases h
  rw [List.drop_eq_getElem_cons hj]
  rw [List.getElem?_eq_getElem hj] at h
  cases h
  rfl
theorem okAreGot (D : DefAt K mg "are_got" sAreGot) (T : Tx K mg) (GIsNumber : Cal P w K mg base CX0 2 "is_number" ["thing"] (spInt numB)) : Cal P w K mg base CX0 3 "are_got" ["rows"] (spGot K) := by
  refine cal_of D scAreGot (fun _ _ _ _ _ _ us hl => match us, hl with | [_], _ => rfl) (fun vs H Q E ⟨v, rs, e, _⟩ => by rw [e]; rfl) fun f cdv A outer s H vs Q E hr h => ?_
  obtain ⟨v, rs, rfl, hd, hl, h⟩ := h
  obtain ⟨p, xs, rfl, hp, hx⟩ := dp_lst hd
  have lx : xs.length = rs.length := by rw [dpAll_len hx, List.length_map]
  refine ⟨_, ((pss_cons (ps_if (PW.pt (pw_or (pt_not (pt_val (pe_callB call_isi (by rfl) T.b_isinstance (by decide +kernel) (pa_cons (pv 0) (pa_cons (pe_ty (c := "list") rfl T.b_list) pa_nil))))) (pw_or1 (pt_not (pt_chain op_le op_le pe_int (pe_callB call_len (by rfl) T.b_len (by decide +kernel) (pa_cons (pv 0) pa_nil)) (pe_gint T.iMOST_ROWS rfl)))))) (pss_one (ps_ret pe_bl)) pss_nil)
      (pss_cons (ps_set (i := 1) scAreGot.nd rfl (Or.inl rfl) pe_non)
      (pss_cons (ps_for (passes_of rfl) rfl (pi_list (pv 0)) (pg_name (i := 2) scAreGot.nd rfl (Or.inl rfl)) (pss_cons (ps_if (PW.pt (pw_or (pt_not (pt_val (pe_callB call_isi (by rfl) T.b_isinstance (by decide +kernel) (pa_cons (pv 2) (pa_cons (pe_ty (c := "tuple") rfl T.b_tuple) pa_nil))))) (pw_or1 (pt_cmpR op_ne (pe_callB call_len (by rfl) T.b_len (by decide +kernel) (pa_cons (pv 2) pa_nil)) pe_int (nomark _))))) (pss_one (ps_ret pe_bl)) pss_nil)
      (pss_cons (ps_asg (pv 2) (pg_tup rfl (pgs_cons (pg_name (i := 3) scAreGot.nd rfl (Or.inl rfl)) (pgs_cons (pg_name (i := 4) scAreGot.nd rfl (Or.inl rfl)) pgs_nil))))
      (pss_cons (ps_if (PW.pt (pw_or (pt_not (pt_val (pe_cal GIsNumber (hr.mono (by decide)) rfl pass0 (pa_cons (pv 3) pa_nil)))) (pw_or (pt_not (pt_val (pe_cal GIsNumber (hr.mono (by decide)) rfl pass0 (pa_cons (pv 4) pa_nil)))) (pw_or1 (pt_cmpR op_gt (pv 3) (pv 4) (nomark _)))))) (pss_one (ps_ret pe_bl)) pss_nil)
      (pss_cons (ps_if (PW.pt (pw_and (pt_cmpR op_notN (pv 1) pe_non (nomark _)) (pw_and1 (pt_cmpR op_ge (pe_op op_add (pv 4) pe_int) (pv 1) (nomark _))))) (pss_one (ps_ret pe_bl)) pss_nil)
      (pss_one (ps_set (i := 1) scAreGot.nd rfl (Or.inl rfl) (pv 3))))))))
      (pss_one (ps_ret pe_bl)))))), ?_⟩
  refine q_when (et_is (et_or (et_not (et_B (ev_isiD (ev_var rfl) hd k_ll))) fun _ => et_not (et_test (ev_len13 ev_c (ev_lenL (ev_var rfl) hp) ev_c rv_I0 rv_I0))) (b := !(decide (1 ≤ rs.length) && decide (rs.length ≤ 8))) ?_) (fun hb H1 e1 => ?_) fun hb H1 e1 => ?_
  · have h1 : decide ((1 : Int) ≤ (xs.length : Int)) = decide (1 ≤ rs.length) := by rw [lx]; exact @nat_le 1 rs.length
    have h2 : decide ((xs.length : Int) ≤ 8) = decide (rs.length ≤ 8) := by rw [lx]; exact @nat_le rs.length 8
    show (!true || !(decide ((1 : Int) ≤ _) && decide (_ ≤ (8 : Int)))) = _
    rw [h1, h2]
    rfl
  · refine s_retV (ev_is ev_c ?_) (RetV.goV h e1)
    unfold gotB
    revert hb
    cases decide (1 ≤ rs.length) <;> cases decide (rs.length ≤ 8) <;> simp
  have eg : gotB rs = rowsB none rs := by
    unfold gotB
    revert hb
    cases decide (1 ≤ rs.length) <;> cases decide (rs.length ≤ 8) <;> simp
  rw [eg] at h
  refine q_asg ev_c fun H2 e2 => ?_
  refine q_forL (ev_var rfl) (ex_l (e1.trans e2) hp) (fun i σ' H' => Ex H H' ∧ ∃ ah r f l, σ' = [some (.ref p), some (ahV ah), r, f, l] ∧ rowsB none rs = rowsB ah (rs.drop i)) (fun H3 e3 => ⟨(e1.trans e2).trans e3, none, _, _, _, rfl, rfl⟩) (fun i σ' H' _ z => ex_l z.1 hp) (fun i x σ' H' hi z => ?_) fun σ' H' z => ?_
  · obtain ⟨ex, ah, r, f, l, rfl, eqr⟩ := z
    obtain ⟨q, hq, dq⟩ := rows_get hx hi
    obtain ⟨q1, q2⟩ := q
    rw [drop_at hq] at eqr
    obtain ⟨a, rfl, ha⟩ := row_at (dp_ex ex dq)
    show tSeq _ _ _ _ _
    refine q_when (et_or (et_not (et_B (ev_isi (ev_var rfl) (tyx_T ha) (fun H1 e => tyx_T (ex_t e ha)) k_tt))) fun _ => et_test (ev_op (ev_lenT (ev_var rfl) ha) ev_c (rv_ne rfl))) (fun hb => absurd hb (by simp)) fun hb H3 e3 => ?_
    refine q_unpT (ev_var rfl) (ex_t e3 ha) fun H4 e4 => ?_
    refine q_when (et_or (et_not (et_B (call_int (f := numB) (ev_var rfl)))) fun _ => et_or (et_not (et_B (call_int (f := numB) (ev_var rfl)))) fun _ => et_test (ev_op (ev_var rfl) (ev_var rfl) rv_I0)) (fun hb H5 e5 => ?_) fun hb H5 e5 => ?_
    · refine s_retV (ev_is ev_c ?_) (RetV.goV h (((ex.trans e3).trans e4).trans e5))
      rw [eqr]
      have : decide (q1 ≤ q2) = !decide (q1 > q2) := by
        by_cases z : q1 > q2
        · rw [decide_eq_true z, decide_eq_false (by omega)]; rfl
        · rw [decide_eq_false z, decide_eq_true (by omega)]; rfl
      simp only [rowsB, this]
      revert hb
      cases numB q1 <;> cases numB q2 <;> cases decide (q1 > q2) <;> simp
    have le : decide (q1 ≤ q2) = true := by
      revert hb
      have : decide (q1 ≤ q2) = !decide (q1 > q2) := by
        by_cases z : q1 > q2
        · rw [decide_eq_true z, decide_eq_false (by omega)]; rfl
        · rw [decide_eq_false z, decide_eq_true (by omega)]; rfl
      rw [this]
      cases numB q1 <;> cases numB q2 <;> cases decide (q1 > q2) <;> simp
    have n1 : numB q1 = true := by
      revert hb
      cases numB q1 <;> simp
    have n2 : numB q2 = true := by
      revert hb
      cases numB q1 <;> cases numB q2 <;> simp
    refine q_when (b := match ah with | none => false | some h => !decide (q2 + 1 < h)) ?_ (fun hb H6 e6 => ?_) fun hb H6 e6 => ?_
    · cases ah with
      | none => exact et_and (a := false) (b := false) (et_test (ev_op (ev_var rfl) ev_c (fun H1 _ _ q => ⟨rfl, q H1 (Ex.refl H1)⟩))) fun z => by cases z
      | some i =>
        refine et_is (et_and (a := true) (et_test (ev_op (ev_var rfl) ev_c (fun H1 _ _ q => ⟨rfl, q H1 (Ex.refl H1)⟩))) fun z => et_test (ev_op (ev_op (ev_var rfl) ev_c rv_I0) (ev_var rfl) rv_I0)) ?_
        show (true && decide (q2 + 1 ≥ i)) = !decide (q2 + 1 < i)
        by_cases z : q2 + 1 < i
        · rw [decide_eq_true z, decide_eq_false (by omega)]; rfl
        · rw [decide_eq_false z, decide_eq_true (by omega)]; rfl
    · refine s_retV (ev_is ev_c ?_) (RetV.goV h ((((ex.trans e3).trans e4).trans e5).trans e6))
      rw [eqr]
      simp only [rowsB]
      cases ah with
      | none => cases hb
      | some i =>
        have : decide (q2 + 1 < i) = false := by simpa using hb
        simp [this]
    · refine s_asg (ev_var rfl) fun H7 e7 => ⟨((((ex.trans e3).trans e4).trans e5).trans e6).trans e7, some q1, _, _, _, rfl, ?_⟩
      rw [eqr]
      simp only [rowsB, n1, n2, le, Bool.true_and]
      cases ah with
      | none => simp
      | some i =>
        have : decide (q2 + 1 < i) = true := by simpa using hb
        simp [this]
  · obtain ⟨ex, ah, r, f, l, rfl, eqr⟩ := z
    refine s_retV (ev_is ev_c ?_) (RetV.goV h ex)
    rw [eqr, lx, List.drop_length]
    cases ah <;> rfl
end
end Mk
set_option maxHeartbeats 4000000
/-! The program: a frame asked, numbers, rows, pieces, a frame made. -/
namespace Mk
open PySem PySem.Spec PyProof.Rows L2 Evl TL
/-- what such a frame may be -/
def Raw.fit : Raw → Prop
  | .cl zs => zs.length ≤ 10000 ∧ ∀ z ∈ zs, z.length ≤ 40000
  | .pc _ _ x _ => x.length ≤ 40000
  | .gt rs => rs.length ≤ 40000
  | .nu w ns => NuW w ∧ ns.length ≤ 10000
section
variable {P : Program} {w : World} {K : PySem.W.Frag} {mg : Str → Option Value} {base : Heap} {k : Nat} {σ : L2.St} {H : Hp} {te : TE}
variable {D : Ends} {tz : TS}
def spFrame (K : PySem.W.Frag) : Sp := fun vs H Q _ => ∃ v f, vs = [v] ∧ Dp K H v (Raw.data f) ∧ f.fit ∧ RetV (.bl f.ok) H Q
theorem call_dp {sp : Sp} {f : Bool} {te : TE} {v : V} {d : PyData} {E : XK} (hs : ∀ H1 Q E, Dp K H1 v d → RetV (.bl f) H1 Q → sp [v] H1 Q E) (h : Ev te σ H v) (hd : Dp K H v d) : Ev (tCall sp [] E (tCons te tNil)) σ H (.bl f) :=
  ev_call (ea_cons h ea_nil) fun H1 e Q q E => hs H1 Q E (dp_ex e hd) fun H2 e2 => q H2 e2
theorem sq_ref {xs : List V} {p : Addr} {i : Nat} {v : V} {te : TE} (h : Ev te σ H (.ref p)) (hq : SqL K H p xs) (hi : xs[i]? = some v) : Ev (tOp (rIxL K) te (tC (.int (i : Int)))) σ H v := ev_op h ev_c (rv_ixL hq (at_nat hi))
theorem st_ref {xs : List V} {p : Addr} {i : Nat} {v : V} {te : TE} (h : Ev te σ H (.ref p)) (hq : SqT K H p xs) (hi : xs[i]? = some v) : Ev (tOp (rIxT K) te (tC (.int (i : Int)))) σ H v := ev_op h ev_c (rv_ixT hq (at_nat hi))
theorem any_txt (z : Str) : ∀ zs : List Str, inV (V.str z) (zs.map V.str) = decide (z ∈ zs)
  | [] => by simp [inV]
  | y :: r => by
    have ih := any_txt z r
    unfold inV at ih ⊢
    rw [List.map_cons, List.any_cons, ih]
    have q : eqV (V.str y) (V.str z) = decide (y = z) := rfl
    rw [q]
    by_cases e : y = z
    · subst e
      simp
    · have e' : ¬ z = y := fun q => e q.symm
      simp [e, e']
/-- one of some texts -/
theorem ev_inTxt {te : TE} {z : Str} {ta : TA} {zs : List Str} {vs : List V} (h : Ev te σ H (.str z)) (ha : EvA ta σ H vs) (hv : vs = zs.map V.str) (hz : zs.length ≤ 1000) : Ev (tOp (rIn K false) te (tTup ta)) σ H (.bl (decide (z ∈ zs))) := by
  subst hv
  refine ev_is (ev_inU h (eu_tup ha (by rw [List.length_map]; omega)) rfl ?_) ?_
  · rw [List.all_eq_true]
    intro v hv
    obtain ⟨y, _, rfl⟩ := List.mem_map.mp hv
    rfl
  · exact congrArg V.bl (any_txt z zs)
theorem dneq {a b : Str} (h : decide (a = b) = false) : ¬ decide (V.str a = V.str b) = true := by
  rw [str_eqV, h]
  simp
theorem deq {a : Str} : ¬ decide (V.str a = V.str a) = false := by simp
theorem dnin {a : Str} {zs : List Str} (h : decide (a ∈ zs) = false) : ¬ decide (a ∈ zs) = true := by
  rw [h]
  simp
theorem dpAll_cons {xs : List V} {d : PyData} {ds : List PyData} (h : DpAll K H xs (d :: ds)) : ∃ v vs, xs = v :: vs ∧ Dp K H v d ∧ DpAll K H vs ds := by
  cases h with
  | cons h t => exact ⟨_, _, rfl, h, t⟩
theorem dpAll_nil {xs : List V} (h : DpAll K H xs []) : xs = [] := by
  cases h
  rfl
theorem nu_facts {w : Str} (h : NuW w) : decide (w = "piece") = false ∧ decide (w = "got") = false ∧ decide (w = "close") = false ∧ decide (w ∈ (["credit", "reset"] : List Str)) = two w ∧ (two w = false → decide (w ∈ (["whole", "ask", "answer", "early"] : List Str)) = true) := by
  rcases h with rfl | rfl | rfl | rfl | rfl | rfl <;> decide +kernel
theorem okIsFrame (D : DefAt K mg "is_frame" sIsFrame) (T : Tx K mg) (GIsLane : Cal P w K mg base CX0 2 "is_lane" ["thing"] (spInt laneB)) (GIsNumber : Cal P w K mg base CX0 2 "is_number" ["thing"] (spInt numB)) (GIsWord : Cal P w K mg base CX0 1 "is_word" ["thing"] (spStr wordB))
    (GArePiece : Cal P w K mg base CX0 3 "are_piece" ["parts"] (spPiece K)) (GAreGot : Cal P w K mg base CX0 3 "are_got" ["rows"] (spGot K)) : Cal P w K mg base CX0 4 "is_frame" ["thing"] (spFrame K) := by
  refine cal_of D scIsFrame (fun _ _ _ _ _ _ us hl => match us, hl with | [_], _ => rfl) (fun vs H Q E ⟨v, rs, e, _⟩ => by rw [e]; rfl) fun f cdv A outer s H vs Q E hr h => ?_
  obtain ⟨v, r, rfl, hd, hf, h⟩ := h
  obtain ⟨p, xs, rfl, hp, hx⟩ := dp_tup hd
  refine ⟨_, ((pss_cons (ps_if (PW.pt (pw_or (pt_not (pt_val (pe_callB call_isi (by rfl) T.b_isinstance (by decide +kernel) (pa_cons (pv 0) (pa_cons (pe_ty (c := "tuple") rfl T.b_tuple) pa_nil))))) (pw_or (pt_cmpR op_eq (pe_callB call_len (by rfl) T.b_len (by decide +kernel) (pa_cons (pv 0) pa_nil)) pe_int (nomark _)) (pw_or1 (pt_not (pt_val (pe_callB call_isi (by rfl) T.b_isinstance (by decide +kernel) (pa_cons (pe_ix ix_tup (pv 0) pe_int (fun _ _ => rfl)) (pa_cons (pe_ty (c := "str") rfl T.b_str) pa_nil))))))))) (pss_one (ps_ret pe_bl)) pss_nil)
      (pss_cons (ps_asg (pv 0) (pg_star rfl (pgs_cons (pg_name (i := 1) scIsFrame.nd rfl (Or.inl rfl)) (pgs_cons (pg_name (i := 2) scIsFrame.nd rfl (Or.inl rfl)) pgs_nil))))
      (pss_cons (ps_if (pt_cmpR op_eq (pv 1) pe_str (nomark _)) (pss_one (ps_ret (pe_cal GArePiece (hr.mono (by decide)) rfl pass0 (pa_cons (pv 2) pa_nil)))) pss_nil)
      (pss_cons (ps_if (pt_cmpR op_in_seq (pv 1) (pe_tup (pa_cons pe_str (pa_cons pe_str pa_nil))) rfl) (pss_one (ps_ret (pe_and (pe_cmpR op_eq (pe_callB call_len (by rfl) T.b_len (by decide +kernel) (pa_cons (pv 2) pa_nil)) pe_int (nomark _)) (pe_and (pe_cal GIsLane (hr.mono (by decide)) rfl pass0 (pa_cons (pe_ix ix_list (pv 2) pe_int (fun _ _ => rfl)) pa_nil)) (pe_one (pe_cal GIsNumber (hr.mono (by decide)) rfl pass0 (pa_cons (pe_ix ix_list (pv 2) pe_int (fun _ _ => rfl)) pa_nil))))))) pss_nil)
      (pss_cons (ps_if (pt_cmpR op_ne (pe_callB call_len (by rfl) T.b_len (by decide +kernel) (pa_cons (pv 2) pa_nil)) pe_int (nomark _)) (pss_one (ps_ret pe_bl)) pss_nil)
      (pss_cons (ps_if (pt_cmpR op_eq (pv 1) pe_str (nomark _)) (pss_one (ps_ret (pe_cal GAreGot (hr.mono (by decide)) rfl pass0 (pa_cons (pe_ix ix_list (pv 2) pe_int (fun _ _ => rfl)) pa_nil)))) pss_nil)
      (pss_cons (ps_if (pt_cmpR op_eq (pv 1) pe_str (nomark _)) (pss_one (ps_ret (pe_cal GIsWord (hr.mono (by decide)) rfl pass0 (pa_cons (pe_ix ix_list (pv 2) pe_int (fun _ _ => rfl)) pa_nil)))) pss_nil)
      (pss_one (ps_ret (pe_and (pe_cmpR op_in_seq (pv 1) (pe_tup (pa_cons pe_str (pa_cons pe_str (pa_cons pe_str (pa_cons pe_str pa_nil))))) rfl) (pe_one (pe_cal GIsNumber (hr.mono (by decide)) rfl pass0 (pa_cons (pe_ix ix_list (pv 2) pe_int (fun _ _ => rfl)) pa_nil)))))))))))))), ?_⟩
  obtain ⟨v0, ys, rfl, h0, ht⟩ := dpAll_cons hx
  obtain rfl := dp_str h0
  have ny : ys.length ≤ 10000 := by
    rw [dpAll_len ht]
    cases r with
    | cl zs => exact (by simp [Raw.parts]; exact hf.1)
    | pc => simp [Raw.parts]
    | gt => simp [Raw.parts]
    | nu w ns => exact (by simp [Raw.parts]; exact hf.2)
  refine q_when (et_is (et_or (et_not (et_B (ev_isiD (ev_var rfl) hd k_tt))) fun _ => et_or (et_test (ev_op (ev_lenT (ev_var rfl) hp) ev_c (rv_eq rfl))) fun _ => et_not (et_B (ev_isi (st_ref (i := 0) (ev_var rfl) hp rfl) (.base (.str _)) (fun _ _ => .base (.str _)) k_ss))) (b := false) ?_) (fun hb => by cases hb) fun _ H1 e1 => ?_
  · have : decide (V.int ((V.str r.word :: ys).length : Int) = V.int 0) = false := by
      rw [int_eqV]
      apply decide_eq_false
      rw [List.length_cons]
      omega
    rw [this]
    rfl
  refine q_star (ev_var rfl) (ex_t e1 hp) ny fun q H2 e2 hq => ?_
  have e12 := e1.trans e2
  have hq' : SqL K H2 q ys := sq_of hq
  have hl : ys.length = r.parts.length := dpAll_len ht
  cases r with
  | pc a b x l =>
    refine q_when (et_test (ev_op (ev_var rfl) ev_c (rv_eq rfl))) (fun _ H3 e3 => ?_) fun hb => absurd hb (deq (a := "piece"))
    have e : ys = [.int a, .int b, .str x, .bl l] := by
      obtain ⟨_, _, rfl, h1, t⟩ := dpAll_cons ht
      obtain ⟨_, _, rfl, h2, t⟩ := dpAll_cons t
      obtain ⟨_, _, rfl, h3, t⟩ := dpAll_cons t
      obtain ⟨_, _, rfl, h4, t⟩ := dpAll_cons t
      obtain rfl := dpAll_nil t
      rw [dp_int h1, dp_int h2, dp_str h3, dp_bl h4]
    subst e
    exact s_retV (ev_call (ea_cons (ev_var rfl) ea_nil) fun H4 e4 Q q E => ⟨_, a, b, x, l, rfl, ex_l (e3.trans e4) hq', hf, fun H5 e5 => q H5 e5⟩) (RetV.goV h (e12.trans e3))
  | cl zs =>
    refine q_when (et_test (ev_op (ev_var rfl) ev_c (rv_eq rfl))) (fun hb => absurd hb (dneq (a := "close") (b := "piece") (by decide +kernel))) fun _ H3 e3 => ?_
    refine q_when (et_test (ev_inTxt (zs := ["credit", "reset"]) (ev_var rfl) (ea_cons ev_c (ea_cons ev_c ea_nil)) rfl (by decide))) (fun hb => absurd hb (dnin (a := "close") (zs := ["credit", "reset"]) (by decide +kernel))) fun _ H4 e4 => ?_
    have e : ys = zs.map V.str := dpAll_strs ht
    subst e
    refine q_when (et_test (ev_op (ev_lenL (ev_var rfl) (ex_l (e3.trans e4) hq')) ev_c (rv_ne rfl))) (fun hb H5 e5 => ?_) fun hb H5 e5 => ?_
    · refine s_retV (ev_is ev_c ?_) (RetV.goV h (((e12.trans e3).trans e4).trans e5))
      match zs, hb with
      | [], _ => rfl
      | [_], hb => simp at hb
      | _ :: _ :: _, _ => rfl
    · match zs, hb with
      | [], hb => simp at hb
      | _ :: _ :: _, hb =>
        exfalso
        simp at hb
        omega
      | [z], _ =>
        have e345 := (e3.trans e4).trans e5
        refine q_when (et_test (ev_op (ev_var rfl) ev_c (rv_eq rfl))) (fun hb => absurd hb (dneq (a := "close") (b := "got") (by decide +kernel))) fun _ H6 e6 => ?_
        refine q_when (et_test (ev_op (ev_var rfl) ev_c (rv_eq rfl))) (fun _ H7 e7 => ?_) fun hb => absurd hb (deq (a := "close"))
        exact s_retV (call_strB (f := wordB) (sq_ref (i := 0) (ev_var rfl) (ex_l ((e345.trans e6).trans e7) hq') rfl) (hf.2 z (by simp))) (RetV.goV h (((e12.trans e345).trans e6).trans e7))
  | gt rs =>
    refine q_when (et_test (ev_op (ev_var rfl) ev_c (rv_eq rfl))) (fun hb => absurd hb (dneq (a := "got") (b := "piece") (by decide +kernel))) fun _ H3 e3 => ?_
    refine q_when (et_test (ev_inTxt (zs := ["credit", "reset"]) (ev_var rfl) (ea_cons ev_c (ea_cons ev_c ea_nil)) rfl (by decide))) (fun hb => absurd hb (dnin (a := "got") (zs := ["credit", "reset"]) (by decide +kernel))) fun _ H4 e4 => ?_
    obtain ⟨v1, _, rfl, h1, t⟩ := dpAll_cons ht
    obtain rfl := dpAll_nil t
    refine q_when (et_test (ev_op (ev_lenL (ev_var rfl) (ex_l (e3.trans e4) hq')) ev_c (rv_ne rfl))) (fun hb => absurd hb (by simp)) fun hb H5 e5 => ?_
    have e345 := (e3.trans e4).trans e5
    refine q_when (et_test (ev_op (ev_var rfl) ev_c (rv_eq rfl))) (fun _ H6 e6 => ?_) fun hb => absurd hb (deq (a := "got"))
    have e26 := e345.trans e6
    exact s_retV (call_dp (fun H1 Q E hd k => ⟨_, rs, rfl, hd, hf, k⟩) (sq_ref (i := 0) (ev_var rfl) (ex_l e26 hq') rfl) (dp_ex (e12.trans e26) h1)) (RetV.goV h (e12.trans e26))
  | nu w ns =>
    obtain ⟨n1, n2, n3, n4, n5⟩ := nu_facts hf.1
    have e : ys = ns.map V.int := dpAll_ints ht
    subst e
    refine q_when (et_test (ev_op (ev_var rfl) ev_c (rv_eq rfl))) (fun hb => absurd hb (dneq (a := w) (b := "piece") n1)) fun _ H3 e3 => ?_
    refine q_when (et_is (et_test (ev_inTxt (zs := ["credit", "reset"]) (ev_var rfl) (ea_cons ev_c (ea_cons ev_c ea_nil)) rfl (by decide))) n4) (fun hb H4 e4 => ?_) fun hb H4 e4 => ?_
    · refine s_retV (v := .bl (Raw.ok (.nu w ns))) ?_ (RetV.goV h ((e12.trans e3).trans e4))
      have e24 := e3.trans e4
      match ns with
      | [a, b] => exact ev_is (ev_andV (ev_op (ev_lenL (ev_var rfl) (ex_l e24 hq')) ev_c (rv_eq rfl)) fun _ => ev_andV (call_int (f := laneB) (sq_ref (i := 0) (ev_var rfl) (ex_l e24 hq') rfl)) fun _ => call_int (f := numB) (sq_ref (i := 1) (ev_var rfl) (ex_l e24 hq') rfl)) (by simp [Raw.ok, hb])
      | [] => exact ev_is (ev_andV (a := false) (b := false) (ev_op (ev_lenL (ev_var rfl) (ex_l e24 hq')) ev_c (rv_eq rfl)) fun z => by cases z) rfl
      | [_] => exact ev_is (ev_andV (a := false) (b := false) (ev_op (ev_lenL (ev_var rfl) (ex_l e24 hq')) ev_c (rv_eq rfl)) fun z => by cases z) (by simp [Raw.ok, hb])
      | a :: b :: c :: l => exact ev_is (ev_andV (a := false) (b := false) (ev_is (ev_op (ev_lenL (ev_var rfl) (ex_l e24 hq')) ev_c (rv_eq rfl)) (by rw [int_eqV, decide_eq_false (by simp; omega)])) fun z => by cases z) rfl
    · have e24 := e3.trans e4
      refine q_when (et_test (ev_op (ev_lenL (ev_var rfl) (ex_l e24 hq')) ev_c (rv_ne rfl))) (fun hc H5 e5 => ?_) fun hc H5 e5 => ?_
      · refine s_retV (ev_is ev_c ?_) (RetV.goV h ((e12.trans e24).trans e5))
        match ns, hc with
        | [], _ => rfl
        | [_], hc => simp at hc
        | [_, _], _ => simp [Raw.ok, hb]
        | _ :: _ :: _ :: _, _ => rfl
      · match ns, hc with
        | [], hc => simp at hc
        | _ :: _ :: _, hc =>
          exfalso
          simp at hc
          omega
        | [a], _ =>
          refine q_when (et_test (ev_op (ev_var rfl) ev_c (rv_eq rfl))) (fun hb => absurd hb (dneq (a := w) (b := "got") n2)) fun _ H6 e6 => ?_
          refine q_when (et_test (ev_op (ev_var rfl) ev_c (rv_eq rfl))) (fun hb => absurd hb (dneq (a := w) (b := "close") n3)) fun _ H7 e7 => ?_
          have e27 := ((e24.trans e5).trans e6).trans e7
          refine s_retV (ev_is (ev_andV (ev_is (ev_inTxt (zs := ["whole", "ask", "answer", "early"]) (ev_var rfl) (ea_cons ev_c (ea_cons ev_c (ea_cons ev_c (ea_cons ev_c ea_nil)))) rfl (by decide)) (congrArg V.bl (n5 hb))) fun _ => call_int (f := numB) (sq_ref (i := 0) (ev_var rfl) (ex_l e27 hq') rfl)) ?_) (RetV.goV h (e12.trans e27))
          simp [Raw.ok, hb]
end
end Mk
set_option maxHeartbeats 4000000
/-! The program: numbers, rows, pieces, a frame made. -/
namespace Mk
open PySem PySem.Spec PyProof.Rows L2 Evl TL
theorem pss_given {X : Cx} {b : List Stmt} {t : TS} {P : Prop} (h : P → PSs X b t) : PSs X b (fun D σ H => P ∧ t D σ H) := ⟨fun pins s σ H D I q => (h q.1).run pins s σ H D I q.2⟩
section
variable {P : Program} {w : World} {K : PySem.W.Frag} {mg : Str → Option Value} {base : Heap} {k : Nat} {σ : L2.St} {H : Hp} {te : TE}
variable {D : Ends} {tz : TS}
def spNums (K : PySem.W.Frag) : Sp := fun vs H Q E => ∃ a zs, vs = [.ref a] ∧ SqL K H a (zs.map V.str) ∧ zs.length ≤ 40000 ∧ (∀ z ∈ zs, z.length ≤ 40000) ∧ (∀ ns, numsOf zs = some ns → RetL (ns.map V.int) H Q) ∧ (numsOf zs = none → ∀ H2, Ex H H2 → E (.ref (He.ga K "BadPacket")) none H2)
theorem nums_len : ∀ {zs : List Str} {ns : List Int}, numsOf zs = some ns → ns.length = zs.length
  | [], ns, h => by cases h; rfl
  | z :: r, ns, h => by
    unfold numsOf at h
    cases h1 : figS z with
    | none => rw [h1] at h; cases h
    | some n =>
      cases h2 : numsOf r with
      | none => rw [h1, h2] at h; cases h
      | some m =>
        rw [h1, h2] at h
        cases h
        rw [List.length_cons, List.length_cons, nums_len h2]
theorem okNumbersIn (D : DefAt K mg "numbers_in" sNumbersIn) (T : Tx K mg) (GReadNumber : Cal P w K mg base (L2N.CX P w) 1 "read_number" ["text"] (spRead K)) : Cal P w K mg base (L2.CX P w) 2 "numbers_in" ["words"] (spNums K) := by
  refine cal_of D scNumbersIn (fun _ _ _ _ _ _ us hl => match us, hl with | [_], _ => rfl) (fun vs H Q E ⟨v, rs, e, _⟩ => by rw [e]; rfl) fun f cdv A outer s H vs Q E hr h => ?_
  obtain ⟨a, zs, rfl, ha, hl, hz, hy, hn⟩ := h
  refine ⟨_, (pss_cons (ps_set (i := 1) scNumbersIn.nd rfl (Or.inl rfl) (pe_lst pa_nil))
      (pss_cons (ps_for (passes_of rfl) rfl (pi_list (pv 0)) (pg_name (i := 2) scNumbersIn.nd rfl (Or.inl rfl)) (pss_one
        (ps_try_asX (i := 3) (c := .ref (He.ga K "BadFigures")) (Wout := fun cls d _ H => E cls d H)
          (tb := fun W => tDrop (tBM K "list" rAppend (tVar 1) (tCons (tCallS (spRead K) (WE W) (tCons (tVar 2) tNil)) tNil)))
          (ts := fun a cls d => fun D σ H => PySem.W.subIn K cls (.type "BaseException") = some true ∧ (σ[3]? = some (some (.ref a)) ∧ E (.ref (He.ga K "BadPacket")) none H))
          rfl rfl scNumbersIn.nd rfl rfl ⟨rfl, by decide, Or.inl T.eF.gc⟩ (L2.takes_of rfl rfl rfl rfl)
          (fun W pn xe tk po => pss_one (ps_expr (pe_bm PySem.F.plainAttrs_list PySem.F.slot_list_append PySem.F.type_list_append mt_append (pv 1) (pa_cons (pe_calS GReadNumber (hr.mono (by decide)) rfl (fun σ => L2N.passAt tk σ) (pa_cons (pv 2) pa_nil)) pa_nil))))
          (fun a oe cls d pn hcls hot tk => pss_given fun hsub => pss_one (ps_raiseFrom (p := (a, oe)) (i := 3) (List.mem_cons_self ..) hot (fun M h kin => by rw [hcls]; exact PySem.W.looks_subIn kin hsub) rfl rfl tk (made_text PySem.F.excBase_ValueError T.eP.xc T.eP.gc T.eP.kc (raises_own T.eP.bc T.eP.tc) rfl))))))
      (pss_one (ps_ret (pv 1))))), ?_⟩
  refine q_asgL (el_lst ea_nil (by simp)) fun q H1 hq e1 h1 => ?_
  refine q_forL (ev_var rfl) (ex_l e1 ha) (fun i σ' H' => Ex H H' ∧ ∃ acc x y, H' q = some (.lst (acc.map V.int)) ∧ acc.length = i ∧ σ' = [some (.ref a), some (.ref q), x, y] ∧ numsOf zs = (numsOf (zs.drop i)).map (acc ++ ·)) (fun H2 e2 => ⟨e1.trans e2, [], _, _, e2 q _ h1, rfl, rfl, by rw [List.drop_zero]; cases numsOf zs <;> simp⟩) (fun i σ' H' _ z => ex_l z.1 ha) (fun i x σ' H' hi z => ?_) fun σ' H' z => ?_
  · obtain ⟨ex, acc, u, v, hacc, hlen, rfl, eqn⟩ := z
    have hzi : ∃ z, zs[i]? = some z ∧ x = .str z := by
      rw [List.getElem?_map] at hi
      cases e : zs[i]? with
      | none => rw [e] at hi; cases hi
      | some z => rw [e] at hi; cases hi; exact ⟨z, rfl, rfl⟩
    obtain ⟨z, hzi, rfl⟩ := hzi
    have il : i < zs.length := by
      by_cases q : i < zs.length
      · exact q
      · rw [List.getElem?_eq_none (by omega)] at hzi
        cases hzi
    rw [drop_at hzi] at eqn
    have e23 := Ex.refl H'
    refine ⟨.ref q, rfl, .inl ⟨rfl, _, sq_of hacc⟩, .str z, rfl, z, rfl, hz z (List.mem_of_getElem? hzi), fun n hn H4 e4 => ⟨q, _, .int n, rfl, rfl, e4 q _ (e23 q _ hacc), sz_lt (by rw [List.length_map, hlen]; omega), ?_⟩, fun hno H4 e4 => ⟨T.eF.ec, fun b hb => ⟨T.eF.bc, rfl, ?_⟩⟩⟩
    · refine ⟨((ex.trans e23).trans e4).mut (fresh_back (Ex.refl H) hq), acc ++ [n], _, _, ?_, by rw [List.length_append, hlen]; rfl, rfl, ?_⟩
      · rw [List.map_append]
        exact upd_same
      · rw [eqn, numsOf, hn]
        cases numsOf (zs.drop (i + 1)) with
        | none => rfl
        | some m => simp
    · refine hn ?_ H4 ((ex.trans e23).trans e4)
      rw [eqn, numsOf, hno]
      rfl
  · obtain ⟨ex, acc, u, v, hacc, hlen, rfl, eqn⟩ := z
    rw [List.length_map, List.drop_length] at eqn
    refine s_ret (ev_var rfl) fun H2 e2 => ?_
    have := hy acc (by rw [eqn]; simp [numsOf])
    exact this q H2 hq (ex.trans e2) (e2 q _ hacc)
end
end Mk
set_option maxHeartbeats 4000000
/-! The program: rows, pieces, a frame made. -/
namespace Mk
open PySem PySem.Spec PyProof.Rows L2 Evl TL
theorem pairs_range : ∀ (n : Nat) (ns : List Int), ns.length = 2 * n → (List.range n).map (fun i => rowD (ns.getD (2 * i) 0, ns.getD (2 * i + 1) 0)) = (pairs ns).map rowD
  | 0, [], _ => rfl
  | 0, _ :: _, h => by simp at h
  | n + 1, [], h => by simp at h
  | n + 1, [_], h => by simp at h; omega
  | n + 1, a :: b :: r, h => by
    have ih := pairs_range n r (by simp at h; omega)
    rw [List.range_succ_eq_map, List.map_cons, List.map_map, pairs, List.map_cons, ← ih]
    congr 1
theorem rg2 (n : Nat) (hn : n ≤ 100000) : RgC 0 (2 * (n : Int) - 1) 2 n := by
  have e : Builtin.Range.rangeSize 0 (2 * (n : Int) - 1) 2 = n := by
    unfold Builtin.Range.rangeSize
    rw [if_pos (by decide)]
    split <;> omega
  refine ⟨by decide, by decide, ?_, e⟩
  unfold Builtin.Range.small
  rw [e]
  simp only [Builtin.Range.rangeFitsLong, Bool.and_eq_true, Bool.or_eq_true, decide_eq_true_eq, beq_iff_eq, show ((2 : Int) > 0) by decide, if_true]
  omega
section
variable {P : Program} {w : World} {K : PySem.W.Frag} {mg : Str → Option Value} {base : Heap} {k : Nat} {σ : L2.St} {H : Hp} {te tb : TE}
variable {D : Ends} {tz : TS}
theorem en_lcR3 {ta : TA} {i0 c jj : Int} {n j : Nat} {vs : List Nat} (f : Nat → PyData) (h : EvA ta σ H [.int i0, .int jj, .int c]) (hr : RgC i0 jj c n) (hn : n ≤ 40000) (hw : ∀ x, wipe ((wipe σ vs).set j (some x)) vs = wipe σ vs)
    (he : ∀ (i : Nat) H1, Ex H H1 → i < n → EvN K te ((wipe σ vs).set j (some (.int (i0 + (i : Int) * c)))) H1 (f i)) : EvN K (tLc (iRng3 ta) (gName j) tYes te vs) σ H (.list ((List.range n).map f)) := fun H1 e1 Q q => h H1 e1 _ fun H2 e2 => ⟨_, _, _, n, rfl, hr,
  en_map walk_rangeC hn (fun _ _ => trivial) (fun i H x H' y => y.1) hw (fun i x H3 e3 hi y => by
    obtain rfl := y.2
    exact he i H3 ((e1.trans e2).trans e3) hi) fun v H3 e3 hd => q v H3 (e2.trans e3) (hd.wide e2 (Ex.refl H3))⟩
def spRows (K : PySem.W.Frag) : Sp := fun vs H Q _ => ∃ a ns n, vs = [.ref a] ∧ SqL K H a (ns.map V.int) ∧ ns.length = 2 * n ∧ n ≤ 40000 ∧ RetN K (.list ((pairs ns).map rowD)) H Q
theorem okRowsIn (D : DefAt K mg "rows_in" sRowsIn) (T : Tx K mg) : Cal P w K mg base CX0 1 "rows_in" ["numbers"] (spRows K) := by
  refine cal_of D scRowsIn (fun _ _ _ _ _ _ us hl => match us, hl with | [_], _ => rfl) (fun vs H Q E ⟨v, rs, n, e, _⟩ => by rw [e]; rfl) fun f cdv A outer s H vs Q E hr h => ?_
  obtain ⟨a, ns, n, rfl, ha, hl, hn, hy⟩ := h
  refine ⟨_, ((pss_one (ps_ret (pe_lc (own := [("at", 1)]) (g := gName 1) (tt := tYes) rfl scRowsIn.nd (pi_range3 rfl T.b_range (pa_cons pe_int (pa_cons (pe_op op_sub (pe_callB call_len (by rfl) T.b_len (by decide +kernel) (pa_cons (pv 0) pa_nil)) pe_int) (pa_cons pe_int pa_nil)))) (blkOk_by (own := [("at", 1)]) (N := nRowsIn) (sc := defScope sRowsIn) (by decide +kernel)) (fun _ _ _ _ _ => pg_name (i := 1) scRowsIn.nd rfl (Or.inl rfl)) (fun _ _ _ _ _ => pts_nil) (fun _ _ _ _ _ => (pe_tup (pa_cons (pe_ix (show IxR _ (rIxL K) from ix_list) (pv 0) (pv 1) (fun _ _ => rfl)) (pa_cons (pe_ix (show IxR _ (rIxL K) from ix_list) (pv 0) (pe_op op_add (pv 1) pe_int) (fun _ _ => rfl)) pa_nil)))))))), ?_⟩
  have hlen : (ns.map V.int).length = 2 * n := by rw [List.length_map, hl]
  refine s_retR (d := .list ((pairs ns).map rowD)) ?_ hy
  rw [← pairs_range n ns hl]
  refine en_lcR3 (fun i => rowD (ns.getD (2 * i) 0, ns.getD (2 * i + 1) 0)) (ea_cons ev_c (ea_cons (ev_is (ev_op (ev_lenL (ev_var rfl) ha) ev_c rv_I0) (w := .int (2 * (n : Int) - 1)) (by rw [hlen]; push_cast; rfl)) (ea_cons ev_c ea_nil))) (rg2 n (by omega)) hn (fun x => rfl) fun i H1 e13 hi => ?_
  · skip
    have g0 : (ns.map V.int)[2 * i]? = some (.int (ns.getD (2 * i) 0)) := by
      rw [List.getElem?_map, List.getElem?_eq_getElem (by omega), List.getD_eq_getElem?_getD, List.getElem?_eq_getElem (by omega)]
      rfl
    have g1 : (ns.map V.int)[2 * i + 1]? = some (.int (ns.getD (2 * i + 1) 0)) := by
      rw [List.getElem?_map, List.getElem?_eq_getElem (by omega), List.getD_eq_getElem?_getD, List.getElem?_eq_getElem (by omega)]
      rfl
    have i0 : V.int (0 + (i : Int) * 2) = V.int ((2 * i : Nat) : Int) := by
      congr 1
      push_cast
      omega
    refine en_tup (eu_tup (ea_cons (ev_op (ev_var rfl) (ev_is (ev_var rfl) i0) (rv_ixL (ex_l e13 ha) (at_nat g0))) (ea_cons (ev_op (ev_var rfl) (ev_is (ev_op (ev_is (ev_var rfl) i0) ev_c rv_I0) (w := .int ((2 * i + 1 : Nat) : Int)) (by push_cast; rfl)) (rv_ixL (ex_l e13 ha) (at_nat g1))) ea_nil)) (by simp)) fun G => .cons (.int _) (.cons (.int _) .nil)
end
end Mk
set_option maxHeartbeats 4000000
/-! The program: pieces, a frame made. -/
namespace Mk
open PySem PySem.Spec PyProof.Rows L2 Evl TL
section
variable {P : Program} {w : World} {K : PySem.W.Frag} {mg : Str → Option Value} {base : Heap} {k : Nat} {σ : L2.St} {H : Hp} {te tb : TE}
variable {D : Ends} {tz : TS}
/-- what a promise that may refuse gives -/
def Gives (K : PySem.W.Frag) (r : Option Raw) (H : Hp) (Q : VK) (E : XK) : Prop := (∀ f, r = some f → RetN K f.data H Q) ∧ (r = none → ∀ H2, Ex H H2 → E (.ref (He.ga K "BadPacket")) none H2)
theorem Gives.goE {r : Option Raw} {H H' : Hp} {Q : VK} {E : XK} (g : Gives K r H Q E) (e : Ex H H') : Gives K r H' Q E := ⟨fun f h => (g.1 f h).go e, fun h H2 e2 => g.2 h H2 (e.trans e2)⟩
def spPieceIn (K : PySem.W.Frag) : Sp := fun vs H Q E => ∃ a ns rest, vs = [.ref a, .str rest] ∧ SqL K H a (ns.map V.int) ∧ ns.length ≤ 40000 ∧ rest.length ≤ 40000 ∧ Gives K (pieceP ns rest) H Q E
theorem okPieceIn (D : DefAt K mg "piece_in" sPieceIn) (T : Tx K mg) : Cal P w K mg base (L2.CX P w) 1 "piece_in" ["numbers", "rest"] (spPieceIn K) := by
  refine cal_of D scPieceIn (fun _ _ _ _ _ _ us hl => match us, hl with | [_,_], _ => rfl) (fun vs H Q E ⟨a, ns, r, e, _⟩ => by rw [e]; rfl) fun f cdv A outer s H vs Q E hr h => ?_
  obtain ⟨a, ns, rest, rfl, ha, hl, hr', g⟩ := h
  refine ⟨_, ((pss_cons (ps_if (PW.pt (pw_or (pt_cmpR op_ne (pe_callB call_len (by rfl) T.b_len (by decide +kernel) (pa_cons (pv 0) pa_nil)) pe_int (nomark _)) (pw_or1 (pt_cmpR op_gt (pe_ix ix_list (pv 0) pe_int (fun _ _ => rfl)) pe_int (nomark _))))) (pss_one (ps_raise rfl (L2.takes_of rfl rfl rfl rfl) (pmk_own PySem.F.excBase_ValueError T.eP.xc T.eP.gc T.eP.kc (raises_own T.eP.bc T.eP.tc) rfl))) pss_nil)
      (pss_cons (ps_asg (pv 0) (pg_lst rfl (pgs_cons (pg_name (i := 2) scPieceIn.nd rfl (Or.inl rfl)) (pgs_cons (pg_name (i := 3) scPieceIn.nd rfl (Or.inl rfl)) (pgs_cons (pg_name (i := 4) scPieceIn.nd rfl (Or.inl rfl)) (pgs_cons (pg_name (i := 5) scPieceIn.nd rfl (Or.inl rfl)) pgs_nil))))))
      (pss_one (ps_ret (pe_tup (pa_cons pe_str (pa_cons (pv 2) (pa_cons (pv 3) (pa_cons (pe_slice sl_str (pv 1) po_none (po_some (pv 4))) (pa_cons (pe_cmpR op_eq (pv 5) pe_int (nomark _)) pa_nil))))))))))), ?_⟩
  match ns, ha, hl, g with
  | [n0, n1, n2, n3], ha, hl, g =>
    refine q_when (b := decide (n3 > 1)) (et_is (et_or (et_test (ev_op (ev_lenL (ev_var rfl) ha) ev_c (rv_ne rfl))) fun _ => et_test (ev_op (sq_ref (i := 3) (ev_var rfl) ha rfl) ev_c rv_I0)) (by rfl)) (fun hb H1 e1 => ?_) fun hb H1 e1 => ?_
    · refine g.2 ?_ H1 e1
      show (if n3 > 1 then none else _) = none
      rw [if_pos (of_decide_eq_true hb)]
    · refine q_unp4 (ev_var rfl) (ex_l e1 ha) fun H2 e2 => ?_
      have q := g.1 (.pc n0 n1 (cutS rest none (some n2)) (decide (n3 = 1))) (by
        show (if n3 > 1 then none else _) = _
        rw [if_neg (of_decide_eq_false hb)])
      refine s_retR (d := Raw.data (.pc n0 n1 (cutS rest none (some n2)) (decide (n3 = 1)))) ?_ (q.go (e1.trans e2))
      refine en_tup (eu_tup (ea_cons ev_c (ea_cons (ev_var rfl) (ea_cons (ev_var rfl) (ea_cons (ev_slS (ev_var rfl) eo_none (eo_some (ev_var rfl)) (by omega)) (ea_cons (ev_is (ev_op (ev_var rfl) ev_c (rv_eq rfl)) (congrArg V.bl (int_eqV n3 1))) ea_nil))))) (by simp)) fun G => .cons (.str _) (.cons (.int _) (.cons (.int _) (.cons (.str _) (.cons (.bl _) .nil))))
  | [], ha, hl, g => exact q_when (b := true) (et_is (et_or (a := true) (b := true) (et_test (ev_op (ev_lenL (ev_var rfl) ha) ev_c (rv_ne rfl))) fun z => by cases z) rfl) (fun hb H1 e1 => g.2 rfl H1 e1) fun hb => by cases hb
  | [_], ha, hl, g => exact q_when (b := true) (et_is (et_or (a := true) (b := true) (et_test (ev_op (ev_lenL (ev_var rfl) ha) ev_c (rv_ne rfl))) fun z => by cases z) rfl) (fun hb H1 e1 => g.2 rfl H1 e1) fun hb => by cases hb
  | [_, _], ha, hl, g => exact q_when (b := true) (et_is (et_or (a := true) (b := true) (et_test (ev_op (ev_lenL (ev_var rfl) ha) ev_c (rv_ne rfl))) fun z => by cases z) rfl) (fun hb H1 e1 => g.2 rfl H1 e1) fun hb => by cases hb
  | [_, _, _], ha, hl, g => exact q_when (b := true) (et_is (et_or (a := true) (b := true) (et_test (ev_op (ev_lenL (ev_var rfl) ha) ev_c (rv_ne rfl))) fun z => by cases z) rfl) (fun hb H1 e1 => g.2 rfl H1 e1) fun hb => by cases hb
  | a0 :: a1 :: a2 :: a3 :: a4 :: l, ha, hl, g =>
    have : decide (V.int (((a0 :: a1 :: a2 :: a3 :: a4 :: l).map V.int).length : Int) = V.int 4) = false := by
      rw [int_eqV, decide_eq_false]
      simp
      omega
    exact q_when (b := true) (et_is (et_or (a := true) (b := true) (et_test (ev_is (ev_op (ev_lenL (ev_var rfl) ha) ev_c (rv_ne rfl)) (by rw [this]; rfl))) fun z => by cases z) rfl) (fun hb H1 e1 => g.2 rfl H1 e1) fun hb => by cases hb
abbrev rTupD (K : PySem.W.Frag) : List V → Hp → VK → Prop := fun xs H Q => ∃ p ys, xs = [.ref p] ∧ ((SqL K H p ys ∧ ∀ l, H l = none → Q (.ref l) (upd H l (.tup ys))) ∨ (SqT K H p ys ∧ Q (.ref p) H))
/-- tuple([..] + list) -/
theorem eu_front {ta : TE} {xs ys : List V} {b : Addr} (h : EvL ta σ H xs) (hb : Ev tb σ H (.ref b)) (hH : H b = some (.lst ys)) (hz : xs.length + ys.length ≤ 100000) : EvU (tCB (rTupD K) (tCons (tOp rCat ta tb) tNil)) σ H (xs ++ ys) := fun H1 e1 Q q =>
  h H1 e1 _ fun p H2 hp e2 h2 => hb H2 (e1.trans e2) _ fun H3 e3 => ⟨p, b, xs, ys, rfl, rfl, e3 p _ h2, e3 b _ (e2 b _ (e1 b _ hH)), sz_of hz, fun l hl => ⟨l, _, rfl, .inl ⟨sq_of upd_same, fun m hm => q m _ (fresh_back (e2.trans (e3.trans (Ex.new hl))) hm) ((e2.trans (e3.trans (Ex.new hl))).trans (Ex.new hm)) upd_same⟩⟩⟩
def Wd (w : Str) : Prop := w = "close" ∨ w = "piece" ∨ w = "got" ∨ NuW w
def spFrameIn (K : PySem.W.Frag) : Sp := fun vs H Q E => ∃ w a zs rest, vs = [.str w, .ref a, .str rest] ∧ Wd w ∧ H a = some (.lst (zs.map V.str)) ∧ zs.length ≤ 40000 ∧ (∀ z ∈ zs, z.length ≤ 40000) ∧ rest.length ≤ 40000 ∧ Gives K (rawP w zs rest) H Q E
theorem okFrameIn (D : DefAt K mg "frame_in" sFrameIn) (T : Tx K mg) (GNumbersIn : Cal P w K mg base (L2.CX P w) 2 "numbers_in" ["words"] (spNums K)) (GPieceIn : Cal P w K mg base (L2.CX P w) 1 "piece_in" ["numbers", "rest"] (spPieceIn K))
    (GRowsIn : Cal P w K mg base CX0 1 "rows_in" ["numbers"] (spRows K)) : Cal P w K mg base (L2.CX P w) 3 "frame_in" ["word", "words", "rest"] (spFrameIn K) := by
  refine cal_of D scFrameIn (fun _ _ _ _ _ _ us hl => match us, hl with | [_,_,_], _ => rfl) (fun vs H Q E ⟨a, ns, r, m, e, _⟩ => by rw [e]; rfl) fun f cdv A outer s H vs Q E hr h => ?_
  obtain ⟨x, a, zs, rest, rfl, hw, ha, hl, hz, hr', g⟩ := h
  have HX : ∀ σ, PassesAt (L2.CX P w) (cxOf (L2.CX P w) P w K mg base nFrameIn "frame_in" (defScope sFrameIn) f cdv A outer s H E) σ (WE (fun cls d _ H => E cls d H) σ) := fun σ => L2.passAt (L2.takes_of rfl rfl rfl rfl) σ
  refine ⟨_, ((pss_cons (ps_if (pt_cmpR op_eq (pv 0) pe_str (nomark _)) (pss_one (ps_ret (pe_callTy call_tuple_of (by rfl) T.b_tuple (by decide +kernel) (pa_cons (pe_op op_cat (pe_lst (pa_cons (pv 0) pa_nil)) (pv 1)) pa_nil)))) pss_nil)
      (pss_cons (ps_set (i := 3) scFrameIn.nd rfl (Or.inl rfl) (pe_calS GNumbersIn (hr.mono (by decide)) rfl HX (pa_cons (pv 1) pa_nil)))
      (pss_cons (ps_if (pt_cmpR op_eq (pv 0) pe_str (nomark _)) (pss_one (ps_ret (pe_calS GPieceIn (hr.mono (by decide)) rfl HX (pa_cons (pv 3) (pa_cons (pv 2) pa_nil))))) pss_nil)
      (pss_cons (ps_if (pt_cmpR op_eq (pv 0) pe_str (nomark _)) (pss_cons (ps_if (pt_cmpR op_ne (pe_op op_mul (pe_op op_fdivN (pe_callB call_len (by rfl) T.b_len (by decide +kernel) (pa_cons (pv 3) pa_nil)) pe_int) pe_int) (pe_callB call_len (by rfl) T.b_len (by decide +kernel) (pa_cons (pv 3) pa_nil)) (nomark _)) (pss_one (ps_raise rfl (L2.takes_of rfl rfl rfl rfl) (pmk_own PySem.F.excBase_ValueError T.eP.xc T.eP.gc T.eP.kc (raises_own T.eP.bc T.eP.tc) rfl))) pss_nil)
      (pss_one (ps_ret (pe_tup (pa_cons (pv 0) (pa_cons (pe_cal GRowsIn (hr.mono (by decide)) rfl pass0 (pa_cons (pv 3) pa_nil)) pa_nil)))))) pss_nil)
      (pss_one (ps_ret (pe_callTy call_tuple_of (by rfl) T.b_tuple (by decide +kernel) (pa_cons (pe_op op_cat (pe_lst (pa_cons (pv 0) pa_nil)) (pv 3)) pa_nil))))))))), ?_⟩
  refine q_when (et_is (et_test (ev_op (ev_var rfl) ev_c (rv_eq rfl))) (str_eqV x "close")) (fun hb H1 e1 => ?_) fun hb H1 e1 => ?_
  · have e : x = "close" := of_decide_eq_true hb
    have q := g.1 (.cl zs) (by unfold rawP; rw [if_pos e])
    refine s_retR (d := Raw.data (.cl zs)) ?_ (q.go e1)
    have := en_tup (K := K) (ds := .str x :: zs.map .str) (eu_front (K := K) (tb := tVar 1) (el_lst (ea_cons (ev_var (σ := L2.start nFrameIn [.str x, .ref a, .str rest]) (i := 0) rfl) ea_nil) (by simp)) (ev_var rfl) (e1 a _ ha) (by simp; omega)) fun G => .cons (.str x) (strs_dp zs)
    rw [e] at this ⊢
    exact this
  have nc : x ≠ "close" := of_decide_eq_false hb
  have rp : rawP x zs rest = match numsOf zs with
    | none => none
    | some ns => if x = "piece" then pieceP ns rest else if x = "got" then (if ns.length / 2 * 2 ≠ ns.length then none else some (.gt (pairs ns))) else some (.nu x ns) := by
    unfold rawP
    rw [if_neg nc] <;> rfl
  refine q_asgE (ea_cons (ev_var rfl) ea_nil) fun H2 e2 => ⟨a, zs, rfl, sq_of (e2 a _ (e1 a _ ha)), hl, hz, fun ns hns p H3 hp e3 h3 => ?_, fun hno H3 e3 => ?_⟩
  rotate_left
  · exact g.2 (by rw [rp, hno]) H3 ((e1.trans e2).trans e3)
  rw [hns] at rp
  have e03 := (e1.trans e2).trans e3
  have nl : ns.length ≤ 40000 := by
    rw [nums_len hns]
    exact hl
  refine q_when (et_is (et_test (ev_op (ev_var rfl) ev_c (rv_eq rfl))) (str_eqV x "piece")) (fun hb H4 e4 => ?_) fun hb H4 e4 => ?_
  · rw [show rawP x zs rest = pieceP ns rest by rw [rp]; exact if_pos (of_decide_eq_true hb)] at g
    exact s_retE (ea_cons (ev_var rfl) (ea_cons (ev_var rfl) ea_nil)) fun H5 e5 => ⟨p, ns, rest, rfl, sq_of (e5 p _ (e4 p _ h3)), nl, hr', (g.goE ((e03.trans e4).trans e5))⟩
  have np : x ≠ "piece" := of_decide_eq_false hb
  simp only [if_neg np] at rp
  refine q_when (et_is (et_test (ev_op (ev_var rfl) ev_c (rv_eq rfl))) (str_eqV x "got")) (fun hb H5 e5 => ?_) fun hb H5 e5 => ?_
  · have eg : x = "got" := of_decide_eq_true hb
    simp only [if_pos eg] at rp
    have h5 : SqL K H5 p (ns.map V.int) := sq_of (e5 p _ (e4 p _ h3))
    refine q_when (b := decide (ns.length / 2 * 2 ≠ ns.length)) (et_is (et_test (ev_op (ev_op (ev_op (ev_lenL (ev_var rfl) h5) ev_c (rv_I ⟨by decide, by decide⟩)) ev_c (rv_I (.inr (by decide)))) (ev_lenL (ev_var rfl) h5) (rv_ne rfl))) ?_) (fun hc H6 e6 => ?_) fun hc H6 e6 => ?_
    · rw [int_eqV, List.length_map]
      have : (ns.length : Int).fdiv 2 = ((ns.length / 2 : Nat) : Int) := by
        rw [Int.fdiv_eq_ediv_of_nonneg _ (by decide)]
        rfl
      rw [this]
      by_cases q : ns.length / 2 * 2 = ns.length
      · rw [decide_eq_true (by omega), decide_eq_false (by omega)]
        rfl
      · rw [decide_eq_false (by omega), decide_eq_true (by omega)]
        rfl
    · exact g.2 (by rw [rp]; exact if_pos (of_decide_eq_true hc)) H6 (((e03.trans e4).trans e5).trans e6)
    · have ev : ns.length = 2 * (ns.length / 2) := by
        have := of_decide_eq_false hc
        omega
      have q := g.1 (.gt (pairs ns)) (by rw [rp]; exact if_neg (of_decide_eq_false hc))
      refine s_retR (d := Raw.data (.gt (pairs ns))) ?_ (q.go (((e03.trans e4).trans e5).trans e6))
      rw [eg]
      refine en_tupN (ds := [.str "got", .list ((pairs ns).map rowD)]) (ena_cons (en_flat (ev_var rfl) fun _ => .str _) (ena_cons (en_call (ea_cons (ev_var rfl) ea_nil) fun H7 e7 Q q E => ⟨p, ns, ns.length / 2, rfl, ex_l (e6.trans e7) h5, ev, by omega, fun v H8 e8 hd => q v H8 e8 hd⟩) ena_nil)) (by simp)
  have ng : x ≠ "got" := of_decide_eq_false hb
  simp only [if_neg ng] at rp
  have q := g.1 (.nu x ns) rp
  refine s_retR (d := Raw.data (.nu x ns)) ?_ (q.go ((e03.trans e4).trans e5))
  exact en_tup (K := K) (ds := .str x :: ns.map .int) (eu_front (K := K) (el_lst (ea_cons (ev_var rfl) ea_nil) (by simp)) (ev_var rfl) (e5 p _ (e4 p _ h3)) (by rw [List.length_map]; simp; omega)) fun G => .cons (.str x) (ints_dp ns)
end
end Mk
set_option maxHeartbeats 4000000
/-! The program: all frames of a text. -/
namespace Mk
open PySem PySem.Spec PyProof.Rows L2 Evl TL
def wtab : List (Nat × Str) := [(112, "piece"), (103, "got"), (99, "credit"), (119, "whole"), (114, "reset"), (113, "ask"), (110, "answer"), (101, "early"), (120, "close")]
def wordOf (c : Nat) : Option Str := wtab.lookup c
def ltrs : Raw → Nat
  | .pc _ _ x _ => x.length
  | _ => 0
def sayB : Raw → List Str → Bool
  | .pc _ _ x _, zs => match zs[2]? with
    | some z => decide (Str.ofString (toString (x.length : Int)) = z)
    | none => false
  | _, _ => true
def words (t : Str) (at_ k : Nat) : List Str := Txt.split (cutS t (some ((at_ : Int) + 1)) (some (k : Int))) ","
def stepK (t : Str) (at_ k : Nat) (x : Str) : Option (Raw × Nat) :=
  match rawP x (words t at_ k) (cutS t (some ((k : Int) + 1)) (some ((k : Int) + 1 + 64))) with
  | none => none
  | some f => if (f.ok && (sayB f (words t at_ k) && decide (cutS t (some ((k : Int) + 1 + (ltrs f : Int))) (some ((k : Int) + 1 + (ltrs f : Int) + 1)) = ";"))) = true then some (f, k + 1 + ltrs f + 1) else none
def stepP (t : Str) (at_ : Nat) : Option (Raw × Nat) :=
  match (tl t)[at_]? with
  | none => none
  | some c => if Txt.find3 t ":" (at_ : Int) < 0 then none else match wordOf c with
    | none => none
    | some x => stepK t at_ (Txt.find3 t ":" (at_ : Int)).toNat x
/-- all steps, from a place on -/
def runF (step : Nat → Option (Raw × Nat)) (n : Nat) : Nat → Nat → Option (List Raw)
  | 0, _ => some []
  | k + 1, a => if a < n then (match step a with
    | none => none
    | some (f, b) => (runF step n k b).map (f :: ·)) else some []
def parse (t : Str) : Option (List Raw) := runF (stepP t) t.length (t.length + 1) 0
def framesD (fs : List Raw) : PyData := .list (fs.map Raw.data)
/-- the table of words -/
structure TW (K : PySem.W.Frag) (w : World) (mg : Str → Option Value) : Prop where
  g : mg "WORDS" = some (.ref (He.ga K "WORDS"))
  kd : ∃ es n, KDict K w (He.ga K "WORDS") es n
  has : ∀ c x, wordOf c = some x → ∃ u, PySem.W.nsIn K (He.ga K "WORDS") ⟨#[c]⟩ = some (some u) ∧ RelV (.str x) u
  non : ∀ c, wordOf c = none → PySem.W.nsIn K (He.ga K "WORDS") ⟨#[c]⟩ = some none
theorem colon : (":" : Str) = ⟨#[58]⟩ := by decide +kernel
theorem comma : tl (",") = [44] := by decide +kernel
theorem comma_ok : (("," : Str).length == 0) = false := by decide +kernel
theorem find_ge {t : Str} {a : Nat} (h : ¬ Txt.find3 t ":" (a : Int) < 0) : ∃ k : Nat, Txt.find3 t ":" (a : Int) = (k : Int) ∧ a ≤ k ∧ k < t.length := by
  rw [colon] at h ⊢
  have fi : fromIndex t.length (a : Int) = a := by
    unfold fromIndex
    rw [if_neg (by omega)]
    omega
  rcases StrLaws.find3_spec t 58 (a : Int) with ⟨h1, _⟩ | ⟨k, h1, h2, h3, _⟩
  · rw [h1] at h
    omega
  · exact ⟨k, h1, by rw [fi] at h2; exact h2, h3⟩
theorem spl1_len : ∀ (l acc : List Nat), (spl [44] 0 acc l).length ≤ l.length + 1 ∧ ∀ p ∈ spl [44] 0 acc l, p.length ≤ acc.length + l.length
  | [], acc => by
    rw [spl_nil]
    simp
  | c :: r, acc => by
    cases h : pre [44] (c :: r) with
    | true =>
      rw [spl_hit h]
      have ih := spl1_len r []
      have e : spl [44] ([44].length - 1) [] r = spl [44] 0 [] r := rfl
      rw [e]
      refine ⟨by simp; exact ih.1, fun p hp => ?_⟩
      rcases List.mem_cons.mp hp with rfl | hp
      · simp
      · have := ih.2 p hp
        simp at this ⊢
        omega
    | false =>
      rw [spl_miss h]
      have ih := spl1_len r (acc ++ [c])
      refine ⟨by simp; omega, fun p hp => ?_⟩
      have := ih.2 p hp
      simp at this ⊢
      omega
theorem split_spl1 (x : Str) : (Txt.split x ",").map tl = spl [44] 0 [] (tl x) := by
  have := split_spl x "," (by rw [comma]; simp) (kind_ok (by decide +kernel))
  rw [comma] at this
  exact this
theorem split_len (x : Str) : (Txt.split x ",").length ≤ x.length + 1 ∧ ∀ z ∈ Txt.split x ",", z.length ≤ x.length := by
  have h := spl1_len (tl x) []
  rw [← split_spl1] at h
  refine ⟨by have := h.1; rw [List.length_map, ← len_tl] at this; exact this, fun z hz => ?_⟩
  have := h.2 (tl z) (List.mem_map.mpr ⟨z, hz, rfl⟩)
  rw [len_tl, len_tl]
  simpa using this
theorem words_len (t : Str) (a k : Nat) : (words t a k).length ≤ t.length + 1 ∧ ∀ z ∈ words t a k, z.length ≤ t.length := by
  have h := split_len (cutS t (some ((a : Int) + 1)) (some (k : Int)))
  have := cutS_length t (some ((a : Int) + 1)) (some (k : Int))
  exact ⟨by unfold words; omega, fun z hz => by have := h.2 z hz; omega⟩
theorem rawP_fit {x : Str} {zs : List Str} {rest : Str} {f : Raw} (hx : Wd x) (h : rawP x zs rest = some f) (h1 : zs.length ≤ 10000) (h2 : ∀ z ∈ zs, z.length ≤ 40000) (h3 : rest.length ≤ 40000) : f.fit := by
  unfold rawP at h
  split at h
  · cases h
    exact ⟨h1, h2⟩
  · rename_i nc
    cases hn : numsOf zs with
    | none => rw [hn] at h; cases h
    | some ns =>
      rw [hn] at h
      have nl := nums_len hn
      simp only at h
      split at h
      · unfold pieceP at h
        split at h
        · split at h
          · cases h
          · cases h
            exact Nat.le_trans (cutS_length _ _ _) h3
        · cases h
      · rename_i np
        split at h
        · split at h
          · cases h
          · cases h
            show (pairs ns).length ≤ 40000
            have : ∀ l : List Int, (pairs l).length ≤ l.length := fun l => by
              induction l using pairs.induct with
              | case1 a b r ih => simp [pairs]; omega
              | case2 l h => rw [pairs]; simp; exact h
            have := this ns
            omega
        · rename_i ng
          cases h
          refine ⟨?_, by omega⟩
          rcases hx with e | e | e | e
          · exact absurd e nc
          · exact absurd e np
          · exact absurd e ng
          · exact e
theorem word_wd {c : Nat} {x : Str} (h : wordOf c = some x) : Wd x := by
  have : (c, x) ∈ wtab := by
    unfold wordOf at h
    revert h
    generalize wtab = l
    induction l with
    | nil => intro h; cases h
    | cons q r ih =>
      obtain ⟨d, y⟩ := q
      intro h
      rw [List.lookup_cons] at h
      split at h
      · rename_i e
        cases h
        rw [beq_iff_eq] at e
        subst e
        exact List.mem_cons_self ..
      · exact List.mem_cons_of_mem _ (ih h)
  simp only [wtab, List.mem_cons, Prod.mk.injEq, List.not_mem_nil, or_false] at this
  unfold Wd NuW
  rcases this with ⟨_, rfl⟩ | ⟨_, rfl⟩ | ⟨_, rfl⟩ | ⟨_, rfl⟩ | ⟨_, rfl⟩ | ⟨_, rfl⟩ | ⟨_, rfl⟩ | ⟨_, rfl⟩ | ⟨_, rfl⟩ <;> simp
end Mk
set_option maxHeartbeats 4000000
/-! The program: all frames of a text, the walk. -/
namespace Mk
open PySem PySem.Spec PyProof.Rows L2 Evl TL
section
variable {P : Program} {w : World} {K : PySem.W.Frag} {mg : Str → Option Value} {base : Heap} {k : Nat} {σ : L2.St} {H : Hp} {te tb : TE}
variable {D : Ends} {tz : TS}
abbrev rFind3 : V → List V → Hp → VK → Prop := fun x xs H Q => ∃ (a b : Str) (i : Int), x = .str a ∧ xs = [.str b, .int i] ∧ Q (.int (Txt.find3 a b i)) H
abbrev rSplit : V → List V → Hp → VK → Prop := fun x xs H Q => ∃ a b, x = .str a ∧ xs = [.str b] ∧ (b.length == 0) = false ∧ a.length + 2 ≤ sizeLine ∧ rNewStrs (Txt.split a b) H Q
theorem ev_find3 {a b : Str} {i : Int} {ta : TE} {tc : TE} (h : Ev te σ H (.str a)) (hb : Ev ta σ H (.str b)) (hi : Ev tc σ H (.int i)) : Ev (tBM K "str" rFind3 te (tCons ta (tCons tc tNil))) σ H (.int (Txt.find3 a b i)) := fun H1 e1 Q q =>
  h H1 e1 _ fun H2 e2 => ⟨rfl, (ea_cons hb (ea_cons hi ea_nil)) H2 (e1.trans e2) _ fun H3 e3 => ⟨a, b, i, rfl, rfl, q H3 (e2.trans e3)⟩⟩
theorem el_split {a b : Str} {ta : TE} (h : Ev te σ H (.str a)) (hb : Ev ta σ H (.str b)) (h0 : (b.length == 0) = false) (hz : a.length + 2 ≤ 100000) : EvL (tBM K "str" rSplit te (tCons ta tNil)) σ H ((Txt.split a b).map V.str) := fun H1 e1 Q q =>
  h H1 e1 _ fun H2 e2 => ⟨rfl, hb H2 (e1.trans e2) _ fun H3 e3 => ⟨a, b, rfl, rfl, h0, sz_of hz, fun p hp => q p _ (fresh_back (e2.trans e3) hp) ((e2.trans e3).trans (Ex.new hp)) upd_same⟩⟩
theorem et_strNe {ta : TE} {x y : Str} (h : Ev te σ H (.str x)) (hb : Ev ta σ H (.str y)) : EvT (tTest (tOp rNe te ta)) σ H (!decide (x = y)) := by
  rw [← str_eqV]
  exact et_test (ev_op h hb (rv_ne rfl))
theorem et_strEq {ta : TE} {x y : Str} (h : Ev te σ H (.str x)) (hb : Ev ta σ H (.str y)) : EvT (tTest (tOp rEq te ta)) σ H (decide (x = y)) := by
  rw [← str_eqV]
  exact et_test (ev_op h hb (rv_eq rfl))
/-- any value that is no text -/
def NoStr (K : PySem.W.Frag) (v : V) (H : Hp) : Prop := ∃ T, kitB T "str" = some false ∧ ∀ H1, Ex H H1 → TyX K H1 v (.type T)
def spReadFrames (K : PySem.W.Frag) : Sp := fun vs H Q E => ∃ v, vs = [v] ∧ ((NoStr K v H ∧ ∀ H2, Ex H H2 → E (.ref (He.ga K "BadPacket")) none H2) ∨
  ∃ t, v = .str t ∧ t.length ≤ 9000 ∧ (∀ fs, parse t = some fs → RetN K (framesD fs) H Q) ∧ (parse t = none → ∀ H2, Ex H H2 → E (.ref (He.ga K "BadPacket")) none H2))
theorem runF_step {step : Nat → Option (Raw × Nat)} {n k a : Nat} (h : a < n) : runF step n (k + 1) a = match step a with
    | none => none
    | some (f, b) => (runF step n k b).map (f :: ·) := by
  rw [runF, if_pos h] <;> rfl
theorem runF_end {step : Nat → Option (Raw × Nat)} {n k a : Nat} (h : ¬ a < n) : runF step n k a = some [] := by
  cases k with
  | zero => rfl
  | succ k => rw [runF, if_neg h]
theorem rawP_pc {x : Str} {zs : List Str} {rest : Str} {f : Raw} (h : rawP x zs rest = some f) (hx : x = "piece") : ∃ a b y l, f = .pc a b y l ∧ zs.length = 4 := by
  unfold rawP at h
  rw [if_neg (by rw [hx]; decide +kernel)] at h
  cases hn : numsOf zs with
  | none => rw [hn] at h; cases h
  | some ns =>
    rw [hn] at h
    simp only [if_pos hx] at h
    unfold pieceP at h
    split at h
    · split at h
      · cases h
      · cases h
        exact ⟨_, _, _, _, rfl, by rw [← nums_len hn]; rfl⟩
    · cases h
theorem rawP_npc {x : Str} {zs : List Str} {rest : Str} {f : Raw} (h : rawP x zs rest = some f) (hx : x ≠ "piece") : ltrs f = 0 ∧ ∀ zs, sayB f zs = true := by
  unfold rawP at h
  split at h
  · cases h
    exact ⟨rfl, fun _ => rfl⟩
  · cases hn : numsOf zs with
    | none => rw [hn] at h; cases h
    | some ns =>
      rw [hn] at h
      simp only [if_neg hx] at h
      split at h
      · split at h
        · cases h
        · cases h
          exact ⟨rfl, fun _ => rfl⟩
      · cases h
        exact ⟨rfl, fun _ => rfl⟩
theorem okReadFrames (D : DefAt K mg "read_frames" sReadFrames) (T : Tx K mg) (W : TW K w mg) (GFrameIn : Cal P w K mg base (L2.CX P w) 3 "frame_in" ["word", "words", "rest"] (spFrameIn K)) (GIsFrame : Cal P w K mg base CX0 4 "is_frame" ["thing"] (spFrame K))
    (GShowNumber : Cal P w K mg base CX0 1 "show_number" ["number"] spShow) : Cal P w K mg base (L2.CX P w) 5 "read_frames" ["text"] (spReadFrames K) := by
  refine cal_of D scReadFrames (fun _ _ _ _ _ _ us hl => match us, hl with | [_], _ => rfl) (fun vs H Q E ⟨v, e, _⟩ => by rw [e]; rfl) fun f cdv A outer s H vs Q E hr h => ?_
  obtain ⟨v, rfl, h⟩ := h
  obtain ⟨es, n0, kd⟩ := W.kd
  have HX : ∀ σ, PassesAt (L2.CX P w) (cxOf (L2.CX P w) P w K mg base nReadFrames "read_frames" (defScope sReadFrames) f cdv A outer s H E) σ (WE (fun cls d _ H => E cls d H) σ) := fun σ => L2.passAt (L2.takes_of rfl rfl rfl rfl) σ
  refine ⟨_, ((pss_cons (ps_if (pt_not (pt_val (pe_callB call_isi (by rfl) T.b_isinstance (by decide +kernel) (pa_cons (pv 0) (pa_cons (pe_ty (c := "str") rfl T.b_str) pa_nil))))) (pss_one (ps_raise rfl (L2.takes_of rfl rfl rfl rfl) (pmk_own PySem.F.excBase_ValueError T.eP.xc T.eP.gc T.eP.kc (raises_own T.eP.bc T.eP.tc) rfl))) pss_nil)
      (pss_cons (ps_set (i := 1) scReadFrames.nd rfl (Or.inl rfl) (pe_lst pa_nil))
      (pss_cons (ps_set (i := 2) scReadFrames.nd rfl (Or.inl rfl) pe_int)
      (pss_cons (ps_while (passes_of rfl) (pt_cmpR op_lt (pv 2) (pe_callB call_len (by rfl) T.b_len (by decide +kernel) (pa_cons (pv 0) pa_nil)) (nomark _)) (pss_cons (ps_set (i := 3) scReadFrames.nd rfl (Or.inl rfl) (pe_bm PySem.F.plainAttrs_str PySem.F.slot_str_find PySem.F.type_str_find mt_find3 (pv 0) (pa_cons pe_str (pa_cons (pv 2) pa_nil))))
      (pss_cons (ps_if (PW.pt (pw_or (pt_cmpR op_lt (pv 3) pe_int (nomark _)) (pw_or1 (pt_cmpR (op_notIn_kd kd) (pe_ix ix_str (pv 0) (pv 2) (fun _ _ => rfl)) (pe_glob (v := .ref (He.ga K "WORDS")) rfl W.g rfl) rfl)))) (pss_one (ps_raise rfl (L2.takes_of rfl rfl rfl rfl) (pmk_own PySem.F.excBase_ValueError T.eP.xc T.eP.gc T.eP.kc (raises_own T.eP.bc T.eP.tc) rfl))) pss_nil)
      (pss_cons (ps_set (i := 4) scReadFrames.nd rfl (Or.inl rfl) (pe_ix ix_kdict (pe_glob (v := .ref (He.ga K "WORDS")) rfl W.g rfl) (pe_ix ix_str (pv 0) (pv 2) (fun _ _ => rfl)) (fun _ _ => rfl)))
      (pss_cons (ps_set (i := 5) scReadFrames.nd rfl (Or.inl rfl) (pe_bm PySem.F.plainAttrs_str PySem.F.slot_str_split PySem.F.type_str_split mt_split (pe_slice sl_str (pv 0) (po_some (pe_op op_add (pv 2) pe_int)) (po_some (pv 3))) (pa_cons pe_str pa_nil)))
      (pss_cons (ps_set (i := 6) scReadFrames.nd rfl (Or.inl rfl) (pe_calS GFrameIn (hr.mono (by decide)) rfl HX (pa_cons (pv 4) (pa_cons (pv 5) (pa_cons (pe_slice sl_str (pv 0) (po_some (pe_op op_add (pv 3) pe_int)) (po_some (pe_op op_add (pe_op op_add (pv 3) pe_int) (pe_gint T.iMOST_LETTERS rfl)))) pa_nil)))))
      (pss_cons (ps_if (pt_not (pt_val (pe_cal GIsFrame (hr.mono (by decide)) rfl pass0 (pa_cons (pv 6) pa_nil)))) (pss_one (ps_raise rfl (L2.takes_of rfl rfl rfl rfl) (pmk_own PySem.F.excBase_ValueError T.eP.xc T.eP.gc T.eP.kc (raises_own T.eP.bc T.eP.tc) rfl))) pss_nil)
      (pss_cons (ps_set (i := 2) scReadFrames.nd rfl (Or.inl rfl) (pe_op op_add (pv 3) pe_int))
      (pss_cut (ps_if (pt_cmpR op_eq (pv 4) pe_str (nomark _)) (pss_cons (ps_if (pt_cmpR op_ne (pe_cal GShowNumber (hr.mono (by decide)) rfl pass0 (pa_cons (pe_callB call_len (by rfl) T.b_len (by decide +kernel) (pa_cons (pe_ix ix_tup (pv 6) pe_int (fun _ _ => rfl)) pa_nil)) pa_nil)) (pe_ix ix_list (pv 5) pe_int (fun _ _ => rfl)) (nomark _)) (pss_one (ps_raise rfl (L2.takes_of rfl rfl rfl rfl) (pmk_own PySem.F.excBase_ValueError T.eP.xc T.eP.gc T.eP.kc (raises_own T.eP.bc T.eP.tc) rfl))) pss_nil)
      (pss_one (ps_set (i := 2) scReadFrames.nd rfl (Or.inl rfl) (pe_op op_add (pv 2) (pe_callB call_len (by rfl) T.b_len (by decide +kernel) (pa_cons (pe_ix ix_tup (pv 6) pe_int (fun _ _ => rfl)) pa_nil)))))) pss_nil)
      (pss_cons (ps_if (pt_cmpR op_ne (pe_slice sl_str (pv 0) (po_some (pv 2)) (po_some (pe_op op_add (pv 2) pe_int))) pe_str (nomark _)) (pss_one (ps_raise rfl (L2.takes_of rfl rfl rfl rfl) (pmk_own PySem.F.excBase_ValueError T.eP.xc T.eP.gc T.eP.kc (raises_own T.eP.bc T.eP.tc) rfl))) pss_nil)
      (pss_cons (ps_set (i := 2) scReadFrames.nd rfl (Or.inl rfl) (pe_op op_add (pv 2) pe_int))
      (pss_one (ps_expr (pe_bm PySem.F.plainAttrs_list PySem.F.slot_list_append PySem.F.type_list_append mt_append (pv 1) (pa_cons (pv 6) pa_nil)))))))))))))))
      (pss_one (ps_ret (pv 1)))))))), ?_⟩
  rcases h with ⟨⟨ty, hk, hty⟩, hE⟩ | ⟨t, rfl, hl, hy, hn⟩
  · exact q_when (b := true) (et_not (et_B (ev_isi (ev_var rfl) (hty H (Ex.refl H)) hty hk))) (fun _ H1 e1 => hE H1 e1) fun z => by cases z
  refine q_when (b := false) (et_not (et_B (ev_isiD (ev_var rfl) (.str t) k_ss))) (fun z => by cases z) fun _ H0 e0 => ?_
  refine q_asgL (el_lst ea_nil (by simp)) fun q H1 hq e1 h1 => ?_
  have hqH : H q = none := fresh_back e0 hq
  refine q_asg ev_c fun H2 e2 => ?_
  refine q_while (fun m σ' H' => ∃ (at_ : Nat) (acc : List Raw) (x3 x4 x5 x6 : Option V), σ' = [some (.str t), some (.ref q), some (.int (at_ : Int)), x3, x4, x5, x6] ∧ Grows K H q (acc.map Raw.data) H' ∧ t.length < at_ + m ∧ acc.length + m ≤ t.length + 1 ∧ parse t = (runF (stepP t) t.length m at_).map (acc ++ ·)) (t.length + 1)
    ⟨0, [], _, _, _, _, rfl, grows_nil hqH ((e0.trans e1).trans e2) (e2 q _ h1), by omega, by simp, by unfold parse; cases runF (stepP t) t.length (t.length + 1) 0 <;> simp⟩ ?_
  intro m σ' H' ⟨at_, acc, x3, x4, x5, x6, eσ, gr, hm, hacc, hp⟩
  subst eσ
  refine ⟨decide ((at_ : Int) < (t.length : Int)), et_test (ev_op (ev_var rfl) (ev_lenS (ev_var rfl) (by omega)) rv_I0), fun hb H3 e3 => ?_, fun hb H3 e3 => ?_⟩
  rotate_left
  · refine s_ret (ev_var rfl) fun H4 e4 => hy acc ?_ _ H4 ((gr.ex.trans e3).trans e4) ((gr.on e3).on e4).done
    rw [hp, runF_end (by have := of_decide_eq_false hb; omega)]
    simp
  have lt : at_ < t.length := by
    have := of_decide_eq_true hb
    omega
  cases m with
  | zero => omega
  | succ m =>
  rw [runF_step lt] at hp
  obtain ⟨c, hc⟩ : ∃ c, (tl t)[at_]? = some c := by
    rw [List.getElem?_eq_getElem (by rw [← len_tl]; exact lt)]
    exact ⟨_, rfl⟩
  refine ⟨fun σ2 H2 => ∃ m', m' < m + 1 ∧ ∃ (at_ : Nat) (acc : List Raw) (x3 x4 x5 x6 : Option V), σ2 = [some (.str t), some (.ref q), some (.int (at_ : Int)), x3, x4, x5, x6] ∧ Grows K H q (acc.map Raw.data) H2 ∧ t.length < at_ + m' ∧ acc.length + m' ≤ t.length + 1 ∧ parse t = (runF (stepP t) t.length m' at_).map (acc ++ ·), fun σ2 H2 z => z, ?_⟩
  have e03 := gr.ex.trans e3
  -- what the refusals say
  have no : stepP t at_ = none → ∀ H2, Ex H H2 → E (.ref (He.ga K "BadPacket")) none H2 := fun h => hn (by rw [hp, h]; rfl)
  have st0 : stepP t at_ = if Txt.find3 t ":" (at_ : Int) < 0 then none else match wordOf c with
    | none => none
    | some x => stepK t at_ (Txt.find3 t ":" (at_ : Int)).toNat x := by
    unfold stepP
    rw [hc] <;> rfl
  refine q_asg (ev_find3 (ev_var rfl) ev_c (ev_var rfl)) fun H4 e4 => ?_
  have e04 := e03.trans e4
  refine q_when (b := decide (Txt.find3 t ":" (at_ : Int) < 0) || (wordOf c).isNone) (et_or (et_test (ev_op (ev_var rfl) ev_c rv_I0)) fun _ => et_test (ev_op (ev_op (ev_var rfl) (ev_var rfl) (rv_ixS (by omega) (at_nat hc))) ev_c fun H1 _ Q q => ?_)) (fun hb H5 e5 => ?_) fun hb H5 e5 => ?_
  · cases hw : wordOf c with
    | none => exact ⟨_, none, rfl, rfl, W.non c hw, by rw [hw] at q; exact q H1 (Ex.refl H1)⟩
    | some x =>
      obtain ⟨u, hu, _⟩ := W.has c x hw
      exact ⟨_, some u, rfl, rfl, hu, by rw [hw] at q; exact q H1 (Ex.refl H1)⟩
  · refine no ?_ H5 (e04.trans e5)
    rw [st0]
    by_cases hneg : Txt.find3 t ":" (at_ : Int) < 0
    · rw [if_pos hneg]
    · rw [if_neg hneg]
      rw [decide_eq_false hneg, Bool.false_or] at hb
      cases hw : wordOf c with
      | none => rfl
      | some x => rw [hw] at hb; cases hb
  rw [Bool.or_eq_false_iff] at hb
  obtain ⟨hneg, hw⟩ := hb
  have hneg := of_decide_eq_false hneg
  rw [if_neg hneg] at st0
  obtain ⟨k, ek, k1, k2⟩ := find_ge hneg
  rw [ek, show ((k : Int)).toNat = k from rfl] at st0
  rw [ek]
  cases hx : wordOf c with
  | none => rw [hx] at hw; cases hw
  | some x =>
  rw [hx] at st0
  have st0 : stepP t at_ = stepK t at_ k x := st0
  have wd := word_wd hx
  obtain ⟨u, hu, ru⟩ := W.has c x hx
  have e05 := e04.trans e5
  refine q_asg (v := .str x) (ev_op ev_c (ev_op (ev_var rfl) (ev_var rfl) (rv_ixS (by omega) (at_nat hc))) fun H1 _ Q q => ⟨_, _, .str x, rfl, rfl, ⟨es, n0, u, kd.at_, kd.lit, hu, ru⟩, q H1 (Ex.refl H1)⟩) fun H6 e6 => ?_
  have e06 := e05.trans e6
  have hcl : (cutS t (some ((at_ : Int) + 1)) (some (k : Int))).length + 2 ≤ 100000 := by
    have := cutS_length t (some ((at_ : Int) + 1)) (some (k : Int))
    omega
  refine q_asgL (xs := (words t at_ k).map V.str) (el_split (ev_slS (ev_var rfl) (eo_some (ev_op (ev_var rfl) ev_c rv_I0)) (eo_some (ev_var rfl)) (by omega)) ev_c comma_ok hcl) fun pw H7 hpw e7 h7 => ?_
  have e07 := e06.trans e7
  have wl := words_len t at_ k
  refine q_asgE (ea_cons (ev_var rfl) (ea_cons (ev_var rfl) (ea_cons (ev_slS (ev_var rfl) (eo_some (ev_op (ev_var rfl) ev_c rv_I0)) (eo_some (ev_op (ev_op (ev_var rfl) ev_c rv_I0) ev_c rv_I0)) (by omega)) ea_nil))) fun H8 e8 => ?_
  refine ⟨x, pw, words t at_ k, cutS t (some ((k : Int) + 1)) (some ((k : Int) + 1 + 64)), rfl, wd, e8 pw _ h7, by omega, fun z hz => by have := wl.2 z hz; omega, by have := cutS_length t (some ((k : Int) + 1)) (some ((k : Int) + 1 + 64)); omega, fun f hf v H9 e9 hd => ?_, fun hno H9 e9 => ?_⟩
  rotate_left
  · refine no ?_ H9 ((e07.trans e8).trans e9)
    rw [st0, stepK, hno]
  have fit := rawP_fit wd hf (by omega) (fun z hz => by have := wl.2 z hz; omega) (by have := cutS_length t (some ((k : Int) + 1)) (some ((k : Int) + 1 + 64)); omega)
  have e79 := e8.trans e9
  have e09 := e07.trans e79
  have st1 : stepP t at_ = if (f.ok && (sayB f (words t at_ k) && decide (cutS t (some ((k : Int) + 1 + (ltrs f : Int))) (some ((k : Int) + 1 + (ltrs f : Int) + 1)) = ";"))) = true then some (f, k + 1 + ltrs f + 1) else none := by
    rw [st0, stepK, hf]
  refine q_when (et_not (et_B (call_dp (fun H1 Q E hd k => ⟨_, f, rfl, hd, fit, k⟩) (ev_var rfl) hd.dp))) (fun hb H10 e10 => ?_) fun hb H10 e10 => ?_
  · refine no ?_ H10 (e09.trans e10)
    have : f.ok = false := by simpa using hb
    rw [st1, this]
    rfl
  have fok : f.ok = true := by simpa using hb
  rw [fok, Bool.true_and] at st1
  refine q_asg (ev_op (ev_var rfl) ev_c rv_I0) fun H11 e11 => ?_
  have e911 := e10.trans e11
  refine q_cut (M := fun σ' H' => σ' = [some (.str t), some (.ref q), some (.int ((k : Int) + 1 + (ltrs f : Int))), some (.int (k : Int)), some (.str x), some (.ref pw), some v] ∧ Ex H11 H' ∧ sayB f (words t at_ k) = true) ?_ ?_
  · refine s_when (et_strEq (ev_var rfl) ev_c) (fun hb H12 e12 => ?_) fun hb H12 e12 => ?_
    · obtain ⟨a, b, y, l, rfl, hz4⟩ := rawP_pc hf (of_decide_eq_true hb)
      obtain ⟨z, hz2⟩ : ∃ z, (words t at_ k)[2]? = some z := by
        rw [List.getElem?_eq_getElem (by omega)]
        exact ⟨_, rfl⟩
      obtain ⟨p6, xs, rfl, hp6, hx6⟩ := dp_tup hd.dp
      obtain ⟨_, _, rfl, _, tx⟩ := dpAll_cons hx6
      obtain ⟨_, _, rfl, _, tx⟩ := dpAll_cons tx
      obtain ⟨_, _, rfl, _, tx⟩ := dpAll_cons tx
      obtain ⟨_, _, rfl, hy3, _⟩ := dpAll_cons tx
      obtain rfl := dp_str hy3
      have hyl : y.length ≤ 40000 := fit
      have e912 := e911.trans e12
      have hw2 : ((words t at_ k).map V.str)[2]? = some (.str z) := by rw [List.getElem?_map, hz2]; rfl
      have hs : ∀ zz, sayB (Raw.pc a b y l) (words t at_ k) = decide (Str.ofString (toString (y.length : Int)) = zz) ∨ zz ≠ z := fun zz => by
        by_cases e : zz = z
        · subst e
          left
          simp only [sayB, hz2]
        · exact .inr e
      have hs : sayB (Raw.pc a b y l) (words t at_ k) = decide (Str.ofString (toString (y.length : Int)) = z) := by
        rcases hs z with h | h
        · exact h
        · exact absurd rfl h
      refine q_when (et_strNe (ev_call (ea_cons (ev_lenS (st_ref (i := 3) (ev_var rfl) (ex_t e912 hp6) rfl) (by omega)) ea_nil) fun H1 e Q q E => ⟨y.length, rfl, by omega, fun H2 e2 => q H2 e2⟩) (sq_ref (i := 2) (ev_var rfl) (sq_of (e12 pw _ (e911 pw _ (e79 pw _ h7)))) hw2)) (fun hb H13 e13 => ?_) fun hb H13 e13 => ?_
      · refine no ?_ H13 ((e09.trans e912).trans e13)
        rw [st1, hs]
        have : decide (Str.ofString (toString (y.length : Int)) = z) = false := by simpa using hb
        rw [this]
        rfl
      · refine s_asg (ev_op (ev_var rfl) (ev_lenS (st_ref (i := 3) (ev_var rfl) (ex_t (e912.trans e13) hp6) rfl) (by omega)) rv_I0) fun H14 e14 => ⟨rfl, (e12.trans e13).trans e14, ?_⟩
        rw [hs]
        simpa using hb
    · obtain ⟨h0, hs⟩ := rawP_npc hf (of_decide_eq_false hb)
      refine ⟨?_, e12, hs _⟩
      rw [h0]
      show _ = [_, _, some (V.int ((k : Int) + 1 + 0)), _, _, _, _]
      rw [Int.add_zero]
      rfl
  · intro σ' H12 ⟨eσ, e12, hs⟩
    subst eσ
    rw [hs, Bool.true_and] at st1
    have e912 := e911.trans e12
    refine q_when (et_strNe (ev_slS (ev_var rfl) (eo_some (ev_var rfl)) (eo_some (ev_op (ev_var rfl) ev_c rv_I0)) (by omega)) ev_c) (fun hb H13 e13 => ?_) fun hb H13 e13 => ?_
    · refine no ?_ H13 ((e09.trans e912).trans e13)
      rw [st1, if_neg]
      simpa using hb
    rw [if_pos (by simpa using hb)] at st1
    refine q_asg (ev_op (ev_var rfl) ev_c rv_I0) fun H14 e14 => ?_
    have e814 : Ex H8 H14 := ((e9.trans e912).trans e13).trans e14
    have e38 : Ex H' H8 := (((((e3.trans e4).trans e5).trans e6).trans e7).trans e8)
    have g8 := gr.on e38
    obtain ⟨accv, hq8, lq⟩ := g8.seq
    refine s_app (e814 q _ hq8) (ev_var rfl) (ev_var rfl) (by rw [lq, List.length_map]; omega) fun H15 e15 => ?_
    refine ⟨m, Nat.lt_succ_self m, k + 1 + ltrs f + 1, acc ++ [f], _, _, _, _, rfl, ?_, by omega, by simp; omega, ?_⟩
    · rw [List.map_append]
      exact g8.more hq8 (hd.wide (Ex.refl H8) (((e912.trans e13).trans e14).trans e15)) (e814.trans e15)
    · rw [hp, st1]
      show Option.map _ (Option.map _ _) = _
      rw [Option.map_map]
      congr 1
      funext l
      simp
end
end Mk
set_option maxHeartbeats 4000000
/-! The law: cells, the mix. -/
namespace Mk
open PySem PySem.Spec PyProof.Rows L2 Evl TL
def cellF (ns : List Int) (k : Nat) : Int := match ns[k]? with
  | some n => n
  | none => 1001 + 4 * (k : Int)
def mixB (c k : Int) : Int :=
  let a := ((c + 3) * 1181783497276652981).fmod 2305843009213693951
  let b := (a + (k + 1) * 614889782588491411).fmod 2305843009213693951
  let d := (b * b).fmod 999999999999999989
  let e := ((d + 1) * (d.fdiv 1000003 + 7)).fmod 2305843009213693951
  (e.fdiv 7919).fmod 999983
def cut6 : Nat → Int → Int
  | 0, x => x
  | n + 1, x => (cut6 n x).fdiv 1000000
def bigM : Int := 10 ^ 63 * 10 ^ 63 * 10 ^ 63 * 10 ^ 63 * 10 ^ 63 * 10 ^ 51
def mixF (c k : Int) : Int := if 10 ^ 18 ≤ c then (if 0 < cut6 (k.fmod 60).toNat (c.fmod bigM) then (cut6 (k.fmod 60).toNat (c.fmod bigM)).fmod 1000000 else mixB c k) else mixB c k
theorem fm (x : Int) {n : Int} (h : 0 < n) : 0 ≤ x.fmod n ∧ x.fmod n < n := ⟨Int.fmod_nonneg_of_pos x h, Int.fmod_lt_of_pos x h⟩
theorem mixB_in (c k : Int) : 0 ≤ mixB c k ∧ mixB c k < 1000000 := by
  have h : ∀ x : Int, 0 ≤ x.fmod 999983 ∧ x.fmod 999983 < 1000000 := fun x => ⟨(fm x (by decide)).1, by have := (fm x (n := 999983) (by decide)).2; omega⟩
  exact h _
theorem mix_in (c k : Int) : 0 ≤ mixF c k ∧ mixF c k < 1000000 := by
  unfold mixF
  split
  · split
    · exact fm _ (by decide)
    · exact mixB_in c k
  · exact mixB_in c k
section
variable {P : Program} {w : World} {K : PySem.W.Frag} {mg : Str → Option Value} {base : Heap} {k : Nat} {σ : L2.St} {H : Hp} {te tb : TE}
variable {D : Ends} {tz : TS}
def spCell (K : PySem.W.Frag) : Sp := fun vs H Q _ => ∃ a ns k, vs = [.ref a, .int ((k : Nat) : Int)] ∧ SqL K H a (ns.map V.int) ∧ k < 1000000 ∧ RetV (.int (cellF ns k)) H Q
theorem okLawCell (D : DefAt K mg "_law_cell" sLawCell) (T : Tx K mg) : Cal P w K mg base CX0 1 "_law_cell" ["_law_script", "_law_k"] (spCell K) := by
  refine cal_of D scLawCell (fun _ _ _ _ _ _ us hl => match us, hl with | [_,_], _ => rfl) (fun vs H Q E ⟨a, ns, k, e, _⟩ => by rw [e]; rfl) fun f cdv A outer s H vs Q E hr h => ?_
  obtain ⟨a, ns, k, rfl, ha, hk, hy⟩ := h
  refine ⟨_, ((pss_cons (ps_if (pt_cmpR op_lt (pv 1) (pe_callB call_len (by rfl) T.b_len (by decide +kernel) (pa_cons (pv 0) pa_nil)) (nomark _)) (pss_one (ps_ret (pe_ix ix_list (pv 0) (pv 1) (fun _ _ => rfl)))) pss_nil)
      (pss_one (ps_ret (pe_op op_add pe_int (pe_op op_mul pe_int (pv 1))))))), ?_⟩
  refine q_when (et_test (ev_op (ev_var rfl) (ev_lenL (ev_var rfl) ha) rv_I0)) (fun hb H1 e1 => ?_) fun hb H1 e1 => ?_
  · have lt : k < ns.length := by
      have := of_decide_eq_true hb
      rw [List.length_map] at this
      omega
    refine s_retV (ev_op (ev_var rfl) (ev_var rfl) (rv_ixL (ex_l e1 ha) (at_nat (x := .int (cellF ns k)) ?_))) (RetV.goV hy e1)
    unfold cellF
    rw [List.getElem?_map, List.getElem?_eq_getElem lt]
    rfl
  · have ge : ns[k]? = none := by
      have := of_decide_eq_false hb
      rw [List.length_map] at this
      exact List.getElem?_eq_none (by omega)
    refine s_retV (ev_is (ev_op ev_c (ev_op ev_c (ev_var rfl) (rv_I (.inl (by decide)))) rv_I0) ?_) (RetV.goV hy e1)
    unfold cellF
    rw [ge]
def spMix : Sp := fun vs H Q _ => ∃ c k : Int, vs = [.int c, .int k] ∧ RetV (.int (mixF c k)) H Q
theorem call_mix {ta tb : TE} {c k : Int} {E : XK} (h : Ev ta σ H (.int c)) (hk : Ev tb σ H (.int k)) : Ev (tCall spMix [] E (tCons ta (tCons tb tNil))) σ H (.int (mixF c k)) := ev_call (ea_cons h (ea_cons hk ea_nil)) fun H1 e Q q E => ⟨c, k, rfl, fun H2 e2 => q H2 e2⟩
theorem ev_mod {ta tb : TE} {x n : Int} (h : Ev ta σ H (.int x)) (hn : Ev tb σ H (.int n)) (h0 : n ≠ 0) : Ev (tOp (rI (fun _ j => j ≠ 0) fun i j => .int (i.fmod j)) ta tb) σ H (.int (x.fmod n)) := ev_op h hn (rv_I h0)
theorem ev_fdiv {ta tb : TE} {x n : Int} (h : Ev ta σ H (.int x)) (hn : Ev tb σ H (.int n)) (h0 : n ≠ 0 ∧ n.natAbs < 1073741824) : Ev (tOp (rI CDivN fun i j => .int (i.fdiv j)) ta tb) σ H (.int (x.fdiv n)) := ev_op h hn (rv_I h0)
theorem ev_pow {ta tb : TE} {x n : Int} (h : Ev ta σ H (.int x)) (hn : Ev tb σ H (.int n)) (h0 : 0 ≤ n ∧ n ≤ 1000000 ∧ x.natAbs < 2 ^ 64) : Ev (tOp (rI CPow fun i j => .int (i ^ j.toNat)) ta tb) σ H (.int (x ^ n.toNat)) := ev_op h hn (rv_I h0)
theorem ev_mulW {ta tb : TE} {x n : Int} (h : Ev ta σ H (.int x)) (hn : Ev tb σ H (.int n)) (h0 : CMulW x n) : Ev (tOp (rI CMulW fun i j => .int (i * j)) ta tb) σ H (.int (x * n)) := ev_op h hn (rv_I h0)
theorem ev_mulC {ta tb : TE} {x n : Int} (h : Ev ta σ H (.int x)) (hn : Ev tb σ H (.int n)) (h0 : CMul x n) : Ev (tOp (rI CMul fun i j => .int (i * j)) ta tb) σ H (.int (x * n)) := ev_op h hn (rv_I h0)
theorem okLawMix (D : DefAt K mg "_law_mix" sLawMix) (T : Tx K mg) : Cal P w K mg base CX0 1 "_law_mix" ["_law_cell_here", "_law_k"] spMix := by
  refine cal_of D scLawMix (fun _ _ _ _ _ _ us hl => match us, hl with | [_,_], _ => rfl) (fun vs H Q E ⟨a, ns, e, _⟩ => by rw [e]; rfl) fun f cdv A outer s H vs Q E hr h => ?_
  obtain ⟨c, k, rfl, hy⟩ := h
  refine ⟨_, ((pss_cut (ps_if (pt_cmpR op_ge (pv 0) (pe_op op_pow pe_int pe_int) (nomark _)) (pss_cons (ps_set (i := 2) scLawMix.nd rfl (Or.inl rfl) (pe_op op_modN (pv 0) (pe_op op_mulW (pe_op op_mulW (pe_op op_mulW (pe_op op_mulW (pe_op op_mulW (pe_op op_pow pe_int pe_int) (pe_op op_pow pe_int pe_int)) (pe_op op_pow pe_int pe_int)) (pe_op op_pow pe_int pe_int)) (pe_op op_pow pe_int pe_int)) (pe_op op_pow pe_int pe_int))))
      (pss_cons (ps_for (passes_of rfl) rfl (pi_range1 rfl T.b_range (pa_cons (pe_op op_modN (pv 1) pe_int) pa_nil)) (pg_name (i := 3) scLawMix.nd rfl (Or.inl rfl)) (pss_one (ps_set (i := 2) scLawMix.nd rfl (Or.inl rfl) (pe_op op_fdivN (pv 2) pe_int))))
      (pss_one (ps_if (pt_cmpR op_gt (pv 2) pe_int (nomark _)) (pss_one (ps_ret (pe_op op_modN (pv 2) pe_int))) pss_nil)))) pss_nil)
      (pss_cons (ps_set (i := 2) scLawMix.nd rfl (Or.inl rfl) (pe_op op_modN (pe_op op_mul (pe_op op_add (pv 0) pe_int) pe_int) pe_int))
      (pss_cons (ps_set (i := 2) scLawMix.nd rfl (Or.inl rfl) (pe_op op_modN (pe_op op_add (pv 2) (pe_op op_mul (pe_op op_add (pv 1) pe_int) pe_int)) pe_int))
      (pss_cons (ps_set (i := 2) scLawMix.nd rfl (Or.inl rfl) (pe_op op_modN (pe_op op_mul (pv 2) (pv 2)) pe_int))
      (pss_cons (ps_set (i := 2) scLawMix.nd rfl (Or.inl rfl) (pe_op op_modN (pe_op op_mul (pe_op op_add (pv 2) pe_int) (pe_op op_add (pe_op op_fdivN (pv 2) pe_int) pe_int)) pe_int))
      (pss_one (ps_ret (pe_op op_modN (pe_op op_fdivN (pv 2) pe_int) pe_int))))))))), ?_⟩
  refine q_cut (M := fun σ' H' => Ex H H' ∧ ∃ x y, σ' = [some (.int c), some (.int k), x, y] ∧ mixF c k = mixB c k) ?_ fun σ' H' z => ?_
  · refine s_when (et_test (ev_op (ev_var rfl) (ev_pow ev_c ev_c (by decide)) rv_I0)) (fun hb H1 e1 => ?_) fun hb H1 e1 => ?_
    · have hb : (10 : Int) ^ 18 ≤ c := of_decide_eq_true hb
      have p63 : ∀ {σ H}, Ev (tOp (rI CPow fun i j => .int (i ^ j.toNat)) (tC (.int 10)) (tC (.int 63))) σ H (.int (10 ^ 63)) := fun {σ H} => ev_pow ev_c ev_c (by decide)
      refine q_asg (v := .int (c.fmod bigM)) (ev_mod (ev_var rfl) (ev_mulW (ev_mulW (ev_mulW (ev_mulW (ev_mulW p63 p63 (by unfold CMulW; decide +kernel)) p63 (by unfold CMulW; decide +kernel)) p63 (by unfold CMulW; decide +kernel)) p63 (by unfold CMulW; decide +kernel)) (ev_pow ev_c ev_c (by decide)) (by unfold CMulW; decide +kernel)) (by decide +kernel)) fun H2 e2 => ?_
      have r60 := fm k (show (0 : Int) < 60 by decide)
      refine q_forR1 (ea_cons (ev_mod (ev_var rfl) ev_c (by decide)) ea_nil) ⟨r60.1, by omega⟩ (fun i σ' H' => Ex H H' ∧ ∃ y, σ' = [some (.int c), some (.int k), some (.int (cut6 i (c.fmod bigM))), y]) (fun H3 e3 => ⟨(e1.trans e2).trans e3, _, rfl⟩) (fun i σ' H' hi z => ?_) fun σ' H' z => ?_
      · obtain ⟨ex, y, rfl⟩ := z
        exact s_asg (ev_fdiv (ev_var rfl) ev_c (by decide)) fun H4 e4 => ⟨ex.trans e4, _, rfl⟩
      · obtain ⟨ex, y, rfl⟩ := z
        refine s_when (et_test (ev_op (ev_var rfl) ev_c rv_I0)) (fun hc H4 e4 => ?_) fun hc H4 e4 => ?_
        · refine s_retV (ev_is (ev_mod (ev_var rfl) ev_c (by decide)) ?_) (RetV.goV hy (ex.trans e4))
          unfold mixF
          rw [if_pos hb, if_pos (of_decide_eq_true hc)]
        · refine ⟨ex.trans e4, _, _, rfl, ?_⟩
          unfold mixF
          rw [if_pos hb, if_neg (of_decide_eq_false hc)]
    · refine ⟨e1, _, _, rfl, ?_⟩
      have hn : ¬ (10 : Int) ^ 18 ≤ c := of_decide_eq_false hb
      unfold mixF
      rw [if_neg hn]
  · obtain ⟨ex, x, y, rfl, em⟩ := z
    rw [em] at hy
    refine q_asg (ev_mod (ev_mulC (ev_op (ev_var rfl) ev_c rv_I0) ev_c (.inr (by decide))) ev_c (by decide)) fun H1 e1 => ?_
    refine q_asg (ev_mod (ev_op (ev_var rfl) (ev_mulC (ev_op (ev_var rfl) ev_c rv_I0) ev_c (.inr (by decide))) rv_I0) ev_c (by decide)) fun H2 e2 => ?_
    refine q_asg (ev_mod (ev_mulC (ev_var rfl) (ev_var rfl) (.inr (by have := fm (((c + 3) * 1181783497276652981).fmod 2305843009213693951 + (k + 1) * 614889782588491411) (show (0 : Int) < 2305843009213693951 by decide); exact ⟨by omega, by omega⟩))) ev_c (by decide)) fun H3 e3 => ?_
    refine q_asg (ev_mod (ev_mulC (ev_op (ev_var rfl) ev_c rv_I0) (ev_op (ev_fdiv (ev_var rfl) ev_c (by decide)) ev_c rv_I0) (.inl ?_)) ev_c (by decide)) fun H4 e4 => ?_
    · have := fm ((((c + 3) * 1181783497276652981).fmod 2305843009213693951 + (k + 1) * 614889782588491411).fmod 2305843009213693951 * (((c + 3) * 1181783497276652981).fmod 2305843009213693951 + (k + 1) * 614889782588491411).fmod 2305843009213693951) (show (0 : Int) < 999999999999999989 by decide)
      exact ⟨by omega, by omega⟩
    exact s_retV (ev_mod (ev_fdiv (ev_var rfl) ev_c (by decide)) ev_c (by decide)) (RetV.goV hy ((((ex.trans e1).trans e2).trans e3).trans e4))
end
end Mk
set_option maxHeartbeats 4000000
/-! The law: letters, numbers, words. -/
namespace Mk
open PySem PySem.Spec PyProof.Rows L2 Evl TL
def pickI (ns : List Int) (i : Int) : Int := ns.getD i.toNat 0
def everyA : Str := " !\"#$&'()*+,-./0123456789:;<=>?@ABCDEFGHIJKLMNOPQRSTUVWXYZ[\\]^_`abcdefghijklmnopqrstuvwxyz{|}~"
def everyB : Str := ":;, 0159apgcx"
def everyF (c k : Int) : Str := if (mixF c k).fmod 3 = 1 then everyB else everyA
def signAt (x : Str) (i : Int) : Nat := (tl x).getD (i.fmod (x.length : Int)).toNat 32
def lettersL (c k : Int) : Nat → List Nat
  | 0 => []
  | j + 1 => lettersL c k j ++ [signAt (everyF c k) ((mixF c (k + 1 + (j : Int).fdiv 3)).fdiv (pickI [1, 94, 8836] ((j : Int).fmod 3)))]
def mkS (l : List Nat) : Str := ⟨l.toArray⟩
def lettersF (c k : Int) (n : Nat) : Str := mkS (lettersL c k n)
def numberF (c k : Int) : Int := pickI [(mixF c (k + 1)).fmod 12, mixF c (k + 1), mixF c (k + 1) * 1000000 + mixF c (k + 2), 10 ^ 12 - (mixF c (k + 1)).fmod 3, (mixF c (k + 1)).fmod 100 * 10 ^ 10] ((mixF c k).fmod 5)
def wordL (c k : Int) : Nat → List Nat
  | 0 => []
  | j + 1 => wordL c k j ++ [signAt "abcdefghijklmnopqrstuvwxyz" ((mixF c (k + 1 + (j : Int).fdiv 4)).fdiv (pickI [1, 26, 676, 17576] ((j : Int).fmod 4)))]
def wordF (c k : Int) : Str := mkS (wordL c k (1 + (mixF c k).fmod 8).toNat)
theorem mkS_app (l : List Nat) (c : Nat) : mkS l ++ (⟨#[c]⟩ : Str) = mkS (l ++ [c]) := ext_tl (by rw [tl_append]; rfl)
theorem lettersL_len (c k : Int) : ∀ n, (lettersL c k n).length = n
  | 0 => rfl
  | n + 1 => by rw [lettersL, List.length_append, lettersL_len c k n]; rfl
theorem wordL_len (c k : Int) : ∀ n, (wordL c k n).length = n
  | 0 => rfl
  | n + 1 => by rw [wordL, List.length_append, wordL_len c k n]; rfl
theorem sign_mem (x : Str) (i : Int) (h : 0 < x.length) : signAt x i ∈ tl x := by
  have f := fm i (show (0 : Int) < (x.length : Int) by omega)
  have lt : (i.fmod (x.length : Int)).toNat < (tl x).length := by
    rw [← len_tl]
    omega
  unfold signAt
  rw [List.getD_eq_getElem?_getD, List.getElem?_eq_getElem lt]
  exact List.getElem_mem lt
theorem every_let (c k : Int) : 0 < (everyF c k).length ∧ ∀ x ∈ tl (everyF c k), letB x = true := by
  have a : 0 < everyA.length ∧ ∀ x ∈ tl everyA, letB x = true := by decide +kernel
  have b : 0 < everyB.length ∧ ∀ x ∈ tl everyB, letB x = true := by decide +kernel
  unfold everyF
  split
  · exact b
  · exact a
theorem letters_all (c k : Int) : ∀ n, (lettersL c k n).all letB = true
  | 0 => rfl
  | n + 1 => by
    rw [lettersL, List.all_append, letters_all c k n]
    have e := every_let c k
    have := e.2 _ (sign_mem _ ((mixF c (k + 1 + (n : Int).fdiv 3)).fdiv (pickI [1, 94, 8836] ((n : Int).fmod 3))) e.1)
    simp [this]
theorem word_all (c k : Int) : ∀ n, (wordL c k n).all smB = true
  | 0 => rfl
  | n + 1 => by
    rw [wordL, List.all_append, word_all c k n]
    have := sign_mem "abcdefghijklmnopqrstuvwxyz" ((mixF c (k + 1 + (n : Int).fdiv 4)).fdiv (pickI [1, 26, 676, 17576] ((n : Int).fmod 4))) (by decide +kernel)
    have : smB (signAt "abcdefghijklmnopqrstuvwxyz" ((mixF c (k + 1 + (n : Int).fdiv 4)).fdiv (pickI [1, 26, 676, 17576] ((n : Int).fmod 4)))) = true := decide_eq_true this
    simp [this]
theorem word_ok (c k : Int) : wordB (wordF c k) = true := by
  have f := fm (mixF c k) (show (0 : Int) < 8 by decide)
  have l : (wordF c k).length = (1 + (mixF c k).fmod 8).toNat := by
    rw [len_tl]
    exact wordL_len c k _
  unfold wordB
  rw [l, show (tl (wordF c k)).all smB = true from word_all c k _]
  simp
  omega
theorem num_five {x y : Int} (i : Int) (hi : 0 ≤ i ∧ i < 5) (hx : 0 ≤ x ∧ x < 1000000) (hy : 0 ≤ y ∧ y < 1000000) : numB (pickI [x.fmod 12, x, x * 1000000 + y, 10 ^ 12 - x.fmod 3, x.fmod 100 * 10 ^ 10] i) = true := by
  have h1 := fm x (show (0 : Int) < 12 by decide)
  have h2 := fm x (show (0 : Int) < 3 by decide)
  have h3 := fm x (show (0 : Int) < 100 by decide)
  have d : i = 0 ∨ i = 1 ∨ i = 2 ∨ i = 3 ∨ i = 4 := by omega
  unfold numB
  rcases d with rfl | rfl | rfl | rfl | rfl
  · show (decide (0 ≤ x.fmod 12) && decide (x.fmod 12 ≤ 1000000000000)) = true
    simp
    omega
  · show (decide (0 ≤ x) && decide (x ≤ 1000000000000)) = true
    simp
    omega
  · show (decide (0 ≤ x * 1000000 + y) && decide (x * 1000000 + y ≤ 1000000000000)) = true
    simp
    omega
  · show (decide (0 ≤ 10 ^ 12 - x.fmod 3) && decide (10 ^ 12 - x.fmod 3 ≤ 1000000000000)) = true
    simp
    omega
  · show (decide (0 ≤ x.fmod 100 * 10 ^ 10) && decide (x.fmod 100 * 10 ^ 10 ≤ 1000000000000)) = true
    simp
    omega
theorem number_ok (c k : Int) : numB (numberF c k) = true := num_five _ (fm _ (by decide)) (mix_in c (k + 1)) (mix_in c (k + 2))
section
variable {P : Program} {w : World} {K : PySem.W.Frag} {mg : Str → Option Value} {base : Heap} {k : Nat} {σ : L2.St} {H : Hp} {te tb : TE}
variable {D : Ends} {tz : TS}
/-- one of written ints -/
theorem ev_pick {ns : List Int} {tb : TE} {vs : List V} {tz : TA} {i : Int} (h : EvA tz σ H vs) (ev : vs = ns.map V.int) (hi : Ev tb σ H (.int i)) (h0 : 0 ≤ i ∧ i < (ns.length : Int)) (hz : ns.length ≤ 1000) : Ev (tOp (rIxL K) (tLst tz) tb) σ H (.int (pickI ns i)) := by
  subst ev
  refine ev_opL1 (el_lst h (by rw [List.length_map]; omega)) (fun H1 e => hi.mono e) fun p H1 hp e => rv_ixL (sq_of hp) ?_
  have ei : i = ((i.toNat : Nat) : Int) := by omega
  rw [ei]
  refine at_nat ?_
  have lt : i.toNat < ns.length := by omega
  rw [List.getElem?_map, List.getElem?_eq_getElem lt]
  unfold pickI
  rw [← ei, List.getD_eq_getElem?_getD, List.getElem?_eq_getElem lt]
  rfl
theorem rv_sign {x : Str} {i : Int} (h : 0 < x.length) (hz : x.length ≤ 100000) : RV rIxS (.str x) (.int (i.fmod (x.length : Int))) H (.str ⟨#[signAt x i]⟩) := by
  have f := fm i (show (0 : Int) < (x.length : Int) by omega)
  have lt : (i.fmod (x.length : Int)).toNat < (tl x).length := by
    rw [← len_tl]
    omega
  refine rv_ixS hz ?_
  have ei : i.fmod (x.length : Int) = (((i.fmod (x.length : Int)).toNat : Nat) : Int) := by omega
  rw [ei]
  refine at_nat ?_
  unfold signAt
  rw [List.getElem?_eq_getElem lt, List.getD_eq_getElem?_getD, List.getElem?_eq_getElem lt]
  rfl
def spLetters : Sp := fun vs H Q _ => ∃ c k n, vs = [.int c, .int k, .int ((n : Nat) : Int)] ∧ n ≤ 100 ∧ RetV (.str (lettersF c k n)) H Q
theorem okLawLetters (D : DefAt K mg "_law_letters" sLawLetters) (T : Tx K mg) (GLawMix : Cal P w K mg base CX0 1 "_law_mix" ["_law_cell_here", "_law_k"] spMix) : Cal P w K mg base CX0 2 "_law_letters" ["_law_cell_here", "_law_k", "_law_many"] spLetters := by
  refine cal_of D scLawLetters (fun _ _ _ _ _ _ us hl => match us, hl with | [_,_,_], _ => rfl) (fun vs H Q E ⟨a, ns, k, e, _⟩ => by rw [e]; rfl) fun f cdv A outer s H vs Q E hr h => ?_
  obtain ⟨c, k, n, rfl, hn, hy⟩ := h
  refine ⟨_, ((pss_cons (ps_set (i := 3) scLawLetters.nd rfl (Or.inl rfl) pe_str)
      (pss_cons (ps_if (pt_cmpR op_eq (pe_op op_modN (pe_cal GLawMix (hr.mono (by decide)) rfl pass0 (pa_cons (pv 0) (pa_cons (pv 1) pa_nil))) pe_int) pe_int (nomark _)) (pss_one (ps_set (i := 3) scLawLetters.nd rfl (Or.inl rfl) pe_str)) pss_nil)
      (pss_cons (ps_set (i := 4) scLawLetters.nd rfl (Or.inl rfl) pe_str)
      (pss_cons (ps_for (passes_of rfl) rfl (pi_range1 rfl T.b_range (pa_cons (pv 2) pa_nil)) (pg_name (i := 5) scLawLetters.nd rfl (Or.inl rfl)) (pss_cons (ps_set (i := 6) scLawLetters.nd rfl (Or.inl rfl) (pe_op op_fdivN (pe_cal GLawMix (hr.mono (by decide)) rfl pass0 (pa_cons (pv 0) (pa_cons (pe_op op_add (pe_op op_add (pv 1) pe_int) (pe_op op_fdivN (pv 5) pe_int)) pa_nil))) (pe_ix ix_list (pe_lst (pa_cons pe_int (pa_cons pe_int (pa_cons pe_int pa_nil)))) (pe_op op_modN (pv 5) pe_int) (fun _ _ => rfl))))
      (pss_one (ps_set (i := 4) scLawLetters.nd rfl (Or.inl rfl) (pe_op op_add_str (pv 4) (pe_ix ix_str (pv 3) (pe_op op_modN (pv 6) (pe_callB call_len (by rfl) T.b_len (by decide +kernel) (pa_cons (pv 3) pa_nil))) (fun _ _ => rfl)))))))
      (pss_one (ps_ret (pv 4)))))))), ?_⟩
  refine q_asg ev_c fun H1 e1 => ?_
  refine q_ifAsg (v := .str (everyF c k)) (et_is (et_test (ev_op (ev_mod (call_mix (ev_var rfl) (ev_var rfl)) ev_c (by decide)) ev_c (rv_eq rfl))) (int_eqV _ _)) (fun hb => ev_is ev_c ?_) (fun hb => ?_) fun H2 e2 => ?_
  · unfold everyF
    rw [if_pos (of_decide_eq_true hb)]
    rfl
  · unfold everyF
    rw [if_neg (of_decide_eq_false hb)]
    rfl
  refine q_asg ev_c fun H3 e3 => ?_
  refine q_forR1 (ea_cons (ev_var rfl) ea_nil) ⟨by omega, by omega⟩ (fun i σ' H' => Ex H H' ∧ ∃ x y, σ' = [some (.int c), some (.int k), some (.int (n : Int)), some (.str (everyF c k)), some (.str (lettersF c k i)), x, y]) (fun H4 e4 => ⟨((e1.trans e2).trans e3).trans e4, _, _, rfl⟩) (fun i σ' H' hi z => ?_) fun σ' H' z => ?_
  · obtain ⟨ex, x, y, rfl⟩ := z
    have i3 := fm (i : Int) (show (0 : Int) < 3 by decide)
    refine q_asg (ev_fdiv (call_mix (ev_var rfl) (ev_op (ev_op (ev_var rfl) ev_c rv_I0) (ev_fdiv (ev_var rfl) ev_c (by decide)) rv_I0)) (ev_pick (ns := [1, 94, 8836]) (ea_cons ev_c (ea_cons ev_c (ea_cons ev_c ea_nil))) rfl (ev_mod (ev_var rfl) ev_c (by decide)) i3 (by decide)) ?_) fun H5 e5 => ?_
    · generalize hg : (i : Int).fmod 3 = m at i3 ⊢
      have d : m = 0 ∨ m = 1 ∨ m = 2 := by omega
      rcases d with rfl | rfl | rfl <;> decide
    · have el := every_let c k
      have ll : (everyF c k).length ≤ 100000 := by
        unfold everyF
        split <;> decide +kernel
      refine s_asg (ev_is (ev_op (ev_var rfl) (ev_op (ev_var rfl) (ev_mod (ev_var rfl) (ev_lenS (ev_var rfl) ll) (by omega)) (rv_sign el.1 ll)) (rv_addS ?_)) ?_) fun H6 e6 => ⟨(ex.trans e5).trans e6, _, _, rfl⟩
      · have : (lettersF c k i).length = i := by rw [len_tl]; exact lettersL_len c k i
        rw [this]
        show i + 1 ≤ 100000
        omega
      · exact congrArg V.str (mkS_app _ _)
  · obtain ⟨ex, x, y, rfl⟩ := z
    exact s_retV (ev_var rfl) (RetV.goV hy ex)
def spCK (f : Int → Int → V) : Sp := fun vs H Q _ => ∃ c k : Int, vs = [.int c, .int k] ∧ RetV (f c k) H Q
theorem call_ck {f : Int → Int → V} {ta tb : TE} {c k : Int} {E : XK} (h : Ev ta σ H (.int c)) (hk : Ev tb σ H (.int k)) : Ev (tCall (spCK f) [] E (tCons ta (tCons tb tNil))) σ H (f c k) := ev_call (ea_cons h (ea_cons hk ea_nil)) fun H1 e Q q E => ⟨c, k, rfl, fun H2 e2 => q H2 e2⟩
theorem okLawNumber (D : DefAt K mg "_law_number" sLawNumber) (T : Tx K mg) (GLawMix : Cal P w K mg base CX0 1 "_law_mix" ["_law_cell_here", "_law_k"] spMix) : Cal P w K mg base CX0 2 "_law_number" ["_law_cell_here", "_law_k"] (spCK fun c k => .int (numberF c k)) := by
  refine cal_of D scLawNumber (fun _ _ _ _ _ _ us hl => match us, hl with | [_,_], _ => rfl) (fun vs H Q E ⟨a, ns, e, _⟩ => by rw [e]; rfl) fun f cdv A outer s H vs Q E hr h => ?_
  obtain ⟨c, k, rfl, hy⟩ := h
  refine ⟨_, ((pss_cons (ps_set (i := 2) scLawNumber.nd rfl (Or.inl rfl) (pe_cal GLawMix (hr.mono (by decide)) rfl pass0 (pa_cons (pv 0) (pa_cons (pe_op op_add (pv 1) pe_int) pa_nil))))
      (pss_cons (ps_set (i := 3) scLawNumber.nd rfl (Or.inl rfl) (pe_cal GLawMix (hr.mono (by decide)) rfl pass0 (pa_cons (pv 0) (pa_cons (pe_op op_add (pv 1) pe_int) pa_nil))))
      (pss_one (ps_ret (pe_ix ix_list (pe_lst (pa_cons (pe_op op_modN (pv 2) pe_int) (pa_cons (pv 2) (pa_cons (pe_op op_add (pe_op op_mul (pv 2) pe_int) (pv 3)) (pa_cons (pe_op op_sub (pe_op op_pow pe_int pe_int) (pe_op op_modN (pv 2) pe_int)) (pa_cons (pe_op op_mul (pe_op op_modN (pv 2) pe_int) (pe_op op_pow pe_int pe_int)) pa_nil)))))) (pe_op op_modN (pe_cal GLawMix (hr.mono (by decide)) rfl pass0 (pa_cons (pv 0) (pa_cons (pv 1) pa_nil))) pe_int) (fun _ _ => rfl))))))), ?_⟩
  refine q_asg (call_mix (ev_var rfl) (ev_op (ev_var rfl) ev_c rv_I0)) fun H1 e1 => ?_
  refine q_asg (call_mix (ev_var rfl) (ev_op (ev_var rfl) ev_c rv_I0)) fun H2 e2 => ?_
  exact s_retV (ev_pick (ns := [(mixF c (k + 1)).fmod 12, mixF c (k + 1), mixF c (k + 1) * 1000000 + mixF c (k + 2), 10 ^ 12 - (mixF c (k + 1)).fmod 3, (mixF c (k + 1)).fmod 100 * 10 ^ 10]) (ea_cons (ev_mod (ev_var rfl) ev_c (by decide)) (ea_cons (ev_var rfl) (ea_cons (ev_op (ev_mulC (ev_var rfl) ev_c (.inr (by decide))) (ev_var rfl) rv_I0) (ea_cons (ev_op (ev_pow ev_c ev_c (by decide)) (ev_mod (ev_var rfl) ev_c (by decide)) rv_I0) (ea_cons (ev_mulC (ev_mod (ev_var rfl) ev_c (by decide)) (ev_pow ev_c ev_c (by decide)) (.inr (by decide))) ea_nil))))) rfl (ev_mod (call_mix (ev_var rfl) (ev_var rfl)) ev_c (by decide)) (fm _ (by decide)) (by simp)) (RetV.goV hy (e1.trans e2))
theorem okLawWord (D : DefAt K mg "_law_word" sLawWord) (T : Tx K mg) (GLawMix : Cal P w K mg base CX0 1 "_law_mix" ["_law_cell_here", "_law_k"] spMix) : Cal P w K mg base CX0 2 "_law_word" ["_law_cell_here", "_law_k"] (spCK fun c k => .str (wordF c k)) := by
  refine cal_of D scLawWord (fun _ _ _ _ _ _ us hl => match us, hl with | [_,_], _ => rfl) (fun vs H Q E ⟨a, ns, e, _⟩ => by rw [e]; rfl) fun f cdv A outer s H vs Q E hr h => ?_
  obtain ⟨c, k, rfl, hy⟩ := h
  refine ⟨_, ((pss_cons (ps_set (i := 2) scLawWord.nd rfl (Or.inl rfl) pe_str)
      (pss_cons (ps_for (passes_of rfl) rfl (pi_range1 rfl T.b_range (pa_cons (pe_op op_add pe_int (pe_op op_modN (pe_cal GLawMix (hr.mono (by decide)) rfl pass0 (pa_cons (pv 0) (pa_cons (pv 1) pa_nil))) pe_int)) pa_nil)) (pg_name (i := 3) scLawWord.nd rfl (Or.inl rfl)) (pss_cons (ps_set (i := 4) scLawWord.nd rfl (Or.inl rfl) (pe_op op_fdivN (pe_cal GLawMix (hr.mono (by decide)) rfl pass0 (pa_cons (pv 0) (pa_cons (pe_op op_add (pe_op op_add (pv 1) pe_int) (pe_op op_fdivN (pv 3) pe_int)) pa_nil))) (pe_ix ix_list (pe_lst (pa_cons pe_int (pa_cons pe_int (pa_cons pe_int (pa_cons pe_int pa_nil))))) (pe_op op_modN (pv 3) pe_int) (fun _ _ => rfl))))
      (pss_one (ps_set (i := 2) scLawWord.nd rfl (Or.inl rfl) (pe_op op_add_str (pv 2) (pe_ix ix_str pe_str (pe_op op_modN (pv 4) pe_int) (fun _ _ => rfl)))))))
      (pss_one (ps_ret (pv 2)))))), ?_⟩
  have f8 := fm (mixF c k) (show (0 : Int) < 8 by decide)
  refine q_asg ev_c fun H1 e1 => ?_
  refine q_forR1 (ea_cons (ev_op ev_c (ev_mod (call_mix (ev_var rfl) (ev_var rfl)) ev_c (by decide)) rv_I0) ea_nil) ⟨by omega, by omega⟩ (fun i σ' H' => Ex H H' ∧ ∃ x y, σ' = [some (.int c), some (.int k), some (.str (mkS (wordL c k i))), x, y]) (fun H4 e4 => ⟨e1.trans e4, _, _, rfl⟩) (fun i σ' H' hi z => ?_) fun σ' H' z => ?_
  · obtain ⟨ex, x, y, rfl⟩ := z
    have i4 := fm (i : Int) (show (0 : Int) < 4 by decide)
    refine q_asg (ev_fdiv (call_mix (ev_var rfl) (ev_op (ev_op (ev_var rfl) ev_c rv_I0) (ev_fdiv (ev_var rfl) ev_c (by decide)) rv_I0)) (ev_pick (ns := [1, 26, 676, 17576]) (ea_cons ev_c (ea_cons ev_c (ea_cons ev_c (ea_cons ev_c ea_nil)))) rfl (ev_mod (ev_var rfl) ev_c (by decide)) i4 (by decide)) ?_) fun H5 e5 => ?_
    · generalize hg : (i : Int).fmod 4 = m at i4 ⊢
      have d : m = 0 ∨ m = 1 ∨ m = 2 ∨ m = 3 := by omega
      rcases d with rfl | rfl | rfl | rfl <;> decide
    · refine s_asg (ev_is (ev_op (ev_var rfl) (ev_op ev_c (ev_mod (ev_var rfl) ev_c (by decide)) (rv_sign (x := "abcdefghijklmnopqrstuvwxyz") (by decide +kernel) (by decide +kernel))) (rv_addS ?_)) ?_) fun H6 e6 => ⟨(ex.trans e5).trans e6, _, _, rfl⟩
      · have : (mkS (wordL c k i)).length = i := by rw [len_tl]; exact wordL_len c k i
        rw [this]
        show i + 1 ≤ 100000
        omega
      · exact congrArg V.str (mkS_app _ _)
  · obtain ⟨ex, x, y, rfl⟩ := z
    exact s_retV (ev_var rfl) (RetV.goV hy ex)
end
end Mk
set_option maxHeartbeats 4000000
/-! The law: rows. -/
namespace Mk
open PySem PySem.Spec PyProof.Rows L2 Evl TL
def scaleF (c k : Int) : Int := pickI [1, 1000, 60000] ((mixF c (k + 1)).fmod 3)
def at0F (c k : Int) : Int := (mixF c (k + 2)).fmod (pickI [1, 300] (((mixF c (k + 1)).fdiv 3).fmod 2))
def firstF (c k : Int) (j : Nat) (a : Int) : Int := a + (mixF c (k + 3 + 2 * (j : Int))).fmod (pickI [3, 10 ^ 6] (((mixF c (k + 1)).fdiv 6).fmod 2)) * scaleF c k
def lastF (c k : Int) (j : Nat) (a : Int) : Int := a + (mixF c (k + 4 + 2 * (j : Int))).fmod (pickI [2, 10 ^ 6] (((mixF c (k + 1)).fdiv 12).fmod 2)) * scaleF c k
def rowsSt (c k : Int) : Nat → List (Int × Int) × Int
  | 0 => ([], at0F c k)
  | j + 1 => ((firstF c k j (rowsSt c k j).2, lastF c k j (firstF c k j (rowsSt c k j).2)) :: (rowsSt c k j).1, lastF c k j (firstF c k j (rowsSt c k j).2) + 2)
def rowsF (c k : Int) : List (Int × Int) := (rowsSt c k (1 + (mixF c k).fmod 8).toNat).1
theorem two_in {a b i : Int} (h : 0 ≤ i ∧ i < 2) : pickI [a, b] i = a ∨ pickI [a, b] i = b := by
  have d : i = 0 ∨ i = 1 := by omega
  rcases d with rfl | rfl
  · exact .inl rfl
  · exact .inr rfl
theorem scale_in (c k : Int) : scaleF c k = 1 ∨ scaleF c k = 1000 ∨ scaleF c k = 60000 := by
  unfold scaleF
  have f := fm (mixF c (k + 1)) (show (0 : Int) < 3 by decide)
  generalize (mixF c (k + 1)).fmod 3 = i at f ⊢
  have d : i = 0 ∨ i = 1 ∨ i = 2 := by omega
  rcases d with rfl | rfl | rfl
  · exact .inl rfl
  · exact .inr (.inl rfl)
  · exact .inr (.inr rfl)
theorem step_in {x p s : Int} (hp : 0 < p ∧ p ≤ 1000000) (hs : s = 1 ∨ s = 1000 ∨ s = 60000) : 0 ≤ x.fmod p * s ∧ x.fmod p * s ≤ 59999940000 := by
  have f := fm x hp.1
  rcases hs with rfl | rfl | rfl <;> omega
theorem first_in (c k : Int) (j : Nat) (a : Int) : a ≤ firstF c k j a ∧ firstF c k j a ≤ a + 59999940000 := by
  unfold firstF
  have h := two_in (a := 3) (b := 10 ^ 6) (fm ((mixF c (k + 1)).fdiv 6) (show (0 : Int) < 2 by decide))
  have := step_in (x := mixF c (k + 3 + 2 * (j : Int))) (p := pickI [3, 10 ^ 6] (((mixF c (k + 1)).fdiv 6).fmod 2)) (by rcases h with h | h <;> rw [h] <;> decide) (scale_in c k)
  omega
theorem last_in (c k : Int) (j : Nat) (a : Int) : a ≤ lastF c k j a ∧ lastF c k j a ≤ a + 59999940000 := by
  unfold lastF
  have h := two_in (a := 2) (b := 10 ^ 6) (fm ((mixF c (k + 1)).fdiv 12) (show (0 : Int) < 2 by decide))
  have := step_in (x := mixF c (k + 4 + 2 * (j : Int))) (p := pickI [2, 10 ^ 6] (((mixF c (k + 1)).fdiv 12).fmod 2)) (by rcases h with h | h <;> rw [h] <;> decide) (scale_in c k)
  omega
theorem at0_in (c k : Int) : 0 ≤ at0F c k ∧ at0F c k ≤ 300 := by
  unfold at0F
  have h := two_in (a := 1) (b := 300) (fm ((mixF c (k + 1)).fdiv 3) (show (0 : Int) < 2 by decide))
  have f := fm (mixF c (k + 2)) (n := pickI [1, 300] (((mixF c (k + 1)).fdiv 3).fmod 2)) (by rcases h with h | h <;> rw [h] <;> decide)
  rcases h with h | h <;> rw [h] at f ⊢ <;> omega
theorem rows_st (c k : Int) : ∀ j : Nat, j ≤ 8 → (rowsSt c k j).1.length = j ∧ 0 ≤ (rowsSt c k j).2 ∧ (rowsSt c k j).2 ≤ 300 + j * 119999880002 ∧ rowsB none (rowsSt c k j).1 = true ∧ ∀ x, (rowsSt c k j).2 ≤ x → rowsB (some x) (rowsSt c k j).1 = true
  | 0, _ => ⟨rfl, (at0_in c k).1, by have := (at0_in c k).2; show at0F c k ≤ _; omega, rfl, fun _ _ => rfl⟩
  | j + 1, hj => by
    obtain ⟨h1, h2, h3, h4, h5⟩ := rows_st c k j (by omega)
    have f := first_in c k j (rowsSt c k j).2
    have l := last_in c k j (firstF c k j (rowsSt c k j).2)
    refine ⟨?_, ?_, ?_, ?_, fun x hx => ?_⟩
    · show _ + 1 = _
      rw [h1]
    · show 0 ≤ lastF c k j (firstF c k j (rowsSt c k j).2) + 2
      omega
    · show lastF c k j (firstF c k j (rowsSt c k j).2) + 2 ≤ _
      omega
    · show (numB _ && (numB _ && (decide (_ ≤ _) && (true && rowsB (some _) _)))) = true
      rw [h5 _ f.1]
      unfold numB
      simp
      omega
    · have hx : lastF c k j (firstF c k j (rowsSt c k j).2) + 2 ≤ x := hx
      show (numB _ && (numB _ && (decide (_ ≤ _) && (decide (_ + 1 < x) && rowsB (some _) _)))) = true
      rw [h5 _ f.1]
      unfold numB
      simp
      omega
theorem rows_ok (c k : Int) : gotB (rowsF c k) = true := by
  have f := fm (mixF c k) (show (0 : Int) < 8 by decide)
  obtain ⟨h1, _, _, h4, _⟩ := rows_st c k (1 + (mixF c k).fmod 8).toNat (by omega)
  unfold gotB rowsF
  rw [h1, h4]
  simp
  omega
section
variable {P : Program} {w : World} {K : PySem.W.Frag} {mg : Str → Option Value} {base : Heap} {k : Nat} {σ : L2.St} {H : Hp} {te tb : TE}
variable {D : Ends} {tz : TS}
def spCKN (K : PySem.W.Frag) (f : Int → Int → PyData) : Sp := fun vs H Q _ => ∃ c k : Int, vs = [.int c, .int k] ∧ RetN K (f c k) H Q
theorem en_ck {f : Int → Int → PyData} {ta tb : TE} {c k : Int} {E : XK} (h : Ev ta σ H (.int c)) (hk : Ev tb σ H (.int k)) : EvN K (tCall (spCKN K f) [] E (tCons ta (tCons tb tNil))) σ H (f c k) := en_call (ea_cons h (ea_cons hk ea_nil)) fun H1 e Q q E => ⟨c, k, rfl, fun v H2 e2 hd => q v H2 e2 hd⟩
theorem pick_ne {a b i : Int} (h : 0 ≤ i ∧ i < 2) (ha : a ≠ 0) (hb : b ≠ 0) : pickI [a, b] i ≠ 0 := by
  rcases two_in (a := a) (b := b) h with e | e <;> rw [e] <;> assumption
theorem okLawRows (D : DefAt K mg "_law_rows" sLawRows) (T : Tx K mg) (GLawMix : Cal P w K mg base CX0 1 "_law_mix" ["_law_cell_here", "_law_k"] spMix) : Cal P w K mg base CX0 2 "_law_rows" ["_law_cell_here", "_law_k"] (spCKN K fun c k => .list ((rowsF c k).map rowD)) := by
  refine cal_of D scLawRows (fun _ _ _ _ _ _ us hl => match us, hl with | [_,_], _ => rfl) (fun vs H Q E ⟨a, ns, e, _⟩ => by rw [e]; rfl) fun f cdv A outer s H vs Q E hr h => ?_
  obtain ⟨c, k, rfl, hy⟩ := h
  refine ⟨_, ((pss_cons (ps_set (i := 2) scLawRows.nd rfl (Or.inl rfl) (pe_lst pa_nil))
      (pss_cons (ps_set (i := 3) scLawRows.nd rfl (Or.inl rfl) (pe_ix ix_list (pe_lst (pa_cons pe_int (pa_cons pe_int (pa_cons pe_int pa_nil)))) (pe_op op_modN (pe_cal GLawMix (hr.mono (by decide)) rfl pass0 (pa_cons (pv 0) (pa_cons (pe_op op_add (pv 1) pe_int) pa_nil))) pe_int) (fun _ _ => rfl)))
      (pss_cons (ps_set (i := 4) scLawRows.nd rfl (Or.inl rfl) (pe_op op_modN (pe_cal GLawMix (hr.mono (by decide)) rfl pass0 (pa_cons (pv 0) (pa_cons (pe_op op_add (pv 1) pe_int) pa_nil))) (pe_ix ix_list (pe_lst (pa_cons pe_int (pa_cons pe_int pa_nil))) (pe_op op_modN (pe_op op_fdivN (pe_cal GLawMix (hr.mono (by decide)) rfl pass0 (pa_cons (pv 0) (pa_cons (pe_op op_add (pv 1) pe_int) pa_nil))) pe_int) pe_int) (fun _ _ => rfl))))
      (pss_cons (ps_for (passes_of rfl) rfl (pi_range1 rfl T.b_range (pa_cons (pe_op op_add pe_int (pe_op op_modN (pe_cal GLawMix (hr.mono (by decide)) rfl pass0 (pa_cons (pv 0) (pa_cons (pv 1) pa_nil))) pe_int)) pa_nil)) (pg_name (i := 5) scLawRows.nd rfl (Or.inl rfl)) (pss_cons (ps_set (i := 6) scLawRows.nd rfl (Or.inl rfl) (pe_op op_add (pv 4) (pe_op op_mul (pe_op op_modN (pe_cal GLawMix (hr.mono (by decide)) rfl pass0 (pa_cons (pv 0) (pa_cons (pe_op op_add (pe_op op_add (pv 1) pe_int) (pe_op op_mul pe_int (pv 5))) pa_nil))) (pe_ix ix_list (pe_lst (pa_cons pe_int (pa_cons (pe_op op_pow pe_int pe_int) pa_nil))) (pe_op op_modN (pe_op op_fdivN (pe_cal GLawMix (hr.mono (by decide)) rfl pass0 (pa_cons (pv 0) (pa_cons (pe_op op_add (pv 1) pe_int) pa_nil))) pe_int) pe_int) (fun _ _ => rfl))) (pv 3))))
      (pss_cons (ps_set (i := 7) scLawRows.nd rfl (Or.inl rfl) (pe_op op_add (pv 6) (pe_op op_mul (pe_op op_modN (pe_cal GLawMix (hr.mono (by decide)) rfl pass0 (pa_cons (pv 0) (pa_cons (pe_op op_add (pe_op op_add (pv 1) pe_int) (pe_op op_mul pe_int (pv 5))) pa_nil))) (pe_ix ix_list (pe_lst (pa_cons pe_int (pa_cons (pe_op op_pow pe_int pe_int) pa_nil))) (pe_op op_modN (pe_op op_fdivN (pe_cal GLawMix (hr.mono (by decide)) rfl pass0 (pa_cons (pv 0) (pa_cons (pe_op op_add (pv 1) pe_int) pa_nil))) pe_int) pe_int) (fun _ _ => rfl))) (pv 3))))
      (pss_cons (ps_expr (pe_bm PySem.F.plainAttrs_list PySem.F.slot_list_insert PySem.F.type_list_insert mt_insert (pv 2) (pa_cons pe_int (pa_cons (pe_tup (pa_cons (pv 6) (pa_cons (pv 7) pa_nil))) pa_nil))))
      (pss_one (ps_set (i := 4) scLawRows.nd rfl (Or.inl rfl) (pe_op op_add (pv 7) pe_int)))))))
      (pss_one (ps_ret (pv 2)))))))), ?_⟩
  have f8 := fm (mixF c k) (show (0 : Int) < 8 by decide)
  refine q_asgL (el_lst ea_nil (by simp)) fun q H1 hq e1 h1 => ?_
  refine q_asg (v := .int (scaleF c k)) (ev_pick (ns := [1, 1000, 60000]) (ea_cons ev_c (ea_cons ev_c (ea_cons ev_c ea_nil))) rfl (ev_mod (call_mix (ev_var rfl) (ev_op (ev_var rfl) ev_c rv_I0)) ev_c (by decide)) (fm _ (by decide)) (by decide)) fun H2 e2 => ?_
  have pk : ∀ {σ : L2.St} {H : Hp} (a b d : Int), σ[0]? = some (some (.int c)) → σ[1]? = some (some (.int k)) → (d ≠ 0 ∧ d.natAbs < 1073741824) → ∀ {tz : TA}, EvA tz σ H [.int a, .int b] →
      Ev (tOp (rIxL K) (tLst tz) (tOp (rI (fun _ j => j ≠ 0) fun i j => .int (i.fmod j)) (tOp (rI CDivN fun i j => .int (i.fdiv j)) (tCall spMix [] E0 (tCons (tVar 0) (tCons (tOp (rI0 fun i j => .int (i + j)) (tVar 1) (tC (.int 1))) tNil))) (tC (.int d))) (tC (.int 2)))) σ H (.int (pickI [a, b] (((mixF c (k + 1)).fdiv d).fmod 2))) :=
    fun a b d h0 h1 hd => fun hz => ev_pick (ns := [a, b]) hz rfl (ev_mod (ev_fdiv (call_mix (ev_var h0) (ev_op (ev_var h1) ev_c rv_I0)) ev_c hd) ev_c (by decide)) (fm _ (by decide)) (by simp)
  refine q_asg (v := .int (at0F c k)) (ev_mod (call_mix (ev_var rfl) (ev_op (ev_var rfl) ev_c rv_I0)) (pk 1 300 3 rfl rfl (by decide) (ea_cons ev_c (ea_cons ev_c ea_nil))) (pick_ne (fm _ (by decide)) (by decide) (by decide))) fun H3 e3 => ?_
  refine q_forR1 (ea_cons (ev_op ev_c (ev_mod (call_mix (ev_var rfl) (ev_var rfl)) ev_c (by decide)) rv_I0) ea_nil) ⟨by omega, by omega⟩ (fun i σ' H' => Grows K H q ((rowsSt c k i).1.map rowD) H' ∧ ∃ x y z, σ' = [some (.int c), some (.int k), some (.ref q), some (.int (scaleF c k)), some (.int (rowsSt c k i).2), x, y, z]) (fun H4 e4 => ⟨grows_nil hq (((e1.trans e2).trans e3).trans e4) (e4 q _ (e3 q _ (e2 q _ h1))), _, _, _, rfl⟩) (fun i σ' H' hi z => ?_) fun σ' H' z => ?_
  · obtain ⟨gr, x, y, z, rfl⟩ := z
    have hm : ∀ (x y : Int), CMul x (scaleF c k) := fun x y => .inr (by rcases scale_in c k with h | h | h <;> rw [h] <;> decide)
    have p6 : ∀ {σ H}, Ev (tOp (rI CPow fun i j => .int (i ^ j.toNat)) (tC (.int 10)) (tC (.int 6))) σ H (.int (10 ^ 6)) := fun {σ H} => ev_pow ev_c ev_c (by decide)
    refine q_asg (v := .int (firstF c k i (rowsSt c k i).2)) (ev_op (ev_var rfl) (ev_mulC (ev_mod (call_mix (ev_var rfl) (ev_op (ev_op (ev_var rfl) ev_c rv_I0) (ev_mulC ev_c (ev_var rfl) (.inl (by decide))) rv_I0)) (pk 3 (10 ^ 6) 6 rfl rfl (by decide) (ea_cons ev_c (ea_cons p6 ea_nil))) (pick_ne (fm _ (by decide)) (by decide) (by decide))) (ev_var rfl) (hm _ 0)) rv_I0) fun H4 e4 => ?_
    refine q_asg (v := .int (lastF c k i (firstF c k i (rowsSt c k i).2))) (ev_op (ev_var rfl) (ev_mulC (ev_mod (call_mix (ev_var rfl) (ev_op (ev_op (ev_var rfl) ev_c rv_I0) (ev_mulC ev_c (ev_var rfl) (.inl (by decide))) rv_I0)) (pk 2 (10 ^ 6) 12 rfl rfl (by decide) (ea_cons ev_c (ea_cons p6 ea_nil))) (pick_ne (fm _ (by decide)) (by decide) (by decide))) (ev_var rfl) (hm _ 0)) rv_I0) fun H5 e5 => ?_
    have g5 := gr.on (e4.trans e5)
    obtain ⟨accv, hq5, lq⟩ := g5.seq
    refine ⟨.ref q, rfl, .inl ⟨rfl, _, sq_of hq5⟩, ?_⟩
    refine (ena_cons (K := K) (en_flat (ev_c (v := .int 0)) fun _ => .int 0) (ena_cons (en_tup (eu_tup (ea_cons (ev_var (i := 6) rfl) (ea_cons (ev_var (i := 7) rfl) ea_nil)) (by simp)) fun G => .cons (.int _) (.cons (.int _) .nil)) ena_nil)) H5 (Ex.refl H5) _ fun vs H6 e6 hvs => ?_
    obtain ⟨v0, _, rfl, hv0, tv⟩ := dpAll_cons hvs.dp
    obtain ⟨v1, _, rfl, hv1, tv⟩ := dpAll_cons tv
    obtain rfl := dpAll_nil tv
    obtain rfl := dp_int hv0
    have hrow : DpN K H5 H6 v1 (rowD (firstF c k i (rowsSt c k i).2, lastF c k i (firstF c k i (rowsSt c k i).2))) := fun G n => by
      obtain ⟨_, _, e0, _, tv⟩ := dpAll_cons (hvs G n)
      cases e0
      obtain ⟨_, _, e0, h1, tv⟩ := dpAll_cons tv
      cases e0
      exact h1
    refine ⟨q, accv, 0, v1, rfl, rfl, e6 q _ hq5, sz_lt (by rw [lq, List.length_map, (rows_st c k i (by omega)).1]; omega), by decide, by decide, ?_⟩
    refine s_asg (ev_op (ev_var rfl) ev_c rv_I0) fun H7 e7 => ⟨?_, _, _, _, rfl⟩
    exact (g5.front hq5 hrow e6).on e7
  · obtain ⟨gr, x, y, z, rfl⟩ := z
    refine s_ret (ev_var rfl) fun H4 e4 => ?_
    have nt : (1 + (mixF c k).fmod 8).toNat = (1 + (mixF c k).fmod 8).toNat := rfl
    exact hy _ H4 (gr.ex.trans e4) (gr.on e4).done
end
end Mk
set_option maxHeartbeats 4000000
/-! The law: a frame. -/
namespace Mk
open PySem PySem.Spec PyProof.Rows L2 Evl TL
def sizeF (c : Int) : Int := pickI [(mixF c 5).fmod 65, (mixF c 5).fmod 4, 64] ((mixF c 6).fmod 3)
def lastB (c : Int) : Bool := decide (sizeF c = 0) || decide ((mixF c 7).fmod 2 = 1)
def frameW (c : Int) (way : Int) : Raw :=
  if way = 0 ∨ way = 9 then .pc ((mixF c 1).fmod 40) (numberF c 2) (lettersF c 10 (sizeF c).toNat) (lastB c)
  else if way = 1 then .gt (rowsF c 10)
  else if way = 8 then .cl [wordF c 10]
  else if way = 2 then .nu "credit" [(mixF c 1).fmod 40, numberF c 2]
  else if way = 3 then .nu "reset" [(mixF c 1).fmod 40, numberF c 2]
  else if way = 4 then .nu "whole" [numberF c 2]
  else if way = 5 then .nu "ask" [numberF c 2]
  else if way = 6 then .nu "answer" [numberF c 2]
  else .nu "early" [numberF c 2]
def frameF (c : Int) : Raw := frameW c ((mixF c 0).fmod 10)
theorem size_in (c : Int) : 0 ≤ sizeF c ∧ sizeF c ≤ 64 := by
  unfold sizeF
  have h1 := fm (mixF c 5) (show (0 : Int) < 65 by decide)
  have h2 := fm (mixF c 5) (show (0 : Int) < 4 by decide)
  have f := fm (mixF c 6) (show (0 : Int) < 3 by decide)
  generalize (mixF c 6).fmod 3 = i at f ⊢
  have d : i = 0 ∨ i = 1 ∨ i = 2 := by omega
  rcases d with rfl | rfl | rfl
  · show 0 ≤ (mixF c 5).fmod 65 ∧ (mixF c 5).fmod 65 ≤ 64
    omega
  · show 0 ≤ (mixF c 5).fmod 4 ∧ (mixF c 5).fmod 4 ≤ 64
    omega
  · show (0 : Int) ≤ 64 ∧ (64 : Int) ≤ 64
    decide
theorem lane_ok (c : Int) : laneB ((mixF c 1).fmod 40) = true := by
  have h1 := fm (mixF c 1) (show (0 : Int) < 40 by decide)
  unfold laneB
  simp
  omega
theorem letters_len (c k : Int) (n : Nat) : (lettersF c k n).length = n := by
  rw [len_tl]
  exact lettersL_len c k n
theorem frameW_ok (c way : Int) : (frameW c way).ok = true ∧ (frameW c way).fit := by
  have t1 : two "credit" = true := by decide +kernel
  have t2 : two "reset" = true := by decide +kernel
  have t3 : two "whole" = false := by decide +kernel
  have t4 : two "ask" = false := by decide +kernel
  have t5 : two "answer" = false := by decide +kernel
  have t6 : two "early" = false := by decide +kernel
  have s := size_in c
  unfold frameW
  split
  · refine ⟨?_, ?_⟩
    · show pieceB _ _ _ _ = true
      unfold pieceB
      rw [lane_ok, number_ok, letters_len, show (tl (lettersF c 10 (sizeF c).toNat)).all letB = true from letters_all c 10 _]
      have e : (sizeF c).toNat ≤ 64 := by omega
      simp only [Bool.true_and, Bool.and_eq_true, decide_eq_true_eq]
      refine ⟨e, ?_⟩
      unfold lastB
      by_cases z : sizeF c = 0
      · simp [z]
      · have : ¬ lettersF c 10 (sizeF c).toNat = "" := fun h => by
          have := congrArg Str.length h
          rw [letters_len, show (("" : Str)).length = 0 by decide +kernel] at this
          omega
        simp [this]
    · show (lettersF c 10 (sizeF c).toNat).length ≤ 40000
      rw [letters_len]
      omega
  split
  · refine ⟨rows_ok c 10, ?_⟩
    have := rows_ok c 10
    unfold gotB at this
    simp at this
    show (rowsF c 10).length ≤ 40000
    omega
  split
  · refine ⟨word_ok c 10, by simp, fun z hz => ?_⟩
    rw [List.mem_singleton] at hz
    subst hz
    have := word_ok c 10
    unfold wordB at this
    simp at this
    omega
  split
  · exact ⟨by simp [Raw.ok, t1, lane_ok, number_ok], .inl rfl, by simp⟩
  split
  · exact ⟨by simp [Raw.ok, t2, lane_ok, number_ok], .inr (.inr (.inl rfl)), by simp⟩
  split
  · exact ⟨by simp [Raw.ok, t3, number_ok], .inr (.inl rfl), by simp⟩
  split
  · exact ⟨by simp [Raw.ok, t4, number_ok], .inr (.inr (.inr (.inl rfl))), by simp⟩
  split
  · exact ⟨by simp [Raw.ok, t5, number_ok], .inr (.inr (.inr (.inr (.inl rfl)))), by simp⟩
  · exact ⟨by simp [Raw.ok, t6, number_ok], .inr (.inr (.inr (.inr (.inr rfl)))), by simp⟩
section
variable {P : Program} {w : World} {K : PySem.W.Frag} {mg : Str → Option Value} {base : Heap} {k : Nat} {σ : L2.St} {H : Hp} {te tb : TE}
variable {D : Ends} {tz : TS}
theorem ev_pickV {xs : List V} {tb : TE} {tz : TA} {j : Nat} {v : V} {i : Int} (h : EvA tz σ H xs) (hi : Ev tb σ H (.int i)) (ei : i = (j : Int)) (hx : xs[j]? = some v) (hz : xs.length ≤ 1000) : Ev (tOp (rIxL K) (tLst tz) tb) σ H v := by
  subst ei
  exact ev_opL1 (el_lst h (by omega)) (fun H1 e => hi.mono e) fun p H1 hp e => rv_ixL (sq_of hp) (at_nat hx)
def spFrameC (K : PySem.W.Frag) : Sp := fun vs H Q _ => ∃ c : Int, vs = [.int c] ∧ RetN K (frameF c).data H Q
theorem okLawFrame (D : DefAt K mg "_law_frame" sLawFrame) (T : Tx K mg) (GLawMix : Cal P w K mg base CX0 1 "_law_mix" ["_law_cell_here", "_law_k"] spMix) (GLawNumber : Cal P w K mg base CX0 2 "_law_number" ["_law_cell_here", "_law_k"] (spCK fun c k => .int (numberF c k)))
    (GLawLetters : Cal P w K mg base CX0 2 "_law_letters" ["_law_cell_here", "_law_k", "_law_many"] spLetters) (GLawRows : Cal P w K mg base CX0 2 "_law_rows" ["_law_cell_here", "_law_k"] (spCKN K fun c k => .list ((rowsF c k).map rowD)))
    (GLawWord : Cal P w K mg base CX0 2 "_law_word" ["_law_cell_here", "_law_k"] (spCK fun c k => .str (wordF c k))) : Cal P w K mg base CX0 3 "_law_frame" ["_law_cell_here"] (spFrameC K) := by
  refine cal_of D scLawFrame (fun _ _ _ _ _ _ us hl => match us, hl with | [_], _ => rfl) (fun vs H Q E ⟨a, e, _⟩ => by rw [e]; rfl) fun f cdv A outer s H vs Q E hr h => ?_
  obtain ⟨c, rfl, hy⟩ := h
  refine ⟨_, ((pss_cons (ps_set (i := 1) scLawFrame.nd rfl (Or.inl rfl) (pe_op op_modN (pe_cal GLawMix (hr.mono (by decide)) rfl pass0 (pa_cons (pv 0) (pa_cons pe_int pa_nil))) pe_int))
      (pss_cons (ps_set (i := 2) scLawFrame.nd rfl (Or.inl rfl) (pe_op op_modN (pe_cal GLawMix (hr.mono (by decide)) rfl pass0 (pa_cons (pv 0) (pa_cons pe_int pa_nil))) pe_int))
      (pss_cons (ps_set (i := 3) scLawFrame.nd rfl (Or.inl rfl) (pe_cal GLawNumber (hr.mono (by decide)) rfl pass0 (pa_cons (pv 0) (pa_cons pe_int pa_nil))))
      (pss_cons (ps_if (PW.pt (pw_or (pt_cmpR op_eq (pv 1) pe_int (nomark _)) (pw_or1 (pt_cmpR op_eq (pv 1) pe_int (nomark _))))) (pss_cons (ps_set (i := 4) scLawFrame.nd rfl (Or.inl rfl) (pe_ix ix_list (pe_lst (pa_cons (pe_op op_modN (pe_cal GLawMix (hr.mono (by decide)) rfl pass0 (pa_cons (pv 0) (pa_cons pe_int pa_nil))) pe_int) (pa_cons (pe_op op_modN (pe_cal GLawMix (hr.mono (by decide)) rfl pass0 (pa_cons (pv 0) (pa_cons pe_int pa_nil))) pe_int) (pa_cons pe_int pa_nil)))) (pe_op op_modN (pe_cal GLawMix (hr.mono (by decide)) rfl pass0 (pa_cons (pv 0) (pa_cons pe_int pa_nil))) pe_int) (fun _ _ => rfl)))
      (pss_cons (ps_set (i := 5) scLawFrame.nd rfl (Or.inl rfl) (pe_or (pe_cmpR op_eq (pv 4) pe_int (nomark _)) (pe_one (pe_cmpR op_eq (pe_op op_modN (pe_cal GLawMix (hr.mono (by decide)) rfl pass0 (pa_cons (pv 0) (pa_cons pe_int pa_nil))) pe_int) pe_int (nomark _)))))
      (pss_one (ps_ret (pe_tup (pa_cons pe_str (pa_cons (pv 2) (pa_cons (pv 3) (pa_cons (pe_cal GLawLetters (hr.mono (by decide)) rfl pass0 (pa_cons (pv 0) (pa_cons pe_int (pa_cons (pv 4) pa_nil)))) (pa_cons (pv 5) pa_nil)))))))))) pss_nil)
      (pss_cons (ps_if (pt_cmpR op_eq (pv 1) pe_int (nomark _)) (pss_one (ps_ret (pe_tup (pa_cons pe_str (pa_cons (pe_cal GLawRows (hr.mono (by decide)) rfl pass0 (pa_cons (pv 0) (pa_cons pe_int pa_nil))) pa_nil))))) pss_nil)
      (pss_cons (ps_if (pt_cmpR op_eq (pv 1) pe_int (nomark _)) (pss_one (ps_ret (pe_tup (pa_cons pe_str (pa_cons (pe_cal GLawWord (hr.mono (by decide)) rfl pass0 (pa_cons (pv 0) (pa_cons pe_int pa_nil))) pa_nil))))) pss_nil)
      (pss_cons (ps_if (PW.pt (pw_or (pt_cmpR op_eq (pv 1) pe_int (nomark _)) (pw_or1 (pt_cmpR op_eq (pv 1) pe_int (nomark _))))) (pss_one (ps_ret (pe_tup (pa_cons (pe_ix ix_list (pe_lst (pa_cons pe_str (pa_cons pe_str pa_nil))) (pe_op op_sub (pv 1) pe_int) (fun _ _ => rfl)) (pa_cons (pv 2) (pa_cons (pv 3) pa_nil)))))) pss_nil)
      (pss_one (ps_ret (pe_tup (pa_cons (pe_ix ix_list (pe_lst (pa_cons pe_str (pa_cons pe_str (pa_cons pe_str (pa_cons pe_str pa_nil))))) (pe_op op_sub (pv 1) pe_int) (fun _ _ => rfl)) (pa_cons (pv 3) pa_nil))))))))))))), ?_⟩
  refine q_asg (ev_mod (call_mix (ev_var rfl) ev_c) ev_c (by decide)) fun H1 e1 => ?_
  refine q_asg (ev_mod (call_mix (ev_var rfl) ev_c) ev_c (by decide)) fun H2 e2 => ?_
  refine q_asg (call_ck (f := fun c k => .int (numberF c k)) (ev_var rfl) ev_c) fun H3 e3 => ?_
  have e03 := (e1.trans e2).trans e3
  have w10 := fm (mixF c 0) (show (0 : Int) < 10 by decide)
  unfold frameF at hy
  generalize hway : (mixF c 0).fmod 10 = way at w10 hy ⊢
  have t0 : ∀ {i j : Int}, EvT (tTest (tOp rEq (tVar 1) (tC (.int j)))) [some (.int c), some (.int i), some (.int ((mixF c 1).fmod 40)), some (.int (numberF c 2)), none, none] H3 (decide (i = j)) := fun {i j} => et_is (et_test (ev_op (ev_var rfl) ev_c (rv_eq rfl))) (int_eqV _ _)
  refine q_when (et_or (et_is (et_test (ev_op (ev_var rfl) ev_c (rv_eq rfl))) (int_eqV _ _)) fun _ => et_is (et_test (ev_op (ev_var rfl) ev_c (rv_eq rfl))) (int_eqV _ _)) (fun hb H4 e4 => ?_) fun hb H4 e4 => ?_
  · have hb : way = 0 ∨ way = 9 := by simpa using hb
    have hf : frameW c way = .pc ((mixF c 1).fmod 40) (numberF c 2) (lettersF c 10 (sizeF c).toNat) (lastB c) := by unfold frameW; rw [if_pos hb]
    rw [hf] at hy
    have s := size_in c
    refine q_asg (v := .int (((sizeF c).toNat : Nat) : Int)) (ev_is (ev_pick (ns := [(mixF c 5).fmod 65, (mixF c 5).fmod 4, 64]) (ea_cons (ev_mod (call_mix (ev_var rfl) ev_c) ev_c (by decide)) (ea_cons (ev_mod (call_mix (ev_var rfl) ev_c) ev_c (by decide)) (ea_cons ev_c ea_nil))) rfl (ev_mod (call_mix (ev_var rfl) ev_c) ev_c (by decide)) (fm _ (by decide)) (by simp)) ?_) fun H5 e5 => ?_
    · have : pickI [(mixF c 5).fmod 65, (mixF c 5).fmod 4, 64] ((mixF c 6).fmod 3) = sizeF c := rfl
      rw [this]
      exact congrArg V.int (by omega)
    refine q_asg (v := .bl (lastB c)) (ev_is (ev_orV (ev_op (ev_var rfl) ev_c (rv_eq rfl)) fun _ => ev_op (ev_mod (call_mix (ev_var rfl) ev_c) ev_c (by decide)) ev_c (rv_eq rfl)) ?_) fun H6 e6 => ?_
    · rw [int_eqV, int_eqV, show ((((sizeF c).toNat : Nat) : Int)) = sizeF c by omega]
      rfl
    refine s_retR (d := Raw.data (.pc ((mixF c 1).fmod 40) (numberF c 2) (lettersF c 10 (sizeF c).toNat) (lastB c))) ?_ (hy.go (((e03.trans e4).trans e5).trans e6))
    refine en_tup (eu_tup (ea_cons ev_c (ea_cons (ev_var rfl) (ea_cons (ev_var rfl) (ea_cons (ev_call (ea_cons (ev_var rfl) (ea_cons ev_c (ea_cons (ev_var rfl) ea_nil))) fun H1 e Q q E => ⟨c, 10, (sizeF c).toNat, rfl, by omega, fun H2 e2 => q H2 e2⟩) (ea_cons (ev_var rfl) ea_nil))))) (by simp)) fun G => .cons (.str _) (.cons (.int _) (.cons (.int _) (.cons (.str _) (.cons (.bl _) .nil))))
  have hb0 : ¬ (way = 0 ∨ way = 9) := by simpa using hb
  refine q_when (et_is (et_test (ev_op (ev_var rfl) ev_c (rv_eq rfl))) (int_eqV _ _)) (fun hb H5 e5 => ?_) fun hb H5 e5 => ?_
  · have hf : frameW c way = .gt (rowsF c 10) := by unfold frameW; rw [if_neg hb0, if_pos (of_decide_eq_true hb)]
    rw [hf] at hy
    refine s_retR (d := Raw.data (.gt (rowsF c 10))) ?_ (hy.go ((e03.trans e4).trans e5))
    exact en_tupN (ds := [.str "got", .list ((rowsF c 10).map rowD)]) (ena_cons (en_flat ev_c fun _ => .str _) (ena_cons (en_ck (f := fun c k => .list ((rowsF c k).map rowD)) (ev_var rfl) ev_c) ena_nil)) (by simp)
  have hb1 : ¬ way = 1 := of_decide_eq_false hb
  refine q_when (et_is (et_test (ev_op (ev_var rfl) ev_c (rv_eq rfl))) (int_eqV _ _)) (fun hb H6 e6 => ?_) fun hb H6 e6 => ?_
  · have hf : frameW c way = .cl [wordF c 10] := by unfold frameW; rw [if_neg hb0, if_neg hb1, if_pos (of_decide_eq_true hb)]
    rw [hf] at hy
    refine s_retR (d := Raw.data (.cl [wordF c 10])) ?_ (hy.go (((e03.trans e4).trans e5).trans e6))
    exact en_tup (eu_tup (ea_cons ev_c (ea_cons (call_ck (f := fun c k => .str (wordF c k)) (ev_var rfl) ev_c) ea_nil)) (by simp)) fun G => .cons (.str _) (.cons (.str _) .nil)
  have hb8 : ¬ way = 8 := of_decide_eq_false hb
  refine q_when (et_or (et_is (et_test (ev_op (ev_var rfl) ev_c (rv_eq rfl))) (int_eqV _ _)) fun _ => et_is (et_test (ev_op (ev_var rfl) ev_c (rv_eq rfl))) (int_eqV _ _)) (fun hb H7 e7 => ?_) fun hb H7 e7 => ?_
  · have e07 := (((e03.trans e4).trans e5).trans e6).trans e7
    have hb : way = 2 ∨ way = 3 := by simpa using hb
    rcases hb with rfl | rfl
    · exact s_retR (d := Raw.data (.nu "credit" [(mixF c 1).fmod 40, numberF c 2])) (en_tup (eu_tup (ea_cons (ev_pickV (j := 0) (ea_cons ev_c (ea_cons ev_c ea_nil)) (ev_op (ev_var rfl) ev_c rv_I0) rfl rfl (by decide)) (ea_cons (ev_var rfl) (ea_cons (ev_var rfl) ea_nil))) (by simp)) fun G => .cons (.str _) (.cons (.int _) (.cons (.int _) .nil))) (hy.go e07)
    · exact s_retR (d := Raw.data (.nu "reset" [(mixF c 1).fmod 40, numberF c 2])) (en_tup (eu_tup (ea_cons (ev_pickV (j := 1) (ea_cons ev_c (ea_cons ev_c ea_nil)) (ev_op (ev_var rfl) ev_c rv_I0) rfl rfl (by decide)) (ea_cons (ev_var rfl) (ea_cons (ev_var rfl) ea_nil))) (by simp)) fun G => .cons (.str _) (.cons (.int _) (.cons (.int _) .nil))) (hy.go e07)
  · have e07 := (((e03.trans e4).trans e5).trans e6).trans e7
    have hb : ¬ (way = 2 ∨ way = 3) := by simpa using hb
    have d : way = 4 ∨ way = 5 ∨ way = 6 ∨ way = 7 := by omega
    rcases d with rfl | rfl | rfl | rfl
    · exact s_retR (d := Raw.data (.nu "whole" [numberF c 2])) (en_tup (eu_tup (ea_cons (ev_pickV (j := 0) (ea_cons ev_c (ea_cons ev_c (ea_cons ev_c (ea_cons ev_c ea_nil)))) (ev_op (ev_var rfl) ev_c rv_I0) rfl rfl (by decide)) (ea_cons (ev_var rfl) ea_nil)) (by simp)) fun G => .cons (.str _) (.cons (.int _) .nil)) (hy.go e07)
    · exact s_retR (d := Raw.data (.nu "ask" [numberF c 2])) (en_tup (eu_tup (ea_cons (ev_pickV (j := 1) (ea_cons ev_c (ea_cons ev_c (ea_cons ev_c (ea_cons ev_c ea_nil)))) (ev_op (ev_var rfl) ev_c rv_I0) rfl rfl (by decide)) (ea_cons (ev_var rfl) ea_nil)) (by simp)) fun G => .cons (.str _) (.cons (.int _) .nil)) (hy.go e07)
    · exact s_retR (d := Raw.data (.nu "answer" [numberF c 2])) (en_tup (eu_tup (ea_cons (ev_pickV (j := 2) (ea_cons ev_c (ea_cons ev_c (ea_cons ev_c (ea_cons ev_c ea_nil)))) (ev_op (ev_var rfl) ev_c rv_I0) rfl rfl (by decide)) (ea_cons (ev_var rfl) ea_nil)) (by simp)) fun G => .cons (.str _) (.cons (.int _) .nil)) (hy.go e07)
    · exact s_retR (d := Raw.data (.nu "early" [numberF c 2])) (en_tup (eu_tup (ea_cons (ev_pickV (j := 3) (ea_cons ev_c (ea_cons ev_c (ea_cons ev_c (ea_cons ev_c ea_nil)))) (ev_op (ev_var rfl) ev_c rv_I0) rfl rfl (by decide)) (ea_cons (ev_var rfl) ea_nil)) (by simp)) fun G => .cons (.str _) (.cons (.int _) .nil)) (hy.go e07)
end
end Mk
set_option maxHeartbeats 4000000
/-! The law: a frame asked. -/
namespace Mk
open PySem PySem.Spec PyProof.Rows L2 Evl TL
def cK (kvs : List (Str × V)) : List (TE × TE) := kvs.map fun q => (tC (.str q.1), tC q.2)
def keyD (kvs : List (Str × V)) : List (Key × V) := kvs.map fun q => (.inr q.1, q.2)
theorem tPairs_c : ∀ (kvs : List (Str × V)) (σ : L2.St) (H : Hp) (Q : List (V × V) → Hp → Prop), Q (kvs.map fun q => (V.str q.1, q.2)) H → tPairs (cK kvs) σ H Q
  | [], σ, H, Q, h => h
  | (k, v) :: r, σ, H, Q, h => by
    show tPairs (cK r) σ H fun ps H3 => Q ((V.str k, v) :: ps) H3
    exact tPairs_c r σ H _ h
theorem laneN (i : Int) : (numB i && decide (i < 40)) = laneB i := by
  unfold numB laneB
  by_cases a : 0 ≤ i <;> by_cases b : i < 40 <;> simp [a, b]
  omega
section
variable {P : Program} {w : World} {K : PySem.W.Frag} {mg : Str → Option Value} {base : Heap} {k : Nat} {σ : L2.St} {H : Hp} {te tb : TE}
variable {D : Ends} {tz : TS}
/-- a written dict -/
theorem dispD (kvs : List (Str × V)) (hz : kvs.length ≤ 15) {Q : VK} (k : ∀ p H1, H p = none → Ex H H1 → H1 p = some (.dK (mergeK [] (keyD kvs))) → Q (.ref p) H1) : tDisp (cK kvs) σ H Q := fun p hp =>
  tPairs_c kvs σ _ _ ⟨upd_same, keyD kvs, by unfold keyD; rw [List.map_map]; rfl, by unfold keyD; rw [List.length_map]; exact hz, k p _ hp ((Ex.new hp).mut hp) upd_same⟩
theorem q_disp {i : Nat} (kvs : List (Str × V)) (hz : kvs.length ≤ 15) (k : ∀ p H1, H p = none → Ex H H1 → H1 p = some (.dK (mergeK [] (keyD kvs))) → tz D (σ.set i (some (.ref p))) H1) : tSeq (tAsg (tDisp (cK kvs)) (gName i)) tz D σ H := (show tDisp (cK kvs) σ H (fun x H1 => tz D (σ.set i (some x)) H1) from dispD kvs hz k)
theorem q_update {p : Addr} {old : List (Key × V)} (more : List (Str × V)) (hz : more.length ≤ 15) (h : Ev te σ H (.ref p)) (hp : H p = some (.dK old)) (hz2 : old.length + (mergeK [] (keyD more)).length ≤ 1000) (k : ∀ H1 H2, Ex H H1 → H2 = upd H1 p (.dK (mergeK old (mergeK [] (keyD more)))) → tz D σ H2) :
    tSeq (tDrop (tBM K "dict" rUpdate te (tCons (tDisp (cK more)) tNil))) tz D σ H := h H (Ex.refl H) _ fun H1 e1 => ⟨.inr (.inr (.inl ⟨rfl, .inl ⟨_, e1 p _ hp⟩⟩)), dispD more hz fun q H2 hq e2 h2 => ⟨p, q, old, _, rfl, rfl, e2 p _ (e1 p _ hp), h2, (fun e => by rw [← e, e1 p _ hp] at hq; cases hq), hz2, k H2 _ (e1.trans e2) rfl⟩⟩
theorem ev_get {p : Addr} {kvs : List (Key × V)} {z : Str} {d : V} {ta tc : TE} (h : Ev te σ H (.ref p)) (hp : H p = some (.dK kvs)) (hz : Ev ta σ H (.str z)) (hd : Ev tc σ H d) : Ev (tDGet2 te ta tc) σ H ((valV kvs (.inr z)).getD d) := fun H1 e1 Q q =>
  h H1 e1 _ fun H2 e2 => ⟨p, rfl, .inl ⟨kvs, .inl (e2 p _ (e1 p _ hp))⟩, hz H2 (e1.trans e2) _ fun H3 e3 => hd H3 ((e1.trans e2).trans e3) _ fun H4 e4 => ⟨_, DGet.k (k := .inr z) (e4 p _ (e3 p _ (e2 p _ (e1 p _ hp)))), q H4 ((e2.trans e3).trans e4)⟩⟩
theorem ev_item {p : Addr} {kvs : List (Key × V)} {z : Str} {v : V} {ta : TE} (h : Ev te σ H (.ref p)) (hp : H p = some (.dK kvs)) (hz : Ev ta σ H (.str z)) (hv : valV kvs (.inr z) = some v) : Ev (tDGet te ta) σ H v := fun H1 e1 Q q =>
  h H1 e1 _ fun H2 e2 => hz H2 (e1.trans e2) _ fun H3 e3 => ⟨p, v, rfl, by have := DGet.k (k := .inr z) (e3 p _ (e2 p _ (e1 p _ hp))); rw [hv] at this; exact this, q H3 (e2.trans e3)⟩
theorem okLawIsNumber (D : DefAt K mg "_law_is_number" sLawIsNumber) (T : Tx K mg) : Cal P w K mg base CX0 1 "_law_is_number" ["_law_thing"] (spInt numB) := by
  refine cal_of D scLawIsNumber (fun _ _ _ _ _ _ us hl => match us, hl with | [_], _ => rfl) len_int fun f cdv A outer s H vs Q E hr h => ?_
  obtain ⟨i, rfl, h⟩ := h
  refine ⟨_, ((pss_one (ps_ret (pe_and (pe_callB call_isi (by rfl) T.b_isinstance (by decide +kernel) (pa_cons (pv 0) (pa_cons (pe_ty (c := "int") rfl T.b_int) pa_nil))) (pe_and (pe_not (pe_callB call_isi (by rfl) T.b_isinstance (by decide +kernel) (pa_cons (pv 0) (pa_cons (pe_ty (c := "bool") rfl T.b_bool) pa_nil)))) (pe_one (pe_chain op_le op_le pe_int (pv 0) (pe_op op_pow pe_int pe_int)))))))), ?_⟩
  have i0 : ∀ c b, kitB "int" c = some b → Ev (tCB (rIsi K) (tCons (tVar 0) (tCons (tC (.ty c)) tNil))) (start nLawIsNumber [.int i]) H (.bl b) := fun c b h => ev_isiD (ev_var rfl) (.int i) h
  exact s_retV (ev_is (ev_andV (i0 "int" true k_ii) fun _ => ev_andV (ev_notV (i0 "bool" false k_ib)) fun _ => ev_len13 ev_c (ev_var rfl) (ev_pow ev_c ev_c (by decide)) rv_I0 rv_I0) rfl) h
theorem okLawIsLane (D : DefAt K mg "_law_is_lane" sLawIsLane) (T : Tx K mg) (GLawIsNumber : Cal P w K mg base CX0 1 "_law_is_number" ["_law_thing"] (spInt numB)) : Cal P w K mg base CX0 2 "_law_is_lane" ["_law_thing"] (spInt laneB) := by
  refine cal_of D scLawIsLane (fun _ _ _ _ _ _ us hl => match us, hl with | [_], _ => rfl) len_int fun f cdv A outer s H vs Q E hr h => ?_
  obtain ⟨i, rfl, h⟩ := h
  refine ⟨_, ((pss_one (ps_ret (pe_and (pe_cal GLawIsNumber (hr.mono (by decide)) rfl pass0 (pa_cons (pv 0) pa_nil)) (pe_one (pe_cmpR op_lt (pv 0) pe_int (nomark _))))))), ?_⟩
  exact s_retV (ev_is (ev_andV (call_int (f := numB) (ev_var rfl)) fun _ => ev_op (ev_var rfl) ev_c rv_I0) (congrArg V.bl (laneN i))) h
theorem okLawAreRows (D : DefAt K mg "_law_are_rows" sLawAreRows) (T : Tx K mg) (GLawIsNumber : Cal P w K mg base CX0 1 "_law_is_number" ["_law_thing"] (spInt numB)) : Cal P w K mg base CX0 2 "_law_are_rows" ["_law_thing"] (spGot K) := by
  refine cal_of D scLawAreRows (fun _ _ _ _ _ _ us hl => match us, hl with | [_], _ => rfl) (fun vs H Q E ⟨v, rs, e, _⟩ => by rw [e]; rfl) fun f cdv A outer s H vs Q E hr h => ?_
  obtain ⟨v, rs, rfl, hd, hl, h⟩ := h
  obtain ⟨p, xs, rfl, hp, hx⟩ := dp_lst hd
  have lx : xs.length = rs.length := by rw [dpAll_len hx, List.length_map]
  refine ⟨_, ((pss_cons (ps_if (PW.pt (pw_or (pt_not (pt_val (pe_callB call_isi (by rfl) T.b_isinstance (by decide +kernel) (pa_cons (pv 0) (pa_cons (pe_ty (c := "list") rfl T.b_list) pa_nil))))) (pw_or (pt_cmpR op_lt (pe_callB call_len (by rfl) T.b_len (by decide +kernel) (pa_cons (pv 0) pa_nil)) pe_int (nomark _)) (pw_or1 (pt_cmpR op_gt (pe_callB call_len (by rfl) T.b_len (by decide +kernel) (pa_cons (pv 0) pa_nil)) pe_int (nomark _)))))) (pss_one (ps_ret pe_bl)) pss_nil)
      (pss_cons (ps_for (passes_of rfl) rfl (pi_range1 rfl T.b_range (pa_cons (pe_callB call_len (by rfl) T.b_len (by decide +kernel) (pa_cons (pv 0) pa_nil)) pa_nil)) (pg_name (i := 1) scLawAreRows.nd rfl (Or.inl rfl)) (pss_cons (ps_set (i := 2) scLawAreRows.nd rfl (Or.inl rfl) (pe_ix ix_list (pv 0) (pv 1) (fun _ _ => rfl)))
      (pss_cons (ps_if (PW.pt (pw_or (pt_not (pt_val (pe_callB call_isi (by rfl) T.b_isinstance (by decide +kernel) (pa_cons (pv 2) (pa_cons (pe_ty (c := "tuple") rfl T.b_tuple) pa_nil))))) (pw_or (pt_cmpR op_ne (pe_callB call_len (by rfl) T.b_len (by decide +kernel) (pa_cons (pv 2) pa_nil)) pe_int (nomark _)) (pw_or (pt_not (pt_val (pe_cal GLawIsNumber (hr.mono (by decide)) rfl pass0 (pa_cons (pe_ix ix_tup (pv 2) pe_int (fun _ _ => rfl)) pa_nil)))) (pw_or1 (pt_not (pt_val (pe_cal GLawIsNumber (hr.mono (by decide)) rfl pass0 (pa_cons (pe_ix ix_tup (pv 2) pe_int (fun _ _ => rfl)) pa_nil))))))))) (pss_one (ps_ret pe_bl)) pss_nil)
      (pss_one (ps_if (PW.pt (pw_or (pt_cmpR op_gt (pe_ix ix_tup (pv 2) pe_int (fun _ _ => rfl)) (pe_ix ix_tup (pv 2) pe_int (fun _ _ => rfl)) (nomark _)) (pw_or1 (PW.pt (pw_and (pt_cmpR op_gt (pv 1) pe_int (nomark _)) (pw_and1 (pt_cmpR op_ge (pe_op op_add (pe_ix ix_tup (pv 2) pe_int (fun _ _ => rfl)) pe_int) (pe_ix ix_tup (pe_ix ix_list (pv 0) (pe_op op_sub (pv 1) pe_int) (fun _ _ => rfl)) pe_int (fun _ _ => rfl)) (nomark _)))))))) (pss_one (ps_ret pe_bl)) pss_nil)))))
      (pss_one (ps_ret pe_bl))))), ?_⟩
  refine q_when (et_is (et_or (et_not (et_B (ev_isiD (ev_var rfl) hd k_ll))) fun _ => et_or (et_test (ev_op (ev_lenL (ev_var rfl) hp) ev_c rv_I0)) fun _ => et_test (ev_op (ev_lenL (ev_var rfl) hp) ev_c rv_I0)) (b := !(decide (1 ≤ rs.length) && decide (rs.length ≤ 8))) ?_) (fun hb H1 e1 => ?_) fun hb H1 e1 => ?_
  · rw [lx]
    by_cases a : 1 ≤ rs.length <;> by_cases b : rs.length ≤ 8 <;> simp [a, b] <;> omega
  · refine s_retV (ev_is ev_c ?_) (RetV.goV h e1)
    unfold gotB
    revert hb
    cases decide (1 ≤ rs.length) <;> cases decide (rs.length ≤ 8) <;> simp
  have l8 : rs.length ≤ 8 := by
    revert hb
    by_cases b : rs.length ≤ 8
    · exact fun _ => b
    · simp [b]
  have eg : gotB rs = rowsB none rs := by
    unfold gotB
    revert hb
    cases decide (1 ≤ rs.length) <;> cases decide (rs.length ≤ 8) <;> simp
  rw [eg] at h
  have e1p := ex_l e1 hp
  -- the first of the row ahead of i
  let ah : Nat → Option Int := fun i => match i with
    | 0 => none
    | j + 1 => (rs[j]?).map (·.1)
  refine q_forR1 (ea_cons (ev_lenL (ev_var rfl) e1p) ea_nil) ⟨by omega, by omega⟩ (fun i σ' H' => Ex H H' ∧ ∃ x y, σ' = [some (.ref p), x, y] ∧ rowsB none rs = rowsB (ah i) (rs.drop i)) (fun H3 e3 => ⟨e1.trans e3, _, _, rfl, rfl⟩) (fun i σ' H' hi z => ?_) fun σ' H' z => ?_
  · obtain ⟨ex, x, y, rfl, eqr⟩ := z
    have il : i < xs.length := by omega
    obtain ⟨q, hq, dq⟩ := rows_get hx (List.getElem?_eq_getElem il)
    obtain ⟨q1, q2⟩ := q
    rw [drop_at hq] at eqr
    obtain ⟨a, ea, ha⟩ := row_at (dp_ex ex dq)
    have hxi : xs[i]? = some (.ref a) := by rw [List.getElem?_eq_getElem il, ea]
    refine q_asg (ev_op (ev_var rfl) (ev_var rfl) (rv_ixL (ex_l ex hp) (at_nat hxi))) fun H2 e2 => ?_
    have ha2 := ex_t e2 ha
    refine q_when (et_or (et_not (et_B (ev_isi (ev_var rfl) (tyx_T ha2) (fun H1 e => tyx_T (ex_t e ha2)) k_tt))) fun _ => et_or (et_test (ev_op (ev_lenT (ev_var rfl) ha2) ev_c (rv_ne rfl))) fun _ => et_or (et_not (et_B (call_int (f := numB) (st_ref (i := 0) (ev_var rfl) ha2 rfl)))) fun _ => et_not (et_B (call_int (f := numB) (st_ref (i := 1) (ev_var rfl) ha2 rfl)))) (fun hb H5 e5 => ?_) fun hb H5 e5 => ?_
    · refine s_retV (ev_is ev_c ?_) (RetV.goV h ((ex.trans e2).trans e5))
      rw [eqr]
      simp only [rowsB]
      revert hb
      cases numB q1 <;> cases numB q2 <;> simp
    have n1 : numB q1 = true := by
      revert hb
      cases numB q1 <;> simp
    have n2 : numB q2 = true := by
      revert hb
      cases numB q1 <;> cases numB q2 <;> simp
    have ha5 := ex_t e5 ha2
    have e05 := (ex.trans e2).trans e5
    refine s_when (b := decide (q1 > q2) || (match ah i with | none => false | some h => !decide (q2 + 1 < h))) ?_ (fun hb H6 e6 => ?_) fun hb H6 e6 => ?_
    · refine et_or (et_test (ev_op (st_ref (i := 0) (ev_var rfl) ha5 rfl) (st_ref (i := 1) (ev_var rfl) ha5 rfl) rv_I0)) fun _ => ?_
      cases i with
      | zero => exact et_and (a := false) (b := false) (et_test (ev_op (ev_var rfl) ev_c rv_I0)) fun z => by cases z
      | succ j =>
        have jl : j < xs.length := by omega
        obtain ⟨r, hr', dr⟩ := rows_get hx (List.getElem?_eq_getElem jl)
        obtain ⟨r1, r2⟩ := r
        obtain ⟨b, eb, hb'⟩ := row_at (dp_ex e05 dr)
        have hxj : xs[j]? = some (.ref b) := by rw [List.getElem?_eq_getElem jl, eb]
        have eah : ah (j + 1) = some r1 := by
          show (rs[j]?).map (·.1) = some r1
          rw [hr']
          rfl
        rw [eah]
        refine et_is (et_and (a := true) (et_is (et_test (ev_op (ev_var rfl) ev_c rv_I0)) (decide_eq_true (by omega))) fun _ => et_test (ev_op (ev_op (st_ref (i := 1) (ev_var rfl) ha5 rfl) ev_c rv_I0) (st_ref (i := 0) (ev_op (ev_var rfl) (ev_op (ev_var rfl) ev_c rv_I0) (rv_ixL (ex_l e05 hp) (i := ((j + 1 : Nat) : Int) - 1) (by rw [show ((j + 1 : Nat) : Int) - 1 = (j : Int) by omega]; exact at_nat hxj))) hb' rfl) rv_I0)) ?_
        show (true && decide (q2 + 1 ≥ r1)) = !decide (q2 + 1 < r1)
        by_cases z : q2 + 1 < r1
        · rw [decide_eq_true z, decide_eq_false (by omega)]; rfl
        · rw [decide_eq_false z, decide_eq_true (by omega)]; rfl
    · refine s_retV (ev_is ev_c ?_) (RetV.goV h (e05.trans e6))
      rw [eqr]
      simp only [rowsB]
      by_cases le : q1 ≤ q2
      · rw [decide_eq_false (by omega), Bool.false_or] at hb
        cases hah : ah i with
        | none => rw [hah] at hb; cases hb
        | some h =>
          rw [hah] at hb
          have : decide (q2 + 1 < h) = false := by simpa using hb
          simp [this]
      · simp [le]
    · have le : q1 ≤ q2 := by
        by_cases z : q1 > q2
        · rw [decide_eq_true z] at hb
          cases hb
        · omega
      refine ⟨e05.trans e6, _, _, rfl, ?_⟩
      rw [eqr]
      have eah : ah (i + 1) = some q1 := by
        show (rs[i]?).map (·.1) = some q1
        rw [hq]
        rfl
      rw [eah]
      simp only [rowsB, n1, n2, decide_eq_true le, Bool.true_and]
      rw [decide_eq_false (by omega), Bool.false_or] at hb
      cases hah : ah i with
      | none => simp
      | some h =>
        rw [hah] at hb
        have : decide (q2 + 1 < h) = true := by simpa using hb
        simp [this]
  · obtain ⟨ex, x, y, rfl, eqr⟩ := z
    refine s_retV (ev_is ev_c ?_) (RetV.goV h ex)
    have : ((xs.length : Int)).toNat = rs.length := by omega
    rw [this, List.drop_length] at eqr
    rw [eqr]
    cases ah rs.length <;> rfl
end
end Mk
set_option maxHeartbeats 4000000
/-! The law: a frame asked, the rest. -/
namespace Mk
open PySem PySem.Spec PyProof.Rows L2 Evl TL
def sizesA : List (Str × V) := [("piece", .int 5), ("got", .int 2), ("credit", .int 3), ("whole", .int 2), ("reset", .int 3), ("ask", .int 2)]
def sizesB : List (Str × V) := [("answer", .int 2), ("early", .int 2), ("close", .int 2)]
def sizesD : List (Key × V) := mergeK (mergeK [] (keyD sizesA)) (mergeK [] (keyD sizesB))
theorem size_pc : valV sizesD (.inr "piece") = some (.int 5) := by decide +kernel
theorem size_gt : valV sizesD (.inr "got") = some (.int 2) := by decide +kernel
theorem size_cl : valV sizesD (.inr "close") = some (.int 2) := by decide +kernel
theorem size_nu {w : Str} (h : NuW w) : valV sizesD (.inr w) = some (.int (if two w then 3 else 2)) := by
  rcases h with rfl | rfl | rfl | rfl | rfl | rfl <;> decide +kernel
section
variable {P : Program} {w : World} {K : PySem.W.Frag} {mg : Str → Option Value} {base : Heap} {k : Nat} {σ : L2.St} {H : Hp} {te tb : TE}
variable {D : Ends} {tz : TS}
def spLPiece (K : PySem.W.Frag) : Sp := fun vs H Q _ => ∃ p v0 a b x l, vs = [.ref p] ∧ SqT K H p [v0, .int a, .int b, .str x, .bl l] ∧ x.length ≤ 40000 ∧ RetV (.bl (pieceB a b x l)) H Q
theorem okLawIsPiece (D : DefAt K mg "_law_is_piece" sLawIsPiece) (T : Tx K mg) (GLawIsNumber : Cal P w K mg base CX0 1 "_law_is_number" ["_law_thing"] (spInt numB)) (GLawIsLane : Cal P w K mg base CX0 2 "_law_is_lane" ["_law_thing"] (spInt laneB)) :
    Cal P w K mg base CX0 3 "_law_is_piece" ["_law_thing"] (spLPiece K) := by
  refine cal_of D scLawIsPiece (fun _ _ _ _ _ _ us hl => match us, hl with | [_], _ => rfl) (fun vs H Q E ⟨p, v, a, b, x, l, e, _⟩ => by rw [e]; rfl) fun f cdv A outer s H vs Q E hr h => ?_
  obtain ⟨p, v0, a, b, x, l, rfl, hp, hx, h⟩ := h
  refine ⟨_, ((pss_cons (ps_if (PW.pt (pw_or (pt_not (pt_val (pe_cal GLawIsLane (hr.mono (by decide)) rfl pass0 (pa_cons (pe_ix ix_tup (pv 0) pe_int (fun _ _ => rfl)) pa_nil)))) (pw_or (pt_not (pt_val (pe_cal GLawIsNumber (hr.mono (by decide)) rfl pass0 (pa_cons (pe_ix ix_tup (pv 0) pe_int (fun _ _ => rfl)) pa_nil)))) (pw_or1 (pt_not (pt_val (pe_callB call_isi (by rfl) T.b_isinstance (by decide +kernel) (pa_cons (pe_ix ix_tup (pv 0) pe_int (fun _ _ => rfl)) (pa_cons (pe_ty (c := "bool") rfl T.b_bool) pa_nil))))))))) (pss_one (ps_ret pe_bl)) pss_nil)
      (pss_cons (ps_if (PW.pt (pw_or (pt_not (pt_val (pe_callB call_isi (by rfl) T.b_isinstance (by decide +kernel) (pa_cons (pe_ix ix_tup (pv 0) pe_int (fun _ _ => rfl)) (pa_cons (pe_ty (c := "str") rfl T.b_str) pa_nil))))) (pw_or (pt_cmpR op_gt (pe_callB call_len (by rfl) T.b_len (by decide +kernel) (pa_cons (pe_ix ix_tup (pv 0) pe_int (fun _ _ => rfl)) pa_nil)) pe_int (nomark _)) (pw_or1 (PW.pt (pw_and (pt_cmpR op_eq (pe_ix ix_tup (pv 0) pe_int (fun _ _ => rfl)) pe_str (nomark _)) (pw_and1 (pt_not (pt_val (pe_ix ix_tup (pv 0) pe_int (fun _ _ => rfl))))))))))) (pss_one (ps_ret pe_bl)) pss_nil)
      (pss_one (ps_ret (pe_callB (cr_all rfl) (by rfl) T.b_all (by decide +kernel) (pa_cons (pe_lc (own := [("_law_sign", 1)]) (g := gName 1) (tt := tYes) rfl scLawIsPiece.nd (pi_str (pe_ix ix_tup (pv 0) pe_int (fun _ _ => rfl))) (blkOk_by (own := [("_law_sign", 1)]) (N := nLawIsPiece) (sc := defScope sLawIsPiece) (by decide +kernel)) (fun _ _ _ _ _ => pg_name (i := 1) scLawIsPiece.nd rfl (Or.inl rfl)) (fun _ _ _ _ _ => pts_nil) (fun _ _ _ _ _ => (pe_chain op_le_str op_le_str pe_str (pv 1) pe_str))) pa_nil))))))), ?_⟩
  refine q_when (et_or (et_not (et_B (call_int (f := laneB) (st_ref (i := 1) (ev_var rfl) hp rfl)))) fun _ => et_or (et_not (et_B (call_int (f := numB) (st_ref (i := 2) (ev_var rfl) hp rfl)))) fun _ => et_not (et_B (ev_isiD (st_ref (i := 4) (ev_var rfl) hp rfl) (.bl l) k_bb))) (fun hb H3 e3 => ?_) fun hb H3 e3 => ?_
  · refine s_retV (ev_is ev_c ?_) (RetV.goV h e3)
    unfold pieceB
    revert hb
    cases laneB a <;> cases numB b <;> simp
  have n1 : laneB a = true := by
    revert hb
    cases laneB a <;> simp
  have n2 : numB b = true := by
    revert hb
    cases laneB a <;> cases numB b <;> simp
  have hp3 := ex_t e3 hp
  refine q_when (et_or (et_not (et_B (ev_isiD (st_ref (i := 3) (ev_var rfl) hp3 rfl) (.str x) k_ss))) fun _ => et_or (et_test (ev_op (ev_lenS (st_ref (i := 3) (ev_var rfl) hp3 rfl) (by omega)) ev_c rv_I0)) fun _ => et_and (et_is (et_test (ev_op (st_ref (i := 3) (ev_var rfl) hp3 rfl) ev_c (rv_eq rfl))) (str_eqV x "")) fun _ => et_not (et_B (st_ref (i := 4) (ev_var rfl) hp3 rfl))) (fun hb H4 e4 => ?_) fun hb H4 e4 => ?_
  · refine s_retV (ev_is ev_c ?_) (RetV.goV h (e3.trans e4))
    unfold pieceB
    by_cases z : x.length ≤ 64
    · rw [decide_eq_false (show ¬ (x.length : Int) > 64 by omega)] at hb
      have : (decide (x = Str.ofString "") && !l) = true := by simpa using hb
      have h2 : (!decide (x = Str.ofString "") || l) = false := by
        revert this
        cases decide (x = Str.ofString "") <;> cases l <;> simp
      rw [show (!decide (x = ("" : Str)) || l) = false from h2]
      simp
    · rw [decide_eq_false z]
      simp
  · have z : x.length ≤ 64 := by
      by_cases z : x.length ≤ 64
      · exact z
      · rw [decide_eq_true (show (x.length : Int) > 64 by omega)] at hb
        simp at hb
    rw [decide_eq_false (show ¬ (x.length : Int) > 64 by omega)] at hb
    have hb : (decide (x = Str.ofString "") && !l) = false := by simpa using hb
    have h2 : (!decide (x = Str.ofString "") || l) = true := by
      revert hb
      cases decide (x = Str.ofString "") <;> cases l <;> simp
    refine s_retV (ev_is (ev_allS (f := letB) (st_ref (i := 3) (ev_var rfl) (ex_t e4 hp3) rfl) hx (fun _ => rfl) fun c H1 e hc => ev_is (ev_chain ev_c (ev_var rfl) rv_leS (fun _ => ev_c) fun _ => rv_leS) ?_) ?_) (RetV.goV h (e3.trans e4))
    · rw [let_chain]
    · unfold pieceB
      rw [n1, n2, decide_eq_true z, show (!decide (x = ("" : Str)) || l) = true from h2]
      simp
theorem ixm1 {xs : List V} {v : V} (h : xs.getLast? = some v) : atI xs (-1) = some v := by
  have hl : xs ≠ [] := fun e => by rw [e] at h; cases h
  have hp : 0 < xs.length := List.length_pos_iff.mpr hl
  unfold atI ixN
  rw [if_neg (by decide), if_pos (by omega)]
  show xs[((-1 : Int) + (xs.length : Int)).toNat]? = some v
  rw [show ((-1 : Int) + (xs.length : Int)).toNat = xs.length - 1 by omega, ← List.getLast?_eq_getElem?]
  exact h
theorem okLawIs (D : DefAt K mg "_law_is" sLawIs) (T : Tx K mg) (GLawIsNumber : Cal P w K mg base CX0 1 "_law_is_number" ["_law_thing"] (spInt numB)) (GLawIsLane : Cal P w K mg base CX0 2 "_law_is_lane" ["_law_thing"] (spInt laneB))
    (GLawAreRows : Cal P w K mg base CX0 2 "_law_are_rows" ["_law_thing"] (spGot K)) (GLawIsPiece : Cal P w K mg base CX0 3 "_law_is_piece" ["_law_thing"] (spLPiece K)) : Cal P w K mg base CX0 4 "_law_is" ["_law_thing"] (spFrame K) := by
  refine cal_of D scLawIs (fun _ _ _ _ _ _ us hl => match us, hl with | [_], _ => rfl) (fun vs H Q E ⟨v, rs, e, _⟩ => by rw [e]; rfl) fun f cdv A outer s H vs Q E hr h => ?_
  obtain ⟨v, r, rfl, hd, hf, h⟩ := h
  obtain ⟨p, xs, rfl, hp, hx⟩ := dp_tup hd
  refine ⟨_, ((pss_cons (ps_if (PW.pt (pw_or (pt_not (pt_val (pe_callB call_isi (by rfl) T.b_isinstance (by decide +kernel) (pa_cons (pv 0) (pa_cons (pe_ty (c := "tuple") rfl T.b_tuple) pa_nil))))) (pw_or (pt_cmpR op_lt (pe_callB call_len (by rfl) T.b_len (by decide +kernel) (pa_cons (pv 0) pa_nil)) pe_int (nomark _)) (pw_or1 (pt_not (pt_val (pe_callB call_isi (by rfl) T.b_isinstance (by decide +kernel) (pa_cons (pe_ix ix_tup (pv 0) pe_int (fun _ _ => rfl)) (pa_cons (pe_ty (c := "str") rfl T.b_str) pa_nil))))))))) (pss_one (ps_ret pe_bl)) pss_nil)
      (pss_cons (ps_set (i := 1) scLawIs.nd rfl (Or.inl rfl) (pe_ix ix_tup (pv 0) pe_int (fun _ _ => rfl)))
      (pss_cons (ps_set (i := 2) scLawIs.nd rfl (Or.inl rfl) (pe_disp (pps_cons pe_str pe_int (pps_cons pe_str pe_int (pps_cons pe_str pe_int (pps_cons pe_str pe_int (pps_cons pe_str pe_int (pps_cons pe_str pe_int pps_nil)))))) (by rfl) (by rfl) (fun z => by cases z) (by decide)))
      (pss_cons (ps_expr (pe_bm PySem.F.plainAttrs_dict PySem.F.slot_dict_update PySem.F.type_dict_update mt_update (pv 2) (pa_cons (pe_disp (pps_cons pe_str pe_int (pps_cons pe_str pe_int (pps_cons pe_str pe_int pps_nil))) (by rfl) (by rfl) (fun z => by cases z) (by decide)) pa_nil)))
      (pss_cons (ps_if (pt_cmpR op_ne (pe_dget2 (Nat.lt_of_le_of_lt (Nat.add_le_add_left (by decide) _) hr.units) (pv 2) (pv 1) pe_int ⟨rfl, rfl, rfl, rfl⟩) (pe_callB call_len (by rfl) T.b_len (by decide +kernel) (pa_cons (pv 0) pa_nil)) (nomark _)) (pss_one (ps_ret pe_bl)) pss_nil)
      (pss_cons (ps_if (pt_cmpR op_eq (pv 1) pe_str (nomark _)) (pss_one (ps_ret (pe_cal GLawIsPiece (hr.mono (by decide)) rfl pass0 (pa_cons (pv 0) pa_nil)))) pss_nil)
      (pss_cons (ps_if (pt_cmpR op_eq (pv 1) pe_str (nomark _)) (pss_one (ps_ret (pe_cal GLawAreRows (hr.mono (by decide)) rfl pass0 (pa_cons (pe_ix ix_tup (pv 0) pe_int (fun _ _ => rfl)) pa_nil)))) pss_nil)
      (pss_cons (ps_if (pt_cmpR op_eq (pv 1) pe_str (nomark _)) (pss_cons (ps_set (i := 3) scLawIs.nd rfl (Or.inr rfl) pe_str)
      (pss_cons (ps_set (i := 4) scLawIs.nd rfl (Or.inl rfl) (pe_and (pe_callB call_isi (by rfl) T.b_isinstance (by decide +kernel) (pa_cons (pe_ix ix_tup (pv 0) pe_int (fun _ _ => rfl)) (pa_cons (pe_ty (c := "str") rfl T.b_str) pa_nil))) (pe_one (pe_chain op_le op_le pe_int (pe_callB call_len (by rfl) T.b_len (by decide +kernel) (pa_cons (pe_ix ix_tup (pv 0) pe_int (fun _ _ => rfl)) pa_nil)) pe_int))))
      (pss_one (ps_ret (pe_and (pv 4) (pe_one (pe_callB (cr_all rfl) (by rfl) T.b_all (by decide +kernel) (pa_cons (pe_lc (own := [("_law_sign", 5)]) (g := gName 5) (tt := tYes) rfl scLawIs.nd (pi_str (pe_ix ix_tup (pv 0) pe_int (fun _ _ => rfl))) (blkOk_by (own := [("_law_sign", 5)]) (N := nLawIs) (sc := defScope sLawIs) (by decide +kernel)) (fun _ _ _ _ _ => pg_name (i := 5) scLawIs.nd rfl (Or.inl rfl)) (fun _ _ _ _ _ => pts_nil) (fun _ _ _ _ _ => (pe_cmpR op_in_sign (pv 5) (pv 3) rfl))) pa_nil)))))))) pss_nil)
      (pss_one (ps_ret (pe_and (pe_cal GLawIsNumber (hr.mono (by decide)) rfl pass0 (pa_cons (pe_ix ix_tup (pv 0) (pe_un un_neg pe_int) (fun _ _ => rfl)) pa_nil)) (pe_one (pe_or (pe_cmpR op_eq (pe_callB call_len (by rfl) T.b_len (by decide +kernel) (pa_cons (pv 0) pa_nil)) pe_int (nomark _)) (pe_one (pe_cal GLawIsLane (hr.mono (by decide)) rfl pass0 (pa_cons (pe_ix ix_tup (pv 0) pe_int (fun _ _ => rfl)) pa_nil))))))))))))))))), ?_⟩
  obtain ⟨v0, ys, rfl, h0, ht⟩ := dpAll_cons hx
  obtain rfl := dp_str h0
  have hl : ys.length = r.parts.length := dpAll_len ht
  refine q_when (et_or (et_not (et_B (ev_isiD (ev_var rfl) hd k_tt))) fun _ => et_or (et_is (et_test (ev_op (ev_lenT (ev_var rfl) hp) ev_c rv_I0)) (b := decide (ys.length = 0)) (by rw [List.length_cons]; by_cases z : ys.length = 0 <;> simp [z] <;> omega)) fun _ => et_not (et_B (ev_isi (st_ref (i := 0) (ev_var rfl) hp rfl) (.base (.str _)) (fun _ _ => .base (.str _)) k_ss))) (fun hb H1 e1 => ?_) fun hb H1 e1 => ?_
  · refine s_retV (ev_is ev_c ?_) (RetV.goV h e1)
    have : ys.length = 0 := by simpa using hb
    rw [hl] at this
    cases r with
    | cl zs =>
      cases zs with
      | nil => rfl
      | cons => simp [Raw.parts] at this
    | pc => simp [Raw.parts] at this
    | gt => simp [Raw.parts] at this
    | nu w ns =>
      cases ns with
      | nil => rfl
      | cons => simp [Raw.parts] at this
  have ny : ys.length ≠ 0 := by simpa using hb
  refine q_asg (st_ref (i := 0) (ev_var rfl) (ex_t e1 hp) rfl) fun H2 e2 => ?_
  refine q_disp sizesA (by decide) fun q H3 hq e3 h3 => ?_
  refine q_update sizesB (by decide) (ev_var rfl) h3 (by decide +kernel) fun H4' H4 e4' eH4 => ?_
  have hqH : H q = none := fresh_back (e1.trans e2) hq
  have e4 : Ex H H4 := by
    rw [eH4]
    exact (((e1.trans e2).trans e3).trans e4').mut hqH
  have h4 : H4 q = some (.dK sizesD) := by
    rw [eH4]
    exact upd_same
  have hp4 := ex_t e4 hp
  have wd : ∀ n : Int, valV sizesD (.inr r.word) = some (.int n) → ∀ {G : L2.St}, G[2]? = some (some (.ref q)) → G[1]? = some (some (.str r.word)) → G[0]? = some (some (.ref p)) → EvT (tTest (tOp rNe (tDGet2 (tVar 2) (tVar 1) (tC (.int 0))) (tCB (rLenC K) (tCons (tVar 0) tNil)))) G H4 (!decide (n = (ys.length : Int) + 1)) := fun n hn G g2 g1 g0 => by
    refine et_is (et_test (ev_op (ev_get (ev_var g2) h4 (ev_var g1) ev_c) (ev_lenT (ev_var g0) hp4) (rv_ne ?_))) ?_
    · rw [hn]
      rfl
    · rw [hn]
      show (!decide (V.int n = V.int ((V.str r.word :: ys).length : Int))) = _
      rw [int_eqV, List.length_cons]
      rfl
  cases r with
  | pc a b x l =>
    refine q_when (wd 5 size_pc rfl rfl rfl) (fun hb => absurd hb (by rw [hl]; simp [Raw.parts])) fun _ H5 e5 => ?_
    refine q_when (et_test (ev_op (ev_var rfl) ev_c (rv_eq rfl))) (fun _ H6 e6 => ?_) fun hb => absurd hb (deq (a := "piece"))
    have e : ys = [.int a, .int b, .str x, .bl l] := by
      obtain ⟨_, _, rfl, h1, t⟩ := dpAll_cons ht
      obtain ⟨_, _, rfl, h2, t⟩ := dpAll_cons t
      obtain ⟨_, _, rfl, h3, t⟩ := dpAll_cons t
      obtain ⟨_, _, rfl, h4, t⟩ := dpAll_cons t
      obtain rfl := dpAll_nil t
      rw [dp_int h1, dp_int h2, dp_str h3, dp_bl h4]
    subst e
    exact s_retV (ev_call (ea_cons (ev_var rfl) ea_nil) fun H7 e7 Q q E => ⟨p, _, a, b, x, l, rfl, ex_t ((e5.trans e6).trans e7) hp4, hf, fun H8 e8 => q H8 e8⟩) (RetV.goV h ((e4.trans e5).trans e6))
  | gt rs =>
    refine q_when (wd 2 size_gt rfl rfl rfl) (fun hb => absurd hb (by rw [hl]; simp [Raw.parts])) fun _ H5 e5 => ?_
    refine q_when (et_test (ev_op (ev_var rfl) ev_c (rv_eq rfl))) (fun hb => absurd hb (dneq (a := "got") (b := "piece") (by decide +kernel))) fun _ H6 e6 => ?_
    obtain ⟨v1, _, rfl, h1, t⟩ := dpAll_cons ht
    obtain rfl := dpAll_nil t
    refine q_when (et_test (ev_op (ev_var rfl) ev_c (rv_eq rfl))) (fun _ H7 e7 => ?_) fun hb => absurd hb (deq (a := "got"))
    have e47 := (e5.trans e6).trans e7
    exact s_retV (call_dp (fun H1 Q E hd k => ⟨_, rs, rfl, hd, hf, k⟩) (st_ref (i := 1) (ev_var rfl) (ex_t e47 hp4) rfl) (dp_ex (e4.trans e47) h1)) (RetV.goV h (e4.trans e47))
  | cl zs =>
    have e : ys = zs.map V.str := dpAll_strs ht
    subst e
    refine q_when (wd 2 size_cl rfl rfl rfl) (fun hb H5 e5 => ?_) fun hb H5 e5 => ?_
    · refine s_retV (ev_is ev_c ?_) (RetV.goV h (e4.trans e5))
      match zs, hb with
      | [], _ => rfl
      | [_], hb => simp at hb
      | _ :: _ :: _, _ => rfl
    · match zs, hb, hp4, hf, h with
      | [], hb, _, _, _ => simp at hb
      | _ :: _ :: _, hb, _, _, _ =>
        exfalso
        simp at hb
        omega
      | [z], _, hp4, hf, h =>
        have hz : z.length ≤ 40000 := hf.2 z (by simp)
        refine q_when (et_test (ev_op (ev_var rfl) ev_c (rv_eq rfl))) (fun hb => absurd hb (dneq (a := "close") (b := "piece") (by decide +kernel))) fun _ H6 e6 => ?_
        refine q_when (et_test (ev_op (ev_var rfl) ev_c (rv_eq rfl))) (fun hb => absurd hb (dneq (a := "close") (b := "got") (by decide +kernel))) fun _ H7 e7 => ?_
        refine q_when (et_test (ev_op (ev_var rfl) ev_c (rv_eq rfl))) (fun _ H8 e8 => ?_) fun hb => absurd hb (deq (a := "close"))
        refine q_asg ev_c fun H9 e9 => ?_
        have e49 := (((e5.trans e6).trans e7).trans e8).trans e9
        refine q_asg (v := .bl (decide (1 ≤ z.length) && decide (z.length ≤ 8))) (ev_is (ev_andV (ev_isiD (st_ref (i := 1) (ev_var rfl) (ex_t e49 hp4) rfl) (.str z) k_ss) fun _ => ev_len13 ev_c (ev_lenS (st_ref (i := 1) (ev_var rfl) (ex_t e49 hp4) rfl) (by omega)) ev_c rv_I0 rv_I0) ?_) fun H10 e10 => ?_
        · have h1 : decide ((1 : Int) ≤ (z.length : Int)) = decide (1 ≤ z.length) := @nat_le 1 z.length
          have h2 : decide ((z.length : Int) ≤ 8) = decide (z.length ≤ 8) := @nat_le z.length 8
          show V.bl (true && (decide ((1 : Int) ≤ _) && decide (_ ≤ (8 : Int)))) = _
          rw [h1, h2]
          rfl
        · exact s_retV (ev_andV (ev_var rfl) fun _ => ev_allS (f := smB) (st_ref (i := 1) (ev_var rfl) (ex_t (e49.trans e10) hp4) rfl) hz (fun _ => rfl) fun c H1 e hc => ev_op (ev_var rfl) (ev_var rfl) rv_inSg) (RetV.goV h ((e4.trans e49).trans e10))
  | nu w ns =>
    obtain ⟨n1, n2, n3, n4, n5⟩ := nu_facts hf.1
    have e : ys = ns.map V.int := dpAll_ints ht
    subst e
    refine q_when (wd (if two w then 3 else 2) (size_nu hf.1) rfl rfl rfl) (fun hb H5 e5 => ?_) fun hb H5 e5 => ?_
    · refine s_retV (ev_is ev_c ?_) (RetV.goV h (e4.trans e5))
      rw [List.length_map] at hb
      cases ht2 : two w with
      | true =>
        rw [ht2] at hb
        match ns, hb with
        | [], _ => rfl
        | [_], _ => simp [Raw.ok, ht2]
        | [_, _], hb => simp at hb
        | _ :: _ :: _ :: _, _ => rfl
      | false =>
        rw [ht2] at hb
        match ns, hb with
        | [], _ => rfl
        | [_], hb => simp at hb
        | [_, _], hb => simp [Raw.ok, ht2]
        | _ :: _ :: _ :: _, _ => rfl
    · rw [List.length_map] at hb
      refine q_when (et_test (ev_op (ev_var rfl) ev_c (rv_eq rfl))) (fun hb => absurd hb (dneq (a := w) (b := "piece") n1)) fun _ H6 e6 => ?_
      refine q_when (et_test (ev_op (ev_var rfl) ev_c (rv_eq rfl))) (fun hb => absurd hb (dneq (a := w) (b := "got") n2)) fun _ H7 e7 => ?_
      refine q_when (et_test (ev_op (ev_var rfl) ev_c (rv_eq rfl))) (fun hb => absurd hb (dneq (a := w) (b := "close") n3)) fun _ H8 e8 => ?_
      have e48 := ((e5.trans e6).trans e7).trans e8
      refine s_retV (v := .bl (Raw.ok (.nu w ns))) ?_ (RetV.goV h (e4.trans e48))
      have hp8 := ex_t e48 hp4
      cases ht2 : two w with
      | true =>
        rw [ht2] at hb
        match ns, hb, hp8 with
        | [], hb, _ => simp at hb
        | [_], hb, _ => simp at hb
        | [a, b], hb, hp8 =>
          refine ev_is (ev_andV (call_int (f := numB) (ev_op (ev_var rfl) (ev_un ev_c ru_neg) (rv_ixT hp8 (ixm1 (v := .int b) rfl)))) fun _ => ev_orV (ev_op (ev_lenT (ev_var rfl) hp8) ev_c (rv_eq rfl)) fun _ => call_int (f := laneB) (st_ref (i := 1) (ev_var rfl) hp8 rfl)) ?_
          simp [Raw.ok, ht2, Bool.and_comm]
        | _ :: _ :: _ :: _, hb, _ =>
          exfalso
          simp at hb
          omega
      | false =>
        rw [ht2] at hb
        match ns, hb, hp8 with
        | [], hb, _ => simp at hb
        | [a], hb, hp8 =>
          refine ev_is (ev_andV (call_int (f := numB) (ev_op (ev_var rfl) (ev_un ev_c ru_neg) (rv_ixT hp8 (ixm1 (v := .int a) rfl)))) fun _ => ev_orV (a := true) (b := true) (ev_op (ev_lenT (ev_var rfl) hp8) ev_c (rv_eq rfl)) fun z => by cases z) ?_
          simp [Raw.ok, ht2]
        | _ :: _ :: _, hb, _ =>
          exfalso
          simp at hb
          omega
end
end Mk
set_option maxHeartbeats 4000000
/-! The law: figures, a frame made. -/
namespace Mk
open PySem PySem.Spec PyProof.Rows L2 Evl TL
def optV : Option Int → V
  | none => .non
  | some n => .int n
def pieceL (ns : List Int) (x : Str) : Option Raw := match ns with
  | [a, b, m, l] => if l > 1 ∨ (x.length : Int) ≠ m then none else some (.pc a b x (decide (l = 1)))
  | _ => none
def madeL (w : Str) (zs : List Str) (x : Str) : Option Raw :=
  if w = "close" then some (.cl zs) else match numsOf zs with
    | none => none
    | some ns => if w = "piece" then pieceL ns x else if w = "got" then (if ns.length / 2 * 2 ≠ ns.length then none else some (.gt (pairs ns))) else some (.nu w ns)
def lwords : List (Str × V) := [("c", .str "credit"), ("w", .str "whole"), ("r", .str "reset"), ("q", .str "ask"), ("n", .str "answer"), ("e", .str "early")]
theorem word_mem {c : Nat} {x : Str} (h : wordOf c = some x) : (c, x) ∈ wtab := by
  unfold wordOf at h
  revert h
  generalize wtab = l
  induction l with
  | nil => intro h; cases h
  | cons q r ih =>
    obtain ⟨d, y⟩ := q
    intro h
    rw [List.lookup_cons] at h
    split at h
    · rename_i e
      cases h
      rw [beq_iff_eq] at e
      subst e
      exact List.mem_cons_self ..
    · exact List.mem_cons_of_mem _ (ih h)
theorem word_facts {c : Nat} {x : Str} (h : wordOf c = some x) : decide (V.str (⟨#[c]⟩ : Str) = V.str "x") = decide (x = "close") ∧ decide (V.str (⟨#[c]⟩ : Str) = V.str "p") = decide (x = "piece") ∧ decide (V.str (⟨#[c]⟩ : Str) = V.str "g") = decide (x = "got") ∧
    (x ≠ "close" → x ≠ "piece" → x ≠ "got" → NuW x ∧ valV (mergeK [] (keyD lwords)) (.inr ⟨#[c]⟩) = some (.str x)) := by
  have hm := word_mem h
  simp only [wtab, List.mem_cons, Prod.mk.injEq, List.not_mem_nil, or_false] at hm
  rcases hm with ⟨rfl, rfl⟩ | ⟨rfl, rfl⟩ | ⟨rfl, rfl⟩ | ⟨rfl, rfl⟩ | ⟨rfl, rfl⟩ | ⟨rfl, rfl⟩ | ⟨rfl, rfl⟩ | ⟨rfl, rfl⟩ | ⟨rfl, rfl⟩
  · exact ⟨by decide +kernel, by decide +kernel, by decide +kernel, fun _ h => absurd rfl h⟩
  · exact ⟨by decide +kernel, by decide +kernel, by decide +kernel, fun _ _ h => absurd rfl h⟩
  · exact ⟨by decide +kernel, by decide +kernel, by decide +kernel, fun _ _ _ => ⟨.inl rfl, by decide +kernel⟩⟩
  · exact ⟨by decide +kernel, by decide +kernel, by decide +kernel, fun _ _ _ => ⟨.inr (.inl rfl), by decide +kernel⟩⟩
  · exact ⟨by decide +kernel, by decide +kernel, by decide +kernel, fun _ _ _ => ⟨.inr (.inr (.inl rfl)), by decide +kernel⟩⟩
  · exact ⟨by decide +kernel, by decide +kernel, by decide +kernel, fun _ _ _ => ⟨.inr (.inr (.inr (.inl rfl))), by decide +kernel⟩⟩
  · exact ⟨by decide +kernel, by decide +kernel, by decide +kernel, fun _ _ _ => ⟨.inr (.inr (.inr (.inr (.inl rfl)))), by decide +kernel⟩⟩
  · exact ⟨by decide +kernel, by decide +kernel, by decide +kernel, fun _ _ _ => ⟨.inr (.inr (.inr (.inr (.inr rfl)))), by decide +kernel⟩⟩
  · exact ⟨by decide +kernel, by decide +kernel, by decide +kernel, fun h => absurd rfl h⟩
section
variable {P : Program} {w : World} {K : PySem.W.Frag} {mg : Str → Option Value} {base : Heap} {k : Nat} {σ : L2.St} {H : Hp} {te tb : TE}
variable {D : Ends} {tz tu : TS}
/-- for x in a text -/
theorem q_forS {j : Nat} {z : Str} {tv : TE} (h : Ev tv σ H (.str z)) (hz : z.length ≤ 100000) (Pv : Nat → L2.St → Hp → Prop) (h0 : ∀ H1, Ex H H1 → Pv 0 σ H1)
    (hs : ∀ (i : Nat) (c : Nat) σ' H', z.cps.toList[i]? = some c → Pv i σ' H' → tu { D with nx := Pv (i + 1), ct := Pv (i + 1), bk := tz D } (σ'.set j (some (.str ⟨#[c]⟩))) H') (hd : ∀ σ' H', Pv z.length σ' H' → tz D σ' H') :
    tSeq (tFor (iStr tv) (gName j) tu) tz D σ H := h H (Ex.refl H) _ fun H1 e1 => ⟨z, rfl, for_it (D := { D with nx := tz D }) walk_str Pv (h0 H1 e1) (fun _ _ _ _ _ => trivial) (fun i x σ' H' H'' hi p y => by
  obtain ⟨rfl, c, hc, rfl⟩ := y
  exact hs i c σ' H'' (by rw [Array.getElem?_toList]; exact hc) p) hd⟩
def spFigures : Sp := fun vs H Q _ => ∃ z : Str, vs = [.str z] ∧ z.length ≤ 40000 ∧ RetV (optV (figS z)) H Q
theorem okLawFigures (D : DefAt K mg "_law_figures" sLawFigures) (T : Tx K mg) : Cal P w K mg base CX0 1 "_law_figures" ["_law_word_here"] spFigures := by
  refine cal_of D scLawFigures (fun _ _ _ _ _ _ us hl => match us, hl with | [_], _ => rfl) (fun vs H Q E ⟨v, e, _⟩ => by rw [e]; rfl) fun f cdv A outer s H vs Q E hr h => ?_
  obtain ⟨z, rfl, hz, h⟩ := h
  refine ⟨_, ((pss_cons (ps_if (PW.pt (pw_or (pt_cmpR op_lt (pe_callB call_len (by rfl) T.b_len (by decide +kernel) (pa_cons (pv 0) pa_nil)) pe_int (nomark _)) (pw_or (pt_cmpR op_gt (pe_callB call_len (by rfl) T.b_len (by decide +kernel) (pa_cons (pv 0) pa_nil)) pe_int (nomark _)) (pw_or1 (PW.pt (pw_and (pt_cmpR op_eq (pe_ix ix_str (pv 0) pe_int (fun _ _ => rfl)) pe_str (nomark _)) (pw_and1 (pt_cmpR op_ne (pv 0) pe_str (nomark _))))))))) (pss_one (ps_ret pe_non)) pss_nil)
      (pss_cons (ps_for (passes_of rfl) rfl (pi_str (pv 0)) (pg_name (i := 1) scLawFigures.nd rfl (Or.inl rfl)) (pss_one (ps_if (pt_cmpR op_notIn_sign (pv 1) pe_str rfl) (pss_one (ps_ret pe_non)) pss_nil)))
      (pss_cons (ps_if (pt_cmpR op_gt (pe_callTy call_int_str (by rfl) T.b_int (by decide +kernel) (pa_cons (pv 0) pa_nil)) (pe_op op_pow pe_int pe_int) (nomark _)) (pss_one (ps_ret pe_non)) pss_nil)
      (pss_one (ps_ret (pe_callTy call_int_str (by rfl) T.b_int (by decide +kernel) (pa_cons (pv 0) pa_nil)))))))), ?_⟩
  by_cases l1 : z.length < 1
  · refine q_when (et_or (a := true) (b := true) (et_is (et_test (ev_op (ev_lenS (ev_var rfl) (by omega)) ev_c rv_I0)) (decide_eq_true (by omega))) fun q => by cases q) (fun _ H1 e1 => ?_) fun q => by cases q
    refine s_retV (ev_is ev_c ?_) (RetV.goV h e1)
    rw [figS_none]
    · rfl
    · unfold figB
      rw [decide_eq_false (show ¬ 1 ≤ z.length by omega)]
      rfl
  have hd0 : ∃ c r, tl z = c :: r := by
    have := len_tl z
    cases h : tl z with
    | nil => rw [h] at this; simp at this; omega
    | cons c r => exact ⟨c, r, rfl⟩
  obtain ⟨c, r, ecr⟩ := hd0
  have e48 : decide (V.str (⟨#[c]⟩ : Str) = V.str "0") = decide ((tl z).head? = some 48) := by
    rw [sg0 c "0" 48 (by decide +kernel), ecr]
    simp
  refine q_when (b := decide (13 < z.length) || (decide ((tl z).head? = some 48) && !decide (z = "0"))) (et_is (et_or (et_is (et_test (ev_op (ev_lenS (ev_var rfl) (by omega)) ev_c rv_I0)) (decide_eq_false (by omega))) fun _ => et_or (et_is (et_test (ev_op (ev_lenS (ev_var rfl) (by omega)) ev_c rv_I0)) (b := decide (13 < z.length)) (decide_aux (by omega))) fun _ => et_and (et_is (et_test (ev_op (ev_op (ev_var rfl) ev_c (rv_ixS (c := c) (by omega) (by show atI (tl z) 0 = some c; rw [ecr]; exact at_nat (j := 0) rfl))) ev_c (rv_eq rfl))) e48) fun _ => et_test (ev_op (ev_var rfl) ev_c (rv_ne rfl))) (by rw [str_eqV]; rfl)) (fun hb H1 e1 => ?_) fun hb H1 e1 => ?_
  · refine s_retV (ev_is ev_c ?_) (RetV.goV h e1)
    rw [figS_none]
    · rfl
    · unfold figB
      by_cases l13 : z.length ≤ 13
      · rw [decide_eq_false (show ¬ 13 < z.length by omega), Bool.false_or] at hb
        rw [hb]
        simp
      · rw [decide_eq_false l13]
        simp
  rw [Bool.or_eq_false_iff] at hb
  obtain ⟨l13, d2⟩ := hb
  have l13 : z.length ≤ 13 := by
    have := of_decide_eq_false l13
    omega
  refine q_forS (ev_var rfl) (by omega) (fun i σ' H' => Ex H H' ∧ ∃ x, σ' = [some (.str z), x] ∧ ((tl z).take i).all dgB = true) (fun H2 e2 => ⟨e1.trans e2, _, rfl, rfl⟩) (fun i c σ' H' hc p => ?_) fun σ' H' p => ?_
  · obtain ⟨ex, x, rfl, hall⟩ := p
    refine s_when (et_test (ev_op (ev_var rfl) ev_c rv_notInSg)) (fun hb H3 e3 => ?_) fun hb H3 e3 => ⟨ex.trans e3, _, rfl, ?_⟩
    · refine s_retV (ev_is ev_c ?_) (RetV.goV h (ex.trans e3))
      rw [figS_none]
      · rfl
      · have hx : dgB c = false := by
          have : (!dgB c) = true := hb
          simpa using this
        have : (tl z).all dgB = false := by
          rw [List.all_eq_false]
          exact ⟨c, List.mem_of_getElem? hc, by rw [hx]; simp⟩
        unfold figB
        rw [this]
        simp
    · have hx : dgB c = true := by
        have : (!dgB c) = false := hb
        simpa using this
      have hc' : (tl z)[i]? = some c := hc
      rw [List.take_add_one, hc', List.all_append, hall]
      simp [hx]
  · obtain ⟨ex, x, rfl, hall⟩ := p
    rw [len_tl, List.take_length] at hall
    have hi : ∀ {te : TE} {σ : L2.St} {H : Hp}, Ev te σ H (.str z) → Ev (tCB (fun xs H Q => ∃ a n, xs = [.str a] ∧ PySem.intText? a = some n ∧ a.length ≤ 640 ∧ Q (.int n) H) (tCons te tNil)) σ H (.int ((NumText.digitsVal (tl z) : Nat) : Int)) := fun h => ev_cb (ea_cons h ea_nil) fun H1 e Q q => ⟨_, _, rfl, fig_int (by omega) l13 hall, by omega, q H1 (Ex.refl H1)⟩
    refine q_when (et_test (ev_op (hi (ev_var rfl)) (ev_pow ev_c ev_c (by decide)) rv_I0)) (fun hb H4 e4 => ?_) fun hb H4 e4 => ?_
    · refine s_retV (ev_is ev_c ?_) (RetV.goV h (ex.trans e4))
      rw [figS_none]
      · rfl
      · unfold figB
        have : ¬ (NumText.digitsVal (tl z) ≤ 1000000000000) := by
          have := of_decide_eq_true hb
          have e12 : (10 : Int) ^ (Int.toNat 12) = 1000000000000 := by decide
          rw [e12] at this
          omega
        rw [decide_eq_false this]
        simp
    · refine s_retV (ev_is (hi (ev_var rfl)) ?_) (RetV.goV h (ex.trans e4))
      rw [figS_some]
      · rfl
      · unfold figB
        have : NumText.digitsVal (tl z) ≤ 1000000000000 := by
          have := of_decide_eq_false hb
          have e12 : (10 : Int) ^ (Int.toNat 12) = 1000000000000 := by decide
          rw [e12] at this
          omega
        rw [decide_eq_true this, decide_eq_true (show 1 ≤ z.length by omega), decide_eq_true l13, hall, d2]
        rfl
end
end Mk
set_option maxHeartbeats 4000000
/-! The law: a frame made. -/
namespace Mk
open PySem PySem.Spec PyProof.Rows L2 Evl TL
section
variable {P : Program} {w : World} {K : PySem.W.Frag} {mg : Str → Option Value} {base : Heap} {k : Nat} {σ : L2.St} {H : Hp} {te tb : TE}
variable {D : Ends} {tz tu : TS}
def RetO (K : PySem.W.Frag) (o : Option Raw) (H : Hp) (Q : VK) : Prop := match o with
  | none => RetV .non H Q
  | some f => RetN K f.data H Q
theorem RetO.goO {o : Option Raw} {H H' : Hp} {Q : VK} (k : RetO K o H Q) (e : Ex H H') : RetO K o H' Q := by
  cases o with
  | none => exact RetV.goV (show RetV .non H Q from k) e
  | some f => exact RetN.go (show RetN K f.data H Q from k) e
theorem eu_cat {ta : TE} {xs ys : List V} (h : EvU ta σ H xs) (hb : EvU tb σ H ys) (hx : xs ≠ []) (hz : xs.length + ys.length ≤ 100000) : EvU (tOp (rCatA K) ta tb) σ H (xs ++ ys) := fun H1 e1 Q q =>
  h H1 e1 _ fun p H2 hp e2 h2 => hb H2 (e1.trans e2) _ fun r H3 hr e3 h3 => ⟨p, r, xs, ys, rfl, rfl, st_of (e3 p _ h2), st_of h3, sz_of hz, fun z => absurd z hx, fun _ z => q p H3 hp (e2.trans e3) (by rw [z, List.append_nil]; exact e3 p _ h2),
    fun _ _ l hl => q l _ (fresh_back (e2.trans e3) hl) ((e2.trans e3).trans (Ex.new hl)) upd_same⟩
theorem eu_tupOf {xs : List V} {a : Addr} (h : Ev te σ H (.ref a)) (ha : SqL K H a xs) : EvU (tCB (rTupD K) (tCons te tNil)) σ H xs := fun H1 e1 Q q =>
  h H1 e1 _ fun H2 e2 => ⟨a, xs, rfl, .inl ⟨ex_l (e1.trans e2) ha, fun l hl => q l _ (fresh_back e2 hl) (e2.trans (Ex.new hl)) upd_same⟩⟩
theorem en_lcR1 {ta : TA} {m : Int} {n j : Nat} {vs : List Nat} (f : Nat → PyData) (h : EvA ta σ H [.int m]) (em : m = (n : Int)) (hn : n ≤ 40000) (hw : ∀ x, wipe ((wipe σ vs).set j (some x)) vs = wipe σ vs)
    (he : ∀ (i : Nat) H1, Ex H H1 → i < n → EvN K te ((wipe σ vs).set j (some (.int (i : Int)))) H1 (f i)) : EvN K (tLc (iRng1 ta) (gName j) tYes te vs) σ H (.list ((List.range n).map f)) := fun H1 e1 Q q => h H1 e1 _ fun H2 e2 => ⟨m, rfl, by omega, by omega, by
  subst em
  exact en_map (walk_range (lo := 0) (n := n)) hn (fun _ _ => trivial) (fun i H x H' y => y.1) hw (fun i x H3 e3 hi y => by
    obtain rfl := y.2
    have := he i H3 ((e1.trans e2).trans e3) hi
    show EvN K te ((wipe σ vs).set j (some (.int ((0 : Int) + (i : Int))))) H3 (f i)
    rw [show (0 : Int) + (i : Int) = (i : Int) by omega]
    exact this) fun v H3 e3 hd => q v H3 (e2.trans e3) (hd.wide e2 (Ex.refl H3))⟩
theorem nums_vals : ∀ {zs : List Str} {ns : List Int}, numsOf zs = some ns → zs.map (fun z => optV (figS z)) = ns.map V.int
  | [], ns, h => by cases h; rfl
  | z :: r, ns, h => by
    unfold numsOf at h
    cases h1 : figS z with
    | none => rw [h1] at h; cases h
    | some n =>
      cases h2 : numsOf r with
      | none => rw [h1, h2] at h; cases h
      | some m =>
        rw [h1, h2] at h
        cases h
        rw [List.map_cons, List.map_cons, nums_vals h2, h1]
        rfl
theorem nums_none : ∀ (zs : List Str), inV .non (zs.map (fun z => optV (figS z))) = (numsOf zs).isNone
  | [] => rfl
  | z :: r => by
    have ih := nums_none r
    unfold inV at ih ⊢
    rw [List.map_cons, List.any_cons, ih]
    rw [numsOf]
    cases figS z with
    | none => rfl
    | some n =>
      have e : eqV (optV (some n)) .non = false := rfl
      rw [e, Bool.false_or]
      cases numsOf r <;> rfl
theorem nums_flat (zs : List Str) : (zs.map (fun z => optV (figS z))).all flatV = true := by
  rw [List.all_eq_true]
  intro v hv
  obtain ⟨z, _, rfl⟩ := List.mem_map.mp hv
  cases figS z <;> rfl
def spMade (K : PySem.W.Frag) : Sp := fun vs H Q _ => ∃ c w a zs x, vs = [.str ⟨#[c]⟩, .ref a, .str x] ∧ wordOf c = some w ∧ SqL K H a (zs.map V.str) ∧ zs.length ≤ 40000 ∧ (∀ z ∈ zs, z.length ≤ 40000) ∧ x.length ≤ 40000 ∧ RetO K (madeL w zs x) H Q
theorem okLawMade (D : DefAt K mg "_law_made" sLawMade) (T : Tx K mg) (GLawFigures : Cal P w K mg base CX0 1 "_law_figures" ["_law_word_here"] spFigures) : Cal P w K mg base CX0 2 "_law_made" ["_law_letter", "_law_parts", "_law_letters_here"] (spMade K) := by
  refine cal_of D scLawMade (fun _ _ _ _ _ _ us hl => match us, hl with | [_,_,_], _ => rfl) (fun vs H Q E ⟨c, v, a, b, x, e, _⟩ => by rw [e]; rfl) fun f cdv A outer s H vs Q E hr h => ?_
  obtain ⟨c, u, a, zs, x, rfl, hw, ha, hl, hz, hx, h⟩ := h
  refine ⟨_, ((pss_cons (ps_if (pt_cmpR op_eq (pv 0) pe_str (nomark _)) (pss_one (ps_ret (pe_op op_catA (pe_tup (pa_cons pe_str pa_nil)) (pe_callTy call_tuple_of (by rfl) T.b_tuple (by decide +kernel) (pa_cons (pv 1) pa_nil))))) pss_nil)
      (pss_cons (ps_set (i := 3) scLawMade.nd rfl (Or.inr rfl) (pe_lc (own := [("_law_part", 5)]) (g := gName 5) (tt := tYes) rfl scLawMade.nd (pi_list (pv 1)) (blkOk_by (own := [("_law_part", 5)]) (N := nLawMade) (sc := defScope sLawMade) (by decide +kernel)) (fun _ _ _ _ _ => pg_name (i := 5) scLawMade.nd rfl (Or.inl rfl)) (fun _ _ _ _ _ => pts_nil) (fun _ _ _ _ _ => (pe_cal GLawFigures (hr.mono (by decide)) rfl pass0 (pa_cons (pv 5) pa_nil)))))
      (pss_cons (ps_if (pt_cmpR op_in_seq pe_non (pv 3) rfl) (pss_one (ps_ret pe_non)) pss_nil)
      (pss_cons (ps_if (pt_cmpR op_eq (pv 0) pe_str (nomark _)) (pss_cons (ps_if (PW.pt (pw_or (pt_cmpR op_ne (pe_callB call_len (by rfl) T.b_len (by decide +kernel) (pa_cons (pv 3) pa_nil)) pe_int (nomark _)) (pw_or (pt_cmpR op_gt (pe_ix ix_list (pv 3) pe_int (fun _ _ => rfl)) pe_int (nomark _)) (pw_or1 (pt_cmpR op_ne (pe_callB call_len (by rfl) T.b_len (by decide +kernel) (pa_cons (pv 2) pa_nil)) (pe_ix ix_list (pv 3) pe_int (fun _ _ => rfl)) (nomark _)))))) (pss_one (ps_ret pe_non)) pss_nil)
      (pss_one (ps_ret (pe_tup (pa_cons pe_str (pa_cons (pe_ix ix_list (pv 3) pe_int (fun _ _ => rfl)) (pa_cons (pe_ix ix_list (pv 3) pe_int (fun _ _ => rfl)) (pa_cons (pv 2) (pa_cons (pe_cmpR op_eq (pe_ix ix_list (pv 3) pe_int (fun _ _ => rfl)) pe_int (nomark _)) pa_nil))))))))) pss_nil)
      (pss_cons (ps_if (pt_cmpR op_eq (pv 0) pe_str (nomark _)) (pss_cons (ps_if (pt_cmpR op_eq (pe_op op_modN (pe_callB call_len (by rfl) T.b_len (by decide +kernel) (pa_cons (pv 3) pa_nil)) pe_int) pe_int (nomark _)) (pss_one (ps_ret pe_non)) pss_nil)
      (pss_one (ps_ret (pe_tup (pa_cons pe_str (pa_cons (pe_lc (own := [("_law_k", 6)]) (g := gName 6) (tt := tYes) rfl scLawMade.nd (pi_range1 rfl T.b_range (pa_cons (pe_op op_fdivN (pe_callB call_len (by rfl) T.b_len (by decide +kernel) (pa_cons (pv 3) pa_nil)) pe_int) pa_nil)) (blkOk_by (own := [("_law_k", 6)]) (N := nLawMade) (sc := defScope sLawMade) (by decide +kernel)) (fun _ _ _ _ _ => pg_name (i := 6) scLawMade.nd rfl (Or.inl rfl)) (fun _ _ _ _ _ => pts_nil) (fun _ _ _ _ _ => (pe_tup (pa_cons (pe_ix (show IxR _ (rIxL K) from ix_list) (pv 3) (pe_op op_mul pe_int (pv 6)) (fun _ _ => rfl)) (pa_cons (pe_ix (show IxR _ (rIxL K) from ix_list) (pv 3) (pe_op op_add (pe_op op_mul pe_int (pv 6)) pe_int) (fun _ _ => rfl)) pa_nil))))) pa_nil)))))) pss_nil)
      (pss_cons (ps_set (i := 4) scLawMade.nd rfl (Or.inl rfl) (pe_disp (pps_cons pe_str pe_str (pps_cons pe_str pe_str (pps_cons pe_str pe_str (pps_cons pe_str pe_str (pps_cons pe_str pe_str (pps_cons pe_str pe_str pps_nil)))))) (by rfl) (by rfl) (fun z => by cases z) (by decide)))
      (pss_one (ps_ret (pe_op op_catA (pe_tup (pa_cons (pe_dget (Nat.lt_of_le_of_lt (Nat.add_le_add_left (by decide) _) hr.units) (pv 4) (pv 0) (fun _ _ => rfl)) pa_nil)) (pe_callTy call_tuple_of (by rfl) T.b_tuple (by decide +kernel) (pa_cons (pv 3) pa_nil)))))))))))), ?_⟩
  obtain ⟨wc, wp, wg, wn⟩ := word_facts hw
  refine q_when (et_is (et_test (ev_op (ev_var rfl) ev_c (rv_eq rfl))) wc) (fun hb H1 e1 => ?_) fun hb H1 e1 => ?_
  · have e : madeL u zs x = some (.cl zs) := by unfold madeL; rw [if_pos (of_decide_eq_true hb)]
    rw [e] at h
    refine s_retR (d := Raw.data (.cl zs)) ?_ (RetN.go (show RetN K (Raw.data (.cl zs)) H Q from h) e1)
    exact en_tup (K := K) (ds := .str "close" :: zs.map .str) (eu_cat (K := K) (eu_tup (ea_cons ev_c ea_nil) (by simp)) (eu_tupOf (ev_var rfl) (ex_l e1 ha)) (by simp) (by rw [List.length_map]; simp; omega)) fun G => .cons (.str _) (strs_dp zs)
  have nc : u ≠ "close" := of_decide_eq_false hb
  have rp : madeL u zs x = match numsOf zs with
    | none => none
    | some ns => if u = "piece" then pieceL ns x else if u = "got" then (if ns.length / 2 * 2 ≠ ns.length then none else some (.gt (pairs ns))) else some (.nu u ns) := by
    unfold madeL
    rw [if_neg nc] <;> rfl
  refine q_asgL (xs := zs.map fun z => optV (figS z)) ?_ fun q H2 hq e2 h2 => ?_
  · have := el_mapL (K := K) (σ := start nLawMade [.str ⟨#[c]⟩, .ref a, .str x]) (te := tCall spFigures [] E0 (tCons (tVar 5) tNil)) (tl := tVar 1) (j := 5) (vs := [5]) (fun v => match v with | .str z => optV (figS z) | _ => .non) (ev_var rfl) (ex_l e1 ha) (by rw [List.length_map]; omega) (fun _ => rfl) (fun y H3 e3 hy => by
      obtain ⟨z, hzm, rfl⟩ := List.mem_map.mp hy
      exact ev_call (ea_cons (ev_var rfl) ea_nil) fun H4 e4 Q q E => ⟨z, rfl, hz z hzm, fun H5 e5 => q H5 e5⟩)
    rw [List.map_map] at this
    exact this
  have h2' : SqL K H2 q (zs.map fun z => optV (figS z)) := sq_of h2
  refine q_when (et_is (et_test (ev_op ev_c (ev_var rfl) (rv_isL h2' rfl (nums_flat zs)))) (nums_none zs)) (fun hb H3 e3 => ?_) fun hb H3 e3 => ?_
  · refine s_retV ev_c (RetV.goV ?_ ((e1.trans e2).trans e3))
    cases hn : numsOf zs with
    | none => rw [rp, hn] at h; exact h
    | some ns => rw [hn] at hb; cases hb
  cases hn : numsOf zs with
  | none => rw [hn] at hb; cases hb
  | some ns =>
  rw [hn] at rp
  rw [nums_vals hn] at h2
  have e13 := (e1.trans e2).trans e3
  have h3 : SqL K H3 q (ns.map V.int) := sq_of (e3 q _ h2)
  have nl : ns.length ≤ 40000 := by
    rw [nums_len hn]
    exact hl
  refine q_when (et_is (et_test (ev_op (ev_var rfl) ev_c (rv_eq rfl))) wp) (fun hb H4 e4 => ?_) fun hb H4 e4 => ?_
  · have rp : madeL u zs x = pieceL ns x := by rw [rp]; exact if_pos (of_decide_eq_true hb)
    rw [rp] at h
    have h4 := ex_l e4 h3
    have e14 := e13.trans e4
    match ns, h4, h with
    | [n0, n1, n2, n3], h4, h =>
      refine q_when (b := decide (n3 > 1 ∨ (x.length : Int) ≠ n2)) (et_is (et_or (et_test (ev_op (ev_lenL (ev_var rfl) h4) ev_c (rv_ne rfl))) fun _ => et_or (et_test (ev_op (sq_ref (i := 3) (ev_var rfl) h4 rfl) ev_c rv_I0)) fun _ => et_test (ev_op (ev_lenS (ev_var rfl) (by omega)) (sq_ref (i := 2) (ev_var rfl) h4 rfl) (rv_ne rfl))) ?_) (fun hc H5 e5 => ?_) fun hc H5 e5 => ?_
      · rw [int_eqV, int_eqV]
        by_cases a1 : n3 > 1 <;> by_cases a2 : (x.length : Int) = n2 <;> simp [a1, a2]
      · have : pieceL [n0, n1, n2, n3] x = none := if_pos (of_decide_eq_true hc)
        rw [this] at h
        exact s_retV ev_c (RetV.goV (show RetV .non H Q from h) (e14.trans e5))
      · have : pieceL [n0, n1, n2, n3] x = some (.pc n0 n1 x (decide (n3 = 1))) := if_neg (of_decide_eq_false hc)
        rw [this] at h
        have h5 := ex_l e5 h4
        refine s_retR (d := Raw.data (.pc n0 n1 x (decide (n3 = 1)))) ?_ (RetN.go (show RetN K (Raw.data (.pc n0 n1 x (decide (n3 = 1)))) H Q from h) (e14.trans e5))
        exact en_tup (eu_tup (ea_cons ev_c (ea_cons (sq_ref (i := 0) (ev_var rfl) h5 rfl) (ea_cons (sq_ref (i := 1) (ev_var rfl) h5 rfl) (ea_cons (ev_var rfl) (ea_cons (ev_is (ev_op (sq_ref (i := 3) (ev_var rfl) h5 rfl) ev_c (rv_eq rfl)) (congrArg V.bl (int_eqV n3 1))) ea_nil))))) (by simp)) fun G => .cons (.str _) (.cons (.int _) (.cons (.int _) (.cons (.str _) (.cons (.bl _) .nil))))
    | [], h4, h => exact q_when (b := true) (et_is (et_or (a := true) (b := true) (et_test (ev_op (ev_lenL (ev_var rfl) h4) ev_c (rv_ne rfl))) fun z => by cases z) rfl) (fun hb H5 e5 => s_retV ev_c (RetV.goV (show RetV .non H Q from h) (e14.trans e5))) fun hb => by cases hb
    | [_], h4, h => exact q_when (b := true) (et_is (et_or (a := true) (b := true) (et_test (ev_op (ev_lenL (ev_var rfl) h4) ev_c (rv_ne rfl))) fun z => by cases z) rfl) (fun hb H5 e5 => s_retV ev_c (RetV.goV (show RetV .non H Q from h) (e14.trans e5))) fun hb => by cases hb
    | [_, _], h4, h => exact q_when (b := true) (et_is (et_or (a := true) (b := true) (et_test (ev_op (ev_lenL (ev_var rfl) h4) ev_c (rv_ne rfl))) fun z => by cases z) rfl) (fun hb H5 e5 => s_retV ev_c (RetV.goV (show RetV .non H Q from h) (e14.trans e5))) fun hb => by cases hb
    | [_, _, _], h4, h => exact q_when (b := true) (et_is (et_or (a := true) (b := true) (et_test (ev_op (ev_lenL (ev_var rfl) h4) ev_c (rv_ne rfl))) fun z => by cases z) rfl) (fun hb H5 e5 => s_retV ev_c (RetV.goV (show RetV .non H Q from h) (e14.trans e5))) fun hb => by cases hb
    | a0 :: a1 :: a2 :: a3 :: a4 :: l, h4, h =>
      have : decide (V.int (((a0 :: a1 :: a2 :: a3 :: a4 :: l).map V.int).length : Int) = V.int 4) = false := by
        rw [int_eqV, decide_eq_false]
        simp
        omega
      exact q_when (b := true) (et_is (et_or (a := true) (b := true) (et_test (ev_is (ev_op (ev_lenL (ev_var rfl) h4) ev_c (rv_ne rfl)) (by rw [this]; rfl))) fun z => by cases z) rfl) (fun hb H5 e5 => s_retV ev_c (RetV.goV (show RetV .non H Q from h) (e14.trans e5))) fun hb => by cases hb
  have np : u ≠ "piece" := of_decide_eq_false hb
  simp only [if_neg np] at rp
  refine q_when (et_is (et_test (ev_op (ev_var rfl) ev_c (rv_eq rfl))) wg) (fun hb H5 e5 => ?_) fun hb H5 e5 => ?_
  · have eg : u = "got" := of_decide_eq_true hb
    simp only [if_pos eg] at rp
    have h5 : SqL K H5 q (ns.map V.int) := ex_l (e4.trans e5) h3
    have e15 := (e13.trans e4).trans e5
    refine q_when (b := decide (ns.length / 2 * 2 ≠ ns.length)) (et_is (et_test (ev_op (ev_mod (ev_lenL (ev_var rfl) h5) ev_c (by decide)) ev_c (rv_eq rfl))) ?_) (fun hc H6 e6 => ?_) fun hc H6 e6 => ?_
    · rw [int_eqV, List.length_map]
      have : (ns.length : Int).fmod 2 = ((ns.length % 2 : Nat) : Int) := by
        rw [Int.fmod_eq_emod_of_nonneg _ (by decide)]
        rfl
      rw [this]
      exact decide_aux (by omega)
    · have : madeL u zs x = none := by rw [rp]; exact if_pos (of_decide_eq_true hc)
      rw [this] at h
      exact s_retV ev_c (RetV.goV (show RetV .non H Q from h) (e15.trans e6))
    · have : madeL u zs x = some (.gt (pairs ns)) := by rw [rp]; exact if_neg (of_decide_eq_false hc)
      rw [this] at h
      have h6 := ex_l e6 h5
      have ev : ns.length = 2 * (ns.length / 2) := by
        have := of_decide_eq_false hc
        omega
      refine s_retR (d := Raw.data (.gt (pairs ns))) ?_ (RetN.go (show RetN K (Raw.data (.gt (pairs ns))) H Q from h) (e15.trans e6))
      refine en_tupN (ds := [.str "got", .list ((pairs ns).map rowD)]) (ena_cons (en_flat ev_c fun _ => .str _) (ena_cons ?_ ena_nil)) (by simp)
      rw [← pairs_range (ns.length / 2) ns ev]
      refine en_lcR1 (fun i => rowD (ns.getD (2 * i) 0, ns.getD (2 * i + 1) 0)) (ea_cons (ev_fdiv (ev_lenL (ev_var rfl) h6) ev_c (by decide)) ea_nil) ?_ (by omega) (fun _ => rfl) fun i H7 e7 hi => ?_
      · rw [List.length_map, Int.fdiv_eq_ediv_of_nonneg _ (by decide)]
        rfl
      · have h7 := ex_l e7 h6
        have g0 : (ns.map V.int)[2 * i]? = some (.int (ns.getD (2 * i) 0)) := by
          rw [List.getElem?_map, List.getElem?_eq_getElem (by omega), List.getD_eq_getElem?_getD, List.getElem?_eq_getElem (by omega)]
          rfl
        have g1 : (ns.map V.int)[2 * i + 1]? = some (.int (ns.getD (2 * i + 1) 0)) := by
          rw [List.getElem?_map, List.getElem?_eq_getElem (by omega), List.getD_eq_getElem?_getD, List.getElem?_eq_getElem (by omega)]
          rfl
        exact en_tup (eu_tup (ea_cons (ev_op (ev_var rfl) (ev_is (ev_mulC ev_c (ev_var rfl) (.inl (by decide))) (w := .int ((2 * i : Nat) : Int)) (by push_cast; rfl)) (rv_ixL h7 (at_nat g0))) (ea_cons (ev_op (ev_var rfl) (ev_is (ev_op (ev_mulC ev_c (ev_var rfl) (.inl (by decide))) ev_c rv_I0) (w := .int ((2 * i + 1 : Nat) : Int)) (by push_cast; rfl)) (rv_ixL h7 (at_nat g1))) ea_nil)) (by simp)) fun G => .cons (.int _) (.cons (.int _) .nil)
  have ng : u ≠ "got" := of_decide_eq_false hb
  simp only [if_neg ng] at rp
  rw [rp] at h
  obtain ⟨_, hval⟩ := wn nc np ng
  refine q_disp lwords (by decide) fun r H6 hr6 e6 h6 => ?_
  have e16 := ((e13.trans e4).trans e5).trans e6
  refine s_retR (d := Raw.data (.nu u ns)) ?_ (RetN.go (show RetN K (Raw.data (.nu u ns)) H Q from h) e16)
  exact en_tup (K := K) (ds := .str u :: ns.map .int) (eu_cat (K := K) (eu_tup (ea_cons (ev_item (ev_var rfl) h6 (ev_var rfl) hval) ea_nil) (by simp)) (eu_tupOf (ev_var rfl) (ex_l ((e4.trans e5).trans e6) h3)) (by simp) (by rw [List.length_map]; simp; omega)) fun G => .cons (.str _) (ints_dp ns)
end
end Mk
set_option maxHeartbeats 4000000
/-! The law's step is the program's. -/
namespace Mk
open PySem PySem.Spec PyProof.Rows L2 Evl TL
def manyL (c : Nat) (zs : List Str) : Nat := if c = 112 ∧ zs.length = 4 then (match figS (zs.getD 2 "") with
  | some m => (min 65 m).toNat
  | none => 0) else 0
def stepLK (t : Str) (at_ k c : Nat) (x : Str) : Option (Raw × Nat) :=
  match madeL x (words t at_ k) (cutS t (some ((k : Int) + 1)) (some ((k : Int) + 1 + (manyL c (words t at_ k) : Int)))) with
  | none => none
  | some f => if (f.ok && decide (cutS t (some ((k : Int) + 1 + (manyL c (words t at_ k) : Int))) (some ((k : Int) + 2 + (manyL c (words t at_ k) : Int))) = ";")) = true then some (f, k + 2 + manyL c (words t at_ k)) else none
theorem tl_cut (t : Str) (a b : Nat) : tl (cutS t (some (a : Int)) (some (b : Int))) = ((tl t).drop a).take (b - a) := by
  have hn := len_tl t
  show ((tl t).drop (HT.sIx t.length 0 (some (a : Int)))).take (HT.sIx t.length t.length (some (b : Int)) - HT.sIx t.length 0 (some (a : Int))) = _
  rw [HT.sIx_nat, HT.sIx_nat]
  by_cases ha : a ≤ t.length
  · rw [Nat.min_eq_left ha]
    by_cases hb : b ≤ t.length
    · rw [Nat.min_eq_left hb]
    · rw [Nat.min_eq_right (by omega), List.take_of_length_le (by rw [List.length_drop]; omega), List.take_of_length_le (by rw [List.length_drop]; omega)]
  · rw [Nat.min_eq_right (show t.length ≤ a by omega), List.drop_eq_nil_of_le (show (tl t).length ≤ t.length by omega), List.drop_eq_nil_of_le (show (tl t).length ≤ a by omega)]
    simp
theorem tl_cut0 (t : Str) (b : Nat) : tl (cutS t none (some (b : Int))) = (tl t).take b := by
  have hn := len_tl t
  show ((tl t).drop 0).take (HT.sIx t.length t.length (some (b : Int)) - 0) = _
  rw [HT.sIx_nat, List.drop_zero, Nat.sub_zero]
  by_cases hb : b ≤ t.length
  · rw [Nat.min_eq_left hb]
  · rw [Nat.min_eq_right (by omega), List.take_of_length_le (by omega), List.take_of_length_le (by omega)]
theorem fig_pos {z : Str} {n : Int} (h : figS z = some n) : 0 ≤ n ∧ n ≤ 1000000000000 := by
  unfold figS at h
  split at h
  · rename_i hb
    cases h
    unfold figB at hb
    simp at hb
    omega
  · cases h
theorem fig_back {z : Str} {n : Nat} (h : figS z = some (n : Int)) : z = Str.ofString (toString (n : Int)) := by
  have h0 := h
  unfold figS at h
  split at h
  · rename_i hb
    have hn : NumText.digitsVal (tl z) = n := by
      have := Option.some.inj h
      omega
    unfold figB at hb
    simp only [Bool.and_eq_true, decide_eq_true_eq] at hb
    obtain ⟨h1, h13, hd, hz, _⟩ := hb
    apply ext_tl
    rw [tl_num, ← hn]
    have had : NumText.AllDigits (tl z) := fun c hc => dg_of (List.all_eq_true.mp hd c hc)
    have hne : ∃ c r, tl z = c :: r := by
      have := len_tl z
      cases h : tl z with
      | nil => rw [h] at this; simp at this; omega
      | cons c r => exact ⟨c, r, rfl⟩
    obtain ⟨c, r, ecr⟩ := hne
    have hlead : r.length = 0 ∨ ∃ c' r', tl z = c' :: r' ∧ 49 ≤ c' := by
      by_cases hc : c = 48
      · subst hc
        rw [ecr] at hz
        have e0 : z = "0" := by simpa using hz
        left
        have := congrArg tl e0
        rw [ecr, show tl ("0" : Str) = [48] by decide +kernel] at this
        cases this
        rfl
      · right
        have := had c (by rw [ecr]; exact List.mem_cons_self ..)
        exact ⟨c, r, ecr, by omega⟩
    have td := NumText.toDigits_digitsVal r.length (tl z) (by rw [ecr]; rfl) had hlead
    unfold numL
    rw [td, List.map_map]
    have : ∀ l : List Nat, NumText.AllDigits l → l.map (Char.toNat ∘ Char.ofNat) = l := fun l hl => by
      induction l with
      | nil => rfl
      | cons a l ih =>
        rw [List.map_cons, ih hl.tail]
        have := hl.head
        have : ∀ a, 48 ≤ a ∧ a ≤ 57 → (Char.ofNat a).toNat = a := fun a h => by
          have d : a = 48 ∨ a = 49 ∨ a = 50 ∨ a = 51 ∨ a = 52 ∨ a = 53 ∨ a = 54 ∨ a = 55 ∨ a = 56 ∨ a = 57 := by omega
          rcases d with rfl | rfl | rfl | rfl | rfl | rfl | rfl | rfl | rfl | rfl <;> decide
        rw [Function.comp, this a hl.head]
    exact (this _ had).symm
  · cases h
theorem say_iff {z : Str} {n : Int} {m : Nat} (h : figS z = some n) : Str.ofString (toString (m : Int)) = z ↔ (m : Int) = n := by
  obtain ⟨n', rfl⟩ : ∃ n' : Nat, n = (n' : Int) := ⟨n.toNat, by have := (fig_pos h).1; omega⟩
  rw [fig_back h]
  constructor
  · intro e
    have := congrArg tl e
    rw [tl_num, tl_num] at this
    rw [numL_inj this]
  · intro e
    rw [e]
theorem nums_at : ∀ {zs : List Str} {ns : List Int} {i : Nat} {n : Int}, numsOf zs = some ns → ns[i]? = some n → ∃ z, zs[i]? = some z ∧ figS z = some n
  | [], ns, i, n, h, hi => by cases h; simp at hi
  | z :: r, ns, i, n, h, hi => by
    unfold numsOf at h
    cases h1 : figS z with
    | none => rw [h1] at h; cases h
    | some k =>
      cases h2 : numsOf r with
      | none => rw [h1, h2] at h; cases h
      | some m =>
        rw [h1, h2] at h
        cases h
        cases i with
        | zero =>
          cases hi
          exact ⟨z, rfl, h1⟩
        | succ i => exact nums_at (i := i) h2 hi
theorem raw_made {x : Str} {zs : List Str} {rest y : Str} (h : x ≠ "piece") : rawP x zs rest = madeL x zs y := by
  unfold rawP madeL
  split
  · rfl
  · cases numsOf zs with
    | none => rfl
    | some ns => simp only [if_neg h]
theorem many_np {c : Nat} {x : Str} {zs : List Str} (h : wordOf c = some x) (hx : x ≠ "piece") : manyL c zs = 0 := by
  unfold manyL
  rw [if_neg]
  rintro ⟨rfl, _⟩
  have : wordOf 112 = some "piece" := by decide +kernel
  rw [this] at h
  exact hx (Option.some.inj h).symm
theorem cut_len (t : Str) (a b : Nat) : (cutS t (some (a : Int)) (some (b : Int))).length ≤ b - a := by
  rw [len_tl, tl_cut, List.length_take]
  omega
theorem step_same {c : Nat} {x : Str} (t : Str) (at_ k : Nat) (h : wordOf c = some x) : stepK t at_ k x = stepLK t at_ k c x := by
  by_cases hx : x = "piece"
  · have hc : c = 112 := by
      have hm := word_mem h
      simp only [wtab, List.mem_cons, Prod.mk.injEq, List.not_mem_nil, or_false] at hm
      rcases hm with ⟨rfl, e⟩ | ⟨rfl, e⟩ | ⟨rfl, e⟩ | ⟨rfl, e⟩ | ⟨rfl, e⟩ | ⟨rfl, e⟩ | ⟨rfl, e⟩ | ⟨rfl, e⟩ | ⟨rfl, e⟩
      · rfl
      all_goals (rw [hx] at e; exact absurd e (by decide +kernel))
    subst hx hc
    unfold stepK stepLK
    generalize words t at_ k = zs
    unfold rawP madeL
    rw [if_neg (by decide +kernel), if_neg (by decide +kernel)]
    cases hn : numsOf zs with
    | none => rfl
    | some ns =>
      simp only [if_true]
      by_cases h4 : ∃ a b m l, ns = [a, b, m, l]
      · obtain ⟨a, b, m, l, rfl⟩ := h4
        obtain ⟨z, hz2, hfz⟩ := nums_at (i := 2) hn rfl
        have zl : zs.length = 4 := by rw [← nums_len hn]; rfl
        obtain ⟨mn, rfl⟩ : ∃ mn : Nat, m = (mn : Int) := ⟨m.toNat, by have := (fig_pos hfz).1; omega⟩
        have em : manyL 112 zs = min 65 mn := by
          unfold manyL
          rw [if_pos ⟨rfl, zl⟩, List.getD_eq_getElem?_getD, hz2]
          show (match figS z with | some m => (min 65 m).toNat | none => 0) = _
          rw [hfz]
          show (min 65 (mn : Int)).toNat = _
          omega
        rw [em]
        unfold pieceP pieceL
        by_cases hl : l > 1
        · simp only [if_pos hl, if_pos (show l > 1 ∨ _ from .inl hl)]
        · simp only [if_neg hl]
          have hs : ∀ y l', sayB (.pc a b y l') zs = decide ((y.length : Int) = (mn : Int)) := fun y l' => by
            show (match zs[2]? with | some z => decide (Str.ofString (toString (y.length : Int)) = z) | none => false) = _
            rw [hz2]
            exact decide_aux (say_iff hfz)
          -- the letters
          have ex : ∀ n : Nat, cutS t (some ((k : Int) + 1)) (some ((k : Int) + 1 + (n : Int))) = cutS t (some ((k + 1 : Nat) : Int)) (some ((k + 1 + n : Nat) : Int)) := fun n => by push_cast; rfl
          have e64 := ex 64
          have e64' : cutS t (some ((k : Int) + 1)) (some ((k : Int) + 1 + 64)) = cutS t (some ((k + 1 : Nat) : Int)) (some ((k + 1 + 64 : Nat) : Int)) := e64
          rw [e64', ex (min 65 mn)]
          by_cases h64 : mn ≤ 64
          · have e1 : min 65 mn = mn := by omega
            rw [e1]
            have exx : cutS (cutS t (some ((k + 1 : Nat) : Int)) (some ((k + 1 + 64 : Nat) : Int))) none (some (mn : Int)) = cutS t (some ((k + 1 : Nat) : Int)) (some ((k + 1 + mn : Nat) : Int)) := by
              apply ext_tl
              rw [tl_cut0, tl_cut, tl_cut, List.take_take]
              congr 1
              omega
            rw [exx]
            generalize cutS t (some ((k + 1 : Nat) : Int)) (some ((k + 1 + mn : Nat) : Int)) = y
            by_cases hy : (y.length : Int) = (mn : Int)
            · rw [if_neg (show ¬ (l > 1 ∨ (y.length : Int) ≠ (mn : Int)) by rintro (q | q); exact hl q; exact q hy)]
              simp only [hs, decide_eq_true hy, Bool.true_and]
              have ey : ltrs (.pc a b y (decide (l = 1))) = mn := by
                show y.length = mn
                omega
              rw [ey]
              have c1 : (k : Int) + 1 + (mn : Int) + 1 = (k : Int) + 2 + (mn : Int) := by omega
              have c2 : k + 1 + mn + 1 = k + 2 + mn := by omega
              rw [c1, c2]
            · rw [if_pos (show l > 1 ∨ (y.length : Int) ≠ (mn : Int) from .inr hy)]
              simp only [hs, decide_eq_false hy, Bool.false_and, Bool.and_false]
              rfl
          · have e1 : min 65 mn = 65 := by omega
            rw [e1]
            have l1 : (cutS (cutS t (some ((k + 1 : Nat) : Int)) (some ((k + 1 + 64 : Nat) : Int))) none (some (mn : Int))).length ≤ 64 := by
              have h1 := cutS_length (cutS t (some ((k + 1 : Nat) : Int)) (some ((k + 1 + 64 : Nat) : Int))) none (some (mn : Int))
              have h2 := cut_len t (k + 1) (k + 1 + 64)
              omega
            generalize cutS (cutS t (some ((k + 1 : Nat) : Int)) (some ((k + 1 + 64 : Nat) : Int))) none (some (mn : Int)) = y at l1
            simp only [hs, decide_eq_false (show ¬ (y.length : Int) = (mn : Int) by omega), Bool.false_and, Bool.and_false]
            have l2 := cut_len t (k + 1) (k + 1 + 65)
            generalize cutS t (some ((k + 1 : Nat) : Int)) (some ((k + 1 + 65 : Nat) : Int)) = y' at l2
            by_cases hy : (y'.length : Int) = (mn : Int)
            · rw [if_neg (show ¬ (l > 1 ∨ (y'.length : Int) ≠ (mn : Int)) by rintro (q | q); exact hl q; exact q hy)]
              have : Raw.ok (.pc a b y' (decide (l = 1))) = false := by
                show pieceB _ _ _ _ = false
                unfold pieceB
                rw [decide_eq_false (show ¬ y'.length ≤ 64 by omega)]
                simp
              simp only [this, Bool.false_and]
              rfl
            · rw [if_pos (show l > 1 ∨ (y'.length : Int) ≠ (mn : Int) from .inr hy)]
              rfl
      · have p1 : ∀ rest, pieceP ns rest = none := fun rest => by
          unfold pieceP
          split
          · exact absurd ⟨_, _, _, _, rfl⟩ h4
          · rfl
        have p2 : ∀ y, pieceL ns y = none := fun y => by
          unfold pieceL
          split
          · exact absurd ⟨_, _, _, _, rfl⟩ h4
          · rfl
        rw [p1, p2]
  · unfold stepK stepLK
    rw [many_np h hx, raw_made (y := cutS t (some ((k : Int) + 1)) (some ((k : Int) + 1 + ((0 : Nat) : Int)))) hx]
    cases hm : madeL x (words t at_ k) (cutS t (some ((k : Int) + 1)) (some ((k : Int) + 1 + ((0 : Nat) : Int)))) with
    | none => rfl
    | some f =>
      rw [← raw_made (rest := "") hx] at hm
      have hf : ltrs f = 0 ∧ ∀ zs, sayB f zs = true := by
        unfold rawP at hm
        split at hm
        · cases hm
          exact ⟨rfl, fun _ => rfl⟩
        · cases hn : numsOf (words t at_ k) with
          | none => rw [hn] at hm; cases hm
          | some ns =>
            rw [hn] at hm
            simp only [if_neg hx] at hm
            split at hm
            · split at hm
              · cases hm
              · cases hm
                exact ⟨rfl, fun _ => rfl⟩
            · cases hm
              exact ⟨rfl, fun _ => rfl⟩
      simp only [hf.1, hf.2, Bool.true_and]
      have c1 : (k : Int) + 1 + ((0 : Nat) : Int) + 1 = (k : Int) + 2 + ((0 : Nat) : Int) := by omega
      rw [c1]
end Mk
set_option maxHeartbeats 4000000
/-! The law: all frames of a text, the walk. -/
namespace Mk
open PySem PySem.Spec PyProof.Rows L2 Evl TL
theorem letters9 : ("pgcwrqnex" : Str).cps.toList = [112, 103, 99, 119, 114, 113, 110, 101, 120] := by decide +kernel
theorem word_some (c : Nat) : decide (c ∈ ("pgcwrqnex" : Str).cps.toList) = (wordOf c).isSome := by
  rw [letters9]
  cases h : wordOf c with
  | some x =>
    have hm := word_mem h
    simp only [wtab, List.mem_cons, Prod.mk.injEq, List.not_mem_nil, or_false] at hm
    rcases hm with ⟨rfl, e⟩ | ⟨rfl, e⟩ | ⟨rfl, e⟩ | ⟨rfl, e⟩ | ⟨rfl, e⟩ | ⟨rfl, e⟩ | ⟨rfl, e⟩ | ⟨rfl, e⟩ | ⟨rfl, e⟩ <;> (show _ = true; decide)
  | none =>
    apply decide_eq_false
    intro hm
    simp only [List.mem_cons, List.not_mem_nil, or_false] at hm
    rcases hm with rfl | rfl | rfl | rfl | rfl | rfl | rfl | rfl | rfl <;> exact absurd h (by decide +kernel)
theorem retO_none {K : PySem.W.Frag} {H : Hp} {Q : VK} (h : RetV .non H Q) : RetO K none H Q := h
theorem retO_some {K : PySem.W.Frag} {H : Hp} {Q : VK} {f : Raw} (h : RetN K f.data H Q) : RetO K (some f) H Q := h
theorem q_asgC {σ : L2.St} {H : Hp} {D : Ends} {tz : TS} {i : Nat} {sp : Sp} {E : XK} {ta : TA} {vs : List V} (h : EvA ta σ H vs) (k : ∀ H1, Ex H H1 → sp (vs ++ []) H1 (fun v H2 => tz D (σ.set i (some v)) H2) E) : tSeq (tAsg (tCall sp [] E ta) (gName i)) tz D σ H := h H (Ex.refl H) _ k
theorem made_fit {x : Str} {zs : List Str} {y : Str} {f : Raw} (hx : Wd x) (h : madeL x zs y = some f) (h1 : zs.length ≤ 10000) (h2 : ∀ z ∈ zs, z.length ≤ 40000) (h3 : y.length ≤ 40000) : f.fit := by
  by_cases hp : x = "piece"
  · subst hp
    unfold madeL at h
    rw [if_neg (by decide +kernel)] at h
    cases hn : numsOf zs with
    | none => rw [hn] at h; cases h
    | some ns =>
      rw [hn] at h
      simp only [if_true] at h
      unfold pieceL at h
      split at h
      · split at h
        · cases h
        · cases h
          exact h3
      · cases h
  · rw [← raw_made (rest := "") hp] at h
    exact rawP_fit hx h h1 h2 (by decide +kernel)
section
variable {P : Program} {w : World} {K : PySem.W.Frag} {mg : Str → Option Value} {base : Heap} {k : Nat} {σ : L2.St} {H : Hp} {te tb : TE}
variable {D : Ends} {tz tu : TS}
def spFramesIn (K : PySem.W.Frag) : Sp := fun vs H Q _ => ∃ t : Str, vs = [.str t] ∧ t.length ≤ 9000 ∧ (∀ fs, parse t = some fs → RetN K (framesD fs) H Q) ∧ (parse t = none → RetV .non H Q)
theorem okLawFramesIn (D : DefAt K mg "_law_frames_in" sLawFramesIn) (T : Tx K mg) (GLawFigures : Cal P w K mg base CX0 1 "_law_figures" ["_law_word_here"] spFigures) (GLawMade : Cal P w K mg base CX0 2 "_law_made" ["_law_letter", "_law_parts", "_law_letters_here"] (spMade K))
    (GLawIs : Cal P w K mg base CX0 4 "_law_is" ["_law_thing"] (spFrame K)) : Cal P w K mg base CX0 5 "_law_frames_in" ["_law_text"] (spFramesIn K) := by
  refine cal_of D scLawFramesIn (fun _ _ _ _ _ _ us hl => match us, hl with | [_], _ => rfl) (fun vs H Q E ⟨v, e, _⟩ => by rw [e]; rfl) fun f cdv A outer s H vs Q E hr h => ?_
  obtain ⟨t, rfl, hl, hy, hn⟩ := h
  refine ⟨_, ((pss_cons (ps_set (i := 1) scLawFramesIn.nd rfl (Or.inl rfl) (pe_lst pa_nil))
      (pss_cons (ps_set (i := 2) scLawFramesIn.nd rfl (Or.inl rfl) pe_int)
      (pss_cons (ps_while (passes_of rfl) (pt_cmpR op_lt (pv 2) (pe_callB call_len (by rfl) T.b_len (by decide +kernel) (pa_cons (pv 0) pa_nil)) (nomark _)) (pss_cons (ps_set (i := 3) scLawFramesIn.nd rfl (Or.inl rfl) (pe_bm PySem.F.plainAttrs_str PySem.F.slot_str_find PySem.F.type_str_find mt_find3 (pv 0) (pa_cons pe_str (pa_cons (pv 2) pa_nil))))
      (pss_cons (ps_if (PW.pt (pw_or (pt_cmpR op_lt (pv 3) pe_int (nomark _)) (pw_or1 (pt_cmpR op_notIn_sign (pe_ix ix_str (pv 0) (pv 2) (fun _ _ => rfl)) pe_str rfl)))) (pss_one (ps_ret pe_non)) pss_nil)
      (pss_cons (ps_set (i := 4) scLawFramesIn.nd rfl (Or.inl rfl) (pe_bm PySem.F.plainAttrs_str PySem.F.slot_str_split PySem.F.type_str_split mt_split (pe_slice sl_str (pv 0) (po_some (pe_op op_add (pv 2) pe_int)) (po_some (pv 3))) (pa_cons pe_str pa_nil)))
      (pss_cons (ps_set (i := 5) scLawFramesIn.nd rfl (Or.inl rfl) pe_int)
      (pss_cons (ps_if (PW.pt (pw_and (pt_cmpR op_eq (pe_ix ix_str (pv 0) (pv 2) (fun _ _ => rfl)) pe_str (nomark _)) (pw_and (pt_cmpR op_eq (pe_callB call_len (by rfl) T.b_len (by decide +kernel) (pa_cons (pv 4) pa_nil)) pe_int (nomark _)) (pw_and1 (pt_cmpR op_notN (pe_cal GLawFigures (hr.mono (by decide)) rfl pass0 (pa_cons (pe_ix ix_list (pv 4) pe_int (fun _ _ => rfl)) pa_nil)) pe_non (nomark _)))))) (pss_one (ps_set (i := 5) scLawFramesIn.nd rfl (Or.inl rfl) (pe_callB (call_min2 rfl) (by rfl) T.b_min (by decide +kernel) (pa_cons pe_int (pa_cons (pe_cal GLawFigures (hr.mono (by decide)) rfl pass0 (pa_cons (pe_ix ix_list (pv 4) pe_int (fun _ _ => rfl)) pa_nil)) pa_nil))))) pss_nil)
      (pss_cons (ps_set (i := 6) scLawFramesIn.nd rfl (Or.inl rfl) (pe_cal GLawMade (hr.mono (by decide)) rfl pass0 (pa_cons (pe_ix ix_str (pv 0) (pv 2) (fun _ _ => rfl)) (pa_cons (pv 4) (pa_cons (pe_slice sl_str (pv 0) (po_some (pe_op op_add (pv 3) pe_int)) (po_some (pe_op op_add (pe_op op_add (pv 3) pe_int) (pv 5)))) pa_nil)))))
      (pss_cons (ps_if (PW.pt (pw_or (pt_cmpR op_isN (pv 6) pe_non (nomark _)) (pw_or (pt_not (pt_val (pe_cal GLawIs (hr.mono (by decide)) rfl pass0 (pa_cons (pv 6) pa_nil)))) (pw_or1 (pt_cmpR op_ne (pe_slice sl_str (pv 0) (po_some (pe_op op_add (pe_op op_add (pv 3) pe_int) (pv 5))) (po_some (pe_op op_add (pe_op op_add (pv 3) pe_int) (pv 5)))) pe_str (nomark _)))))) (pss_one (ps_ret pe_non)) pss_nil)
      (pss_cons (ps_expr (pe_bm PySem.F.plainAttrs_list PySem.F.slot_list_append PySem.F.type_list_append mt_append (pv 1) (pa_cons (pv 6) pa_nil)))
      (pss_one (ps_set (i := 2) scLawFramesIn.nd rfl (Or.inl rfl) (pe_op op_add (pe_op op_add (pv 3) pe_int) (pv 5)))))))))))))
      (pss_one (ps_ret (pv 1))))))), ?_⟩
  refine q_asgL (el_lst ea_nil (by simp)) fun q H1 hqH e1 h1 => ?_
  refine q_asg ev_c fun H2 e2 => ?_
  refine q_while (fun m σ' H' => ∃ (at_ : Nat) (acc : List Raw) (x3 x4 x5 x6 : Option V), σ' = [some (.str t), some (.ref q), some (.int (at_ : Int)), x3, x4, x5, x6] ∧ Grows K H q (acc.map Raw.data) H' ∧ t.length < at_ + m ∧ acc.length + m ≤ t.length + 1 ∧ parse t = (runF (stepP t) t.length m at_).map (acc ++ ·)) (t.length + 1)
    ⟨0, [], _, _, _, _, rfl, grows_nil hqH (e1.trans e2) (e2 q _ h1), by omega, by simp, by unfold parse; cases runF (stepP t) t.length (t.length + 1) 0 <;> simp⟩ ?_
  intro m σ' H' ⟨at_, acc, x3, x4, x5, x6, eσ, gr, hm, hacc, hp⟩
  subst eσ
  refine ⟨decide ((at_ : Int) < (t.length : Int)), et_test (ev_op (ev_var rfl) (ev_lenS (ev_var rfl) (by omega)) rv_I0), fun hb H3 e3 => ?_, fun hb H3 e3 => ?_⟩
  rotate_left
  · refine s_ret (ev_var rfl) fun H4 e4 => hy acc ?_ _ H4 ((gr.ex.trans e3).trans e4) ((gr.on e3).on e4).done
    rw [hp, runF_end (by have := of_decide_eq_false hb; omega)]
    simp
  have lt : at_ < t.length := by
    have := of_decide_eq_true hb
    omega
  cases m with
  | zero => omega
  | succ m =>
  rw [runF_step lt] at hp
  obtain ⟨c, hc⟩ : ∃ c, (tl t)[at_]? = some c := by
    rw [List.getElem?_eq_getElem (by rw [← len_tl]; exact lt)]
    exact ⟨_, rfl⟩
  refine ⟨fun σ2 H2 => ∃ m', m' < m + 1 ∧ ∃ (at_ : Nat) (acc : List Raw) (x3 x4 x5 x6 : Option V), σ2 = [some (.str t), some (.ref q), some (.int (at_ : Int)), x3, x4, x5, x6] ∧ Grows K H q (acc.map Raw.data) H2 ∧ t.length < at_ + m' ∧ acc.length + m' ≤ t.length + 1 ∧ parse t = (runF (stepP t) t.length m' at_).map (acc ++ ·), fun σ2 H2 z => z, ?_⟩
  have e03 := gr.ex.trans e3
  have no : stepP t at_ = none → ∀ H2, Ex H H2 → Q .non H2 := fun h => hn (by rw [hp, h]; rfl)
  have st0 : stepP t at_ = if Txt.find3 t ":" (at_ : Int) < 0 then none else match wordOf c with
    | none => none
    | some x => stepK t at_ (Txt.find3 t ":" (at_ : Int)).toNat x := by
    unfold stepP
    rw [hc] <;> rfl
  refine q_asg (ev_find3 (ev_var rfl) ev_c (ev_var rfl)) fun H4 e4 => ?_
  have e04 := e03.trans e4
  refine q_when (b := decide (Txt.find3 t ":" (at_ : Int) < 0) || !(wordOf c).isSome) (et_or (et_test (ev_op (ev_var rfl) ev_c rv_I0)) fun _ => et_is (et_test (ev_op (ev_op (ev_var rfl) (ev_var rfl) (rv_ixS (by omega) (at_nat hc))) ev_c rv_notInSg)) (by rw [word_some])) (fun hb H5 e5 => ?_) fun hb H5 e5 => ?_
  · refine s_ret ev_c fun H6 e6 => no ?_ H6 ((e04.trans e5).trans e6)
    rw [st0]
    by_cases hneg : Txt.find3 t ":" (at_ : Int) < 0
    · rw [if_pos hneg]
    · rw [if_neg hneg]
      rw [decide_eq_false hneg, Bool.false_or] at hb
      cases hw : wordOf c with
      | none => rfl
      | some x => rw [hw] at hb; cases hb
  rw [Bool.or_eq_false_iff] at hb
  obtain ⟨hneg, hw⟩ := hb
  have hneg := of_decide_eq_false hneg
  rw [if_neg hneg] at st0
  obtain ⟨k, ek, k1, k2⟩ := find_ge hneg
  rw [ek, show ((k : Int)).toNat = k from rfl] at st0
  rw [ek]
  cases hx : wordOf c with
  | none => rw [hx] at hw; cases hw
  | some x =>
  rw [hx] at st0
  have st0 : stepP t at_ = stepLK t at_ k c x := by rw [← step_same t at_ k hx]; exact st0
  have e05 := e04.trans e5
  have hcl : (cutS t (some ((at_ : Int) + 1)) (some (k : Int))).length + 2 ≤ 100000 := by
    have := cutS_length t (some ((at_ : Int) + 1)) (some (k : Int))
    omega
  refine q_asgL (xs := (words t at_ k).map V.str) (el_split (ev_slS (ev_var rfl) (eo_some (ev_op (ev_var rfl) ev_c rv_I0)) (eo_some (ev_var rfl)) (by omega)) ev_c comma_ok hcl) fun pw H7 hpw e7 h7 => ?_
  have e07 := e05.trans e7
  have wl := words_len t at_ k
  refine q_asg ev_c fun H8 e8 => ?_
  have h8 : SqL K H8 pw ((words t at_ k).map V.str) := sq_of (e8 pw _ h7)
  have hfig : ∀ {σ : L2.St} {H9 : Hp} {z : Str}, Ex H8 H9 → (words t at_ k)[2]? = some z → σ[4]? = some (some (.ref pw)) → Ev (tCall spFigures [] E0 (tCons (tOp (rIxL K) (tVar 4) (tC (.int 2))) tNil)) σ H9 (optV (figS z)) := fun {σ H9 z} ex hz hσ =>
    ev_call (ea_cons (sq_ref (i := 2) (ev_var hσ) (ex_l ex h8) (by rw [List.getElem?_map, hz]; rfl)) ea_nil) fun H1 e Q q E => ⟨z, rfl, by have := wl.2 z (List.mem_of_getElem? hz); omega, fun H2 e2 => q H2 e2⟩
  have emany : manyL c (words t at_ k) = if (decide (c = 112) && (decide ((words t at_ k).length = 4) && (match (words t at_ k)[2]? with | some z => (figS z).isSome | none => false))) = true then manyL c (words t at_ k) else 0 := by
    by_cases hq : (decide (c = 112) && (decide ((words t at_ k).length = 4) && (match (words t at_ k)[2]? with | some z => (figS z).isSome | none => false))) = true
    · rw [if_pos hq]
    · rw [if_neg hq]
      unfold manyL
      by_cases hyes : c = 112 ∧ (words t at_ k).length = 4
      · rw [if_pos hyes]
        obtain ⟨rfl, h4⟩ := hyes
        obtain ⟨z, hz⟩ : ∃ z, (words t at_ k)[2]? = some z := by
          rw [List.getElem?_eq_getElem (by omega)]
          exact ⟨_, rfl⟩
        rw [List.getD_eq_getElem?_getD, hz]
        simp only [hz, decide_eq_true h4] at hq
        show (match figS z with | some m => (min 65 m).toNat | none => 0) = 0
        cases hf : figS z with
        | none => rfl
        | some n => rw [hf] at hq; simp at hq
      · rw [if_neg hyes]
  refine q_ifAsg (v := .int (manyL c (words t at_ k) : Int)) (b := decide (c = 112) && (decide ((words t at_ k).length = 4) && (match (words t at_ k)[2]? with | some z => (figS z).isSome | none => false))) (et_and (et_is (et_test (ev_op (ev_op (ev_var rfl) (ev_var rfl) (rv_ixS (by omega) (at_nat hc))) ev_c (rv_eq rfl))) (sg0 c "p" 112 (by decide +kernel))) fun _ => et_and (et_is (et_test (ev_op (ev_lenL (ev_var rfl) h8) ev_c (rv_eq rfl))) (by rw [List.length_map]; exact nat_eqV (b := 4))) fun h4 => ?_) (fun hb => ?_) (fun hb => ?_) fun H9 e9 => ?_
  · have h4 := of_decide_eq_true h4
    obtain ⟨z, hz⟩ : ∃ z, (words t at_ k)[2]? = some z := by
      rw [List.getElem?_eq_getElem (by omega)]
      exact ⟨_, rfl⟩
    refine et_is (et_test (ev_op (hfig (Ex.refl H8) hz rfl) ev_c fun H1 _ _ q => ⟨rfl, q H1 (Ex.refl H1)⟩)) ?_
    simp only [hz]
    cases figS z <;> rfl
  · simp only [Bool.and_eq_true, decide_eq_true_eq] at hb
    obtain ⟨rfl, h4, h5⟩ := hb
    obtain ⟨z, hz⟩ : ∃ z, (words t at_ k)[2]? = some z := by
      rw [List.getElem?_eq_getElem (by omega)]
      exact ⟨_, rfl⟩
    simp only [hz] at h5
    cases hf : figS z with
    | none => rw [hf] at h5; cases h5
    | some n =>
      have hF := hfig (σ := [some (.str t), some (.ref q), some (.int (at_ : Int)), some (.int (k : Int)), some (.ref pw), some (.int 0), x6]) (Ex.refl H8) hz rfl
      rw [hf] at hF
      refine ev_is (ev_cb (ea_cons ev_c (ea_cons hF ea_nil)) fun H1 e Q q => ⟨65, n, rfl, q H1 (Ex.refl H1)⟩) ?_
      apply congrArg V.int
      have := fig_pos hf
      have em : manyL 112 (words t at_ k) = (min 65 n).toNat := by
        unfold manyL
        rw [if_pos ⟨rfl, h4⟩, List.getD_eq_getElem?_getD, hz]
        show (match figS z with | some m => (min 65 m).toNat | none => 0) = _
        rw [hf]
      rw [em]
      split <;> omega
  · rw [emany, hb]
    rfl
  have e09 := (e07.trans e8).trans e9
  have hmz : (cutS t (some ((k : Int) + 1)) (some ((k : Int) + 1 + (manyL c (words t at_ k) : Int)))).length ≤ 40000 := by
    have := cutS_length t (some ((k : Int) + 1)) (some ((k : Int) + 1 + (manyL c (words t at_ k) : Int)))
    omega
  refine q_asgC (ea_cons (ev_op (ev_var rfl) (ev_var rfl) (rv_ixS (by omega) (at_nat hc))) (ea_cons (ev_var rfl) (ea_cons (ev_slS (ev_var rfl) (eo_some (ev_op (ev_var rfl) ev_c rv_I0)) (eo_some (ev_op (ev_op (ev_var rfl) ev_c rv_I0) (ev_var rfl) rv_I0)) (by omega)) ea_nil))) fun H10 e10 => ?_
  have e010 := e09.trans e10
  refine ⟨c, x, pw, words t at_ k, _, rfl, hx, ex_l (e9.trans e10) h8, by omega, fun z hz => by have := wl.2 z hz; omega, hmz, ?_⟩
  cases hmade : madeL x (words t at_ k) (cutS t (some ((k : Int) + 1)) (some ((k : Int) + 1 + (manyL c (words t at_ k) : Int)))) with
  | none =>
    refine retO_none fun H11 e11 => ?_
    refine q_when (b := true) (et_or (a := true) (b := true) (et_test (ev_op (ev_var rfl) ev_c fun H1 _ _ q => ⟨rfl, q H1 (Ex.refl H1)⟩)) fun z => by cases z) (fun _ H12 e12 => ?_) fun z => by cases z
    refine s_ret ev_c fun H13 e13 => no ?_ H13 (((e010.trans e11).trans e12).trans e13)
    rw [st0, stepLK, hmade]
  | some f =>
    have st1 : stepP t at_ = if (f.ok && decide (cutS t (some ((k : Int) + 1 + (manyL c (words t at_ k) : Int))) (some ((k : Int) + 2 + (manyL c (words t at_ k) : Int))) = ";")) = true then some (f, k + 2 + manyL c (words t at_ k)) else none := by
      rw [st0, stepLK, hmade]
    refine retO_some fun v H11 e11 hd => ?_
    obtain ⟨pv, xs, rfl, _, _⟩ := dp_tup hd.dp
    have wd := word_wd hx
    have fit : f.fit := made_fit wd hmade (by omega) (fun z hz => by have := wl.2 z hz; omega) hmz
    refine q_when (b := !f.ok || !decide (cutS t (some ((k : Int) + 1 + (manyL c (words t at_ k) : Int))) (some ((k : Int) + 2 + (manyL c (words t at_ k) : Int))) = ";")) (et_is (et_or (a := false) (et_test (ev_op (ev_var rfl) ev_c fun H1 _ _ q => ⟨rfl, q H1 (Ex.refl H1)⟩)) fun _ => et_or (et_not (et_B (call_dp (fun H1 Q E hd k => ⟨_, f, rfl, hd, fit, k⟩) (ev_var rfl) hd.dp))) fun _ => et_strNe (ev_slS (ev_var rfl) (eo_some (ev_op (ev_op (ev_var rfl) ev_c rv_I0) (ev_var rfl) rv_I0)) (eo_some (ev_op (ev_op (ev_var rfl) ev_c rv_I0) (ev_var rfl) rv_I0)) (by omega)) ev_c) (Bool.false_or _)) (fun hb H12 e12 => ?_) fun hb H12 e12 => ?_
    · refine s_ret ev_c fun H13 e13 => no ?_ H13 (((e010.trans e11).trans e12).trans e13)
      rw [st1, if_neg]
      intro hc
      rw [Bool.and_eq_true] at hc
      rw [hc.1, hc.2] at hb
      cases hb
    rw [Bool.or_eq_false_iff] at hb
    have b1 : f.ok = true := by simpa using hb.1
    have b2 : decide (cutS t (some ((k : Int) + 1 + (manyL c (words t at_ k) : Int))) (some ((k : Int) + 2 + (manyL c (words t at_ k) : Int))) = ";") = true := by simpa using hb.2
    rw [b1, b2] at st1
    have st1 : stepP t at_ = some (f, k + 2 + manyL c (words t at_ k)) := st1
    have e1012 : Ex H10 H12 := e11.trans e12
    have e310 : Ex H' H10 := ((((((e3.trans e4).trans e5).trans e7).trans e8).trans e9).trans e10)
    have g10 := gr.on e310
    obtain ⟨accv, hq10, lq⟩ := g10.seq
    refine q_app (e1012 q _ hq10) (ev_var rfl) (ev_var rfl) (by rw [lq, List.length_map]; omega) fun H15 e15 => ?_
    have g15 : Grows K H q ((acc ++ [f]).map Raw.data) (upd H15 q (.lst (accv ++ [V.ref pv]))) := by
      rw [List.map_append]
      exact g10.more hq10 (hd.wide (Ex.refl H10) (e12.trans e15)) (e1012.trans e15)
    refine s_asg (ev_op (ev_op (ev_var rfl) ev_c rv_I0) (ev_var rfl) rv_I0) fun H16 e16 => ?_
    refine ⟨m, Nat.lt_succ_self m, k + 2 + manyL c (words t at_ k), acc ++ [f], _, _, _, _, rfl, g15.on e16, by omega, by simp; omega, ?_⟩
    rw [hp, st1]
    show Option.map _ (Option.map _ _) = _
    rw [Option.map_map]
    congr 1
    funext l
    simp
end
end Mk
set_option maxHeartbeats 4000000
/-! What frames look like when shown. -/
namespace Mk
open PySem PySem.Spec PyProof.Rows L2 Evl TL
theorem int_small {i : Int} (h : numB i = true) : (PyData.shown (.int i)).length ≤ 13 ∧ i.natAbs.log2 < 1920 := by
  unfold numB at h
  simp at h
  obtain ⟨n, rfl⟩ : ∃ n : Nat, i = (n : Int) := ⟨i.toNat, by omega⟩
  constructor
  · rw [PyData.shown_int, len_tl, tl_num]
    exact numL_len (by decide) (by omega)
  · show n.log2 < 1920
    by_cases z : n = 0
    · subst z
      decide
    · exact (Nat.log2_lt z).mpr (Nat.lt_of_le_of_lt (show n ≤ 1000000000000 by omega) (by decide +kernel))
/-- all of some data -/
structure FineAll (B dp : Nat) (ds : List PyData) : Prop where
  s : PyData.showableAll ds = true
  n : PyData.hasDictAll ds = false
  p : PyData.depthAll ds ≤ dp
  l : PyData.leavesShortAll 13 ds = true
  b : PyData.bulkAll ds ≤ B
  c : PyData.canLayAll0 ds = true
theorem fa_nil {dp : Nat} : FineAll 0 dp [] := ⟨rfl, rfl, Nat.zero_le _, rfl, Nat.le_refl _, rfl⟩
structure FineD (B dp : Nat) (d : PyData) : Prop where
  s : d.showable = true
  n : d.hasDict = false
  p : d.depth ≤ dp
  l : d.leavesShort 13 = true
  b : d.bulk ≤ B
  c : d.canLay0 = true
theorem fa_cons {A B dp : Nat} {d : PyData} {ds : List PyData} (h : FineD A dp d) (t : FineAll B dp ds) : FineAll (A + 1 + B) dp (d :: ds) := by
  refine ⟨?_, ?_, ?_, ?_, ?_, ?_⟩
  · simp only [PyData.showableAll, h.s, t.s, Bool.and_self]
  · simp only [PyData.hasDictAll, h.n, t.n, Bool.or_self]
  · simp only [PyData.depthAll]
    have := h.p
    have := t.p
    omega
  · simp only [PyData.leavesShortAll, h.l, t.l, Bool.and_self]
  · simp only [PyData.bulkAll]
    have := h.b
    have := t.b
    omega
  · simp only [PyData.canLayAll0, h.c, t.c, Bool.and_self]
theorem fd_tup {B dp : Nat} {ds : List PyData} (t : FineAll B dp ds) : FineD B (dp + 1) (.tuple ds) := by
  refine ⟨?_, ?_, ?_, ?_, ?_, ?_⟩
  · simp only [PyData.showable, t.s]
  · simp only [PyData.hasDict, t.n]
  · simp only [PyData.depth]
    have := t.p
    omega
  · simp only [PyData.leavesShort, t.l]
  · simp only [PyData.bulk]
    exact t.b
  · simp only [PyData.canLay0, t.c]
theorem fd_lst {B dp : Nat} {ds : List PyData} (t : FineAll B dp ds) : FineD B (dp + 1) (.list ds) := by
  refine ⟨?_, ?_, ?_, ?_, ?_, ?_⟩
  · simp only [PyData.showable, t.s]
  · simp only [PyData.hasDict, t.n]
  · simp only [PyData.depth]
    have := t.p
    omega
  · simp only [PyData.leavesShort, t.l]
  · simp only [PyData.bulk]
    exact t.b
  · simp only [PyData.canLay0, t.c]
theorem fd_int {dp : Nat} {i : Int} (h : numB i = true) : FineD 0 dp (.int i) := by
  have := int_small h
  refine ⟨?_, rfl, Nat.zero_le _, ?_, Nat.le_refl _, rfl⟩
  · simp only [PyData.showable]
    exact decide_eq_true this.2
  · simp only [PyData.leavesShort]
    exact decide_eq_true this.1
theorem fd_bool {dp : Nat} {b : Bool} : FineD 0 dp (.bool b) := ⟨rfl, rfl, Nat.zero_le _, rfl, Nat.le_refl _, rfl⟩
theorem fd_str {dp B : Nat} {x : Str} (h : ∀ c ∈ tl x, c ≤ 200) (hz : x.length ≤ B) : FineD B dp (.str x) := by
  refine ⟨rfl, rfl, Nat.zero_le _, ?_, hz, ?_⟩
  · simp only [PyData.leavesShort]
    rw [List.all_eq_true]
    intro c hc
    have := h c hc
    exact decide_eq_true (by omega)
  · simp only [PyData.canLay0]
    unfold PyData.strOk
    rw [← Array.all_toList, List.all_eq_true]
    intro c hc
    have := h c hc
    exact decide_eq_true (by omega)
theorem lane_num {i : Int} (h : laneB i = true) : numB i = true := by
  unfold laneB at h
  unfold numB
  simp at h ⊢
  omega
theorem sm_low {c : Nat} (h : smB c = true) : c ≤ 200 := by
  have e : ("abcdefghijklmnopqrstuvwxyz" : Str).cps.toList.all (fun c => decide (c ≤ 200)) = true := by decide +kernel
  have := List.all_eq_true.mp e c (of_decide_eq_true h)
  exact of_decide_eq_true this
theorem rows_fine : ∀ (rs : List (Int × Int)) (a : Option Int), rowsB a rs = true → FineAll (3 * rs.length) 1 (rs.map rowD)
  | [], _, _ => fa_nil
  | (a, b) :: r, ah, h => by
    unfold rowsB at h
    simp only [Bool.and_eq_true] at h
    obtain ⟨h1, h2, _, _, h5⟩ := h
    have := fa_cons (fd_tup (fa_cons (fd_int h1) (fa_cons (fd_int h2) (fa_nil (dp := 0))))) (rows_fine r (some a) h5)
    have e : 3 * ((a, b) :: r).length = 0 + 1 + (0 + 1 + 0) + 1 + 3 * r.length := by rw [List.length_cons]; omega
    rw [e]
    exact this
theorem FineAll.mono {A B dp : Nat} {ds : List PyData} (h : FineAll A dp ds) (hb : A ≤ B) : FineAll B dp ds := ⟨h.s, h.n, h.p, h.l, Nat.le_trans h.b hb, h.c⟩
theorem FineAll.deep {A dp dq : Nat} {ds : List PyData} (h : FineAll A dp ds) (hb : dp ≤ dq) : FineAll A dq ds := ⟨h.s, h.n, Nat.le_trans h.p hb, h.l, h.b, h.c⟩
theorem word_low {w : Str} (h : Wd w) : (∀ c ∈ tl w, c ≤ 200) ∧ w.length ≤ 6 := by
  have e : ∀ w ∈ (["close", "piece", "got", "credit", "whole", "reset", "ask", "answer", "early"] : List Str), ((tl w).all (fun c => decide (c ≤ 200)) && decide (w.length ≤ 6)) = true := by decide +kernel
  have hm : w ∈ (["close", "piece", "got", "credit", "whole", "reset", "ask", "answer", "early"] : List Str) := by
    unfold Wd NuW at h
    rcases h with rfl | rfl | rfl | rfl | rfl | rfl | rfl | rfl | rfl <;> simp
  have := e w hm
  rw [Bool.and_eq_true] at this
  exact ⟨fun c hc => of_decide_eq_true (List.all_eq_true.mp this.1 c hc), of_decide_eq_true this.2⟩
theorem got_rows {rs : List (Int × Int)} (h : gotB rs = true) : rs.length ≤ 8 ∧ rowsB none rs = true := by
  unfold gotB at h
  simp only [Bool.and_eq_true, decide_eq_true_eq] at h
  exact ⟨h.2.1, h.2.2⟩
theorem word_of_raw {f : Raw} (h : f.fit) : Wd f.word := by
  cases f with
  | cl => exact .inl rfl
  | pc => exact .inr (.inl rfl)
  | gt => exact .inr (.inr (.inl rfl))
  | nu w ns => exact .inr (.inr (.inr h.1))
theorem letters_low {x : Str} (h : (tl x).all letB = true) : ∀ c ∈ tl x, c ≤ 200 := fun c hc => by
  have := List.all_eq_true.mp h c hc
  unfold letB at this
  simp at this
  omega
theorem parts_fine {f : Raw} (h : f.ok = true) : FineAll 68 2 f.parts := by
  cases f with
  | cl zs =>
    match zs, h with
    | [z], h =>
      have h : wordB z = true := h
      unfold wordB at h
      simp only [Bool.and_eq_true, decide_eq_true_eq] at h
      exact (fa_cons (fd_str (fun c hc => sm_low (List.all_eq_true.mp h.2 c hc)) (show z.length ≤ 8 from h.1.2)) fa_nil).mono (by decide)
  | pc a b x l =>
    have h : pieceB a b x l = true := h
    unfold pieceB at h
    simp only [Bool.and_eq_true, decide_eq_true_eq] at h
    obtain ⟨h1, h2, h3, h4, _⟩ := h
    exact (fa_cons (fd_int (lane_num h1)) (fa_cons (fd_int h2) (fa_cons (fd_str (letters_low h3) h4) (fa_cons fd_bool fa_nil)))).mono (by decide)
  | gt rs =>
    have h : gotB rs = true := h
    obtain ⟨h8, hr⟩ := got_rows h
    exact (fa_cons (fd_lst (rows_fine rs none hr)) (fa_nil (dp := 2))).mono (by omega)
  | nu w ns =>
    match ns, h with
    | [a], h =>
      have h : (!two w && numB a) = true := h
      simp only [Bool.and_eq_true] at h
      exact (fa_cons (fd_int h.2) fa_nil).mono (by decide)
    | [a, b], h =>
      have h : (two w && (laneB a && numB b)) = true := h
      simp only [Bool.and_eq_true] at h
      exact (fa_cons (fd_int (lane_num h.2.1)) (fa_cons (fd_int h.2.2) fa_nil)).mono (by decide)
theorem raw_fine {f : Raw} (h : f.ok = true) (hf : f.fit) : FineD 75 3 f.data := by
  have w := word_low (word_of_raw hf)
  exact fd_tup (fa_cons (fd_str w.1 w.2) (parts_fine h))
theorem frames_fine : ∀ (fs : List Raw), (∀ f ∈ fs, f.ok = true ∧ f.fit) → FineAll (76 * fs.length) 3 (fs.map Raw.data)
  | [], _ => fa_nil
  | f :: r, h => by
    have h0 := h f (List.mem_cons_self ..)
    exact (fa_cons (raw_fine h0.1 h0.2) (frames_fine r fun g hg => h g (List.mem_cons_of_mem _ hg))).mono (by rw [List.length_cons]; omega)
/-- a list of good frames is shown -/
theorem shown_frames {fs : List Raw} (h : ∀ f ∈ fs, f.ok = true ∧ f.fit) (hz : fs.length ≤ 10000) : (framesD fs).showable = true ∧ (framesD fs).hasDict = false ∧ (framesD fs).depth ≤ 60 ∧ (framesD fs).shown.length ≤ sizeLine := by
  have f := fd_lst (frames_fine fs h)
  refine ⟨f.s, f.n, Nat.le_trans f.p (by decide), PyData.shown_fits_bulk (B := 13) (by decide) (by decide) f.l (Nat.le_trans f.b ?_)⟩
  have : 76 * fs.length ≤ 76 * 10000 := Nat.mul_le_mul (Nat.le_refl _) hz
  omega
theorem lay_frames {fs : List Raw} (h : ∀ f ∈ fs, f.ok = true ∧ f.fit) : (framesD fs).canLay0 = true := (fd_lst (frames_fine fs h)).c
theorem shown_part {f : Raw} {d : PyData} (h : f.ok = true) (hd : d ∈ f.parts) : d.showable = true ∧ d.hasDict = false ∧ d.depth ≤ 60 ∧ d.shown.length ≤ sizeLine := by
  have key : ∀ (ds : List PyData) {B : Nat}, FineAll B 2 ds → d ∈ ds → FineD B 2 d := fun ds => by
    induction ds with
    | nil => intro B _ hm; cases hm
    | cons e r ih =>
      intro B fa hm
      have s := fa.s
      have n := fa.n
      have p := fa.p
      have l := fa.l
      have b := fa.b
      have c := fa.c
      simp only [PyData.showableAll, Bool.and_eq_true] at s
      simp only [PyData.hasDictAll, Bool.or_eq_false_iff] at n
      simp only [PyData.depthAll] at p
      simp only [PyData.leavesShortAll, Bool.and_eq_true] at l
      simp only [PyData.bulkAll] at b
      simp only [PyData.canLayAll0, Bool.and_eq_true] at c
      rcases List.mem_cons.mp hm with rfl | hm
      · exact ⟨s.1, n.1, by omega, l.1, by omega, c.1⟩
      · exact ih ⟨s.2, n.2, by omega, l.2, by omega, c.2⟩ hm
  have f := key f.parts (parts_fine h) hd
  exact ⟨f.s, f.n, Nat.le_trans f.p (by decide), PyData.shown_fits_bulk (B := 13) (by decide) (by decide) f.l (Nat.le_trans f.b (by decide))⟩
end Mk
set_option maxHeartbeats 4000000
/-! The law: a text bent; a frame written. -/
namespace Mk
open PySem PySem.Spec PyProof.Rows L2 Evl TL
theorem cut_lo (t : Str) (a : Nat) : (cutS t none (some (a : Int))).length ≤ a := by
  rw [len_tl, tl_cut0, List.length_take]
  omega
theorem cut_hi (t : Str) (a : Nat) : (cutS t (some (a : Int)) none).length ≤ t.length - a := by
  have hn := len_tl t
  have e : tl (cutS t (some (a : Int)) none) = ((tl t).drop (min a t.length)).take (t.length - min a t.length) := by
    show ((tl t).drop (HT.sIx t.length 0 (some (a : Int)))).take (HT.sIx t.length t.length none - HT.sIx t.length 0 (some (a : Int))) = _
    rw [HT.sIx_nat]
    rfl
  rw [len_tl, e, List.length_take, List.length_drop]
  omega
def signsA : Str := ":;,0123456789pgcwrqnex -"
def signsB : Str := " !\"#$&'()*+,-./0123456789:;<=>?@ABCXYZ[\\]^_`abcdefghijklmnopqrstuvwxyz{|}~\n\t"
theorem len_app (a b : Str) : (a ++ b).length = a.length + b.length := by
  rw [len_tl, tl_append, List.length_append, ← len_tl, ← len_tl]
section
variable {P : Program} {w : World} {K : PySem.W.Frag} {mg : Str → Option Value} {base : Heap} {k : Nat} {σ : L2.St} {H : Hp} {te tb : TE}
variable {D : Ends} {tz tu : TS}
def spBent : Sp := fun vs H Q _ => ∃ (t : Str) (c k : Int), vs = [.str t, .int c, .int k] ∧ t.length ≤ 20000 ∧ ∀ r : Str, r.length ≤ t.length + 20 → RetV (.str r) H Q
theorem ev_rev {z : Str} (h : Ev te σ H (.str z)) (hz : z.length ≤ 2) : Ev (tRevS te) σ H (.str (revT z)) := fun H1 e1 Q q => h H1 e1 _ fun H2 e2 => ⟨z, rfl, hz, q H2 e2⟩
theorem okLawBent (D : DefAt K mg "_law_bent" sLawBent) (T : Tx K mg) (GLawMix : Cal P w K mg base CX0 1 "_law_mix" ["_law_cell_here", "_law_k"] spMix) : Cal P w K mg base CX0 2 "_law_bent" ["_law_text", "_law_cell_here", "_law_k"] spBent := by
  refine cal_of D scLawBent (fun _ _ _ _ _ _ us hl => match us, hl with | [_,_,_], _ => rfl) (fun vs H Q E ⟨c, v, a, e, _⟩ => by rw [e]; rfl) fun f cdv A outer s H vs Q E hr h => ?_
  obtain ⟨t, c, k, rfl, hz, hy⟩ := h
  refine ⟨_, ((pss_cons (ps_set (i := 3) scLawBent.nd rfl (Or.inl rfl) pe_str)
      (pss_cons (ps_if (pt_cmpR op_eq (pe_op op_modN (pe_cal GLawMix (hr.mono (by decide)) rfl pass0 (pa_cons (pv 1) (pa_cons (pv 2) pa_nil))) pe_int) pe_int (nomark _)) (pss_one (ps_set (i := 3) scLawBent.nd rfl (Or.inl rfl) pe_str)) pss_nil)
      (pss_cons (ps_set (i := 4) scLawBent.nd rfl (Or.inl rfl) (pe_cal GLawMix (hr.mono (by decide)) rfl pass0 (pa_cons (pv 1) (pa_cons (pe_op op_add (pv 2) pe_int) pa_nil))))
      (pss_cons (ps_set (i := 5) scLawBent.nd rfl (Or.inl rfl) (pe_ix ix_str (pv 3) (pe_op op_modN (pv 4) (pe_callB call_len (by rfl) T.b_len (by decide +kernel) (pa_cons (pv 3) pa_nil))) (fun _ _ => rfl)))
      (pss_cons (ps_set (i := 6) scLawBent.nd rfl (Or.inl rfl) (pe_op op_modN (pe_cal GLawMix (hr.mono (by decide)) rfl pass0 (pa_cons (pv 1) (pa_cons (pe_op op_add (pv 2) pe_int) pa_nil))) (pe_op op_add (pe_callB call_len (by rfl) T.b_len (by decide +kernel) (pa_cons (pv 0) pa_nil)) pe_int)))
      (pss_cons (ps_set (i := 7) scLawBent.nd rfl (Or.inl rfl) (pe_op op_modN (pe_op op_fdivN (pe_cal GLawMix (hr.mono (by decide)) rfl pass0 (pa_cons (pv 1) (pa_cons (pv 2) pa_nil))) pe_int) pe_int))
      (pss_cons (ps_if (pt_cmpR op_lt (pv 7) pe_int (nomark _)) (pss_one (ps_ret (pe_op op_add_str (pe_op op_add_str (pe_slice sl_str (pv 0) po_none (po_some (pv 6))) (pv 5)) (pe_slice sl_str (pv 0) (po_some (pv 6)) po_none)))) pss_nil)
      (pss_cons (ps_if (pt_cmpR op_lt (pv 7) pe_int (nomark _)) (pss_one (ps_ret (pe_op op_add_str (pe_op op_add_str (pe_slice sl_str (pv 0) po_none (po_some (pv 6))) (pv 5)) (pe_slice sl_str (pv 0) (po_some (pe_op op_add (pv 6) pe_int)) po_none)))) pss_nil)
      (pss_cons (ps_if (pt_cmpR op_eq (pv 7) pe_int (nomark _)) (pss_one (ps_ret (pe_op op_add_str (pe_slice sl_str (pv 0) po_none (po_some (pv 6))) (pe_slice sl_str (pv 0) (po_some (pe_op op_add (pv 6) pe_int)) po_none)))) pss_nil)
      (pss_cons (ps_if (pt_cmpR op_eq (pv 7) pe_int (nomark _)) (pss_cons (ps_set (i := 8) scLawBent.nd rfl (Or.inl rfl) (pe_slice sl_str (pv 0) (po_some (pv 6)) (po_some (pe_op op_add (pv 6) pe_int))))
      (pss_one (ps_ret (pe_op op_add_str (pe_op op_add_str (pe_slice sl_str (pv 0) po_none (po_some (pv 6))) (pe_revS (pv 8))) (pe_slice sl_str (pv 0) (po_some (pe_op op_add (pv 6) pe_int)) po_none))))) pss_nil)
      (pss_cons (ps_set (i := 9) scLawBent.nd rfl (Or.inl rfl) (pe_op op_add (pv 6) (pe_op op_modN (pe_op op_fdivN (pv 4) pe_int) pe_int)))
      (pss_cons (ps_if (pt_cmpR op_eq (pv 7) pe_int (nomark _)) (pss_one (ps_ret (pe_op op_add_str (pe_slice sl_str (pv 0) po_none (po_some (pv 9))) (pe_slice sl_str (pv 0) (po_some (pv 6)) po_none)))) pss_nil)
      (pss_one (ps_ret (pe_op op_add_str (pe_slice sl_str (pv 0) po_none (po_some (pv 6))) (pe_slice sl_str (pv 0) (po_some (pv 9)) po_none))))))))))))))))), ?_⟩
  refine q_asg ev_c fun H1 e1 => ?_
  obtain ⟨sg, hsg, hsl⟩ : ∃ sg : Str, sg = (if (mixF c k).fmod 3 = 0 then signsB else signsA) ∧ 0 < sg.length ∧ sg.length ≤ 100000 := by
    refine ⟨_, rfl, ?_⟩
    split <;> decide +kernel
  refine q_ifAsg (v := .str sg) (et_is (et_test (ev_op (ev_mod (call_mix (ev_var rfl) (ev_var rfl)) ev_c (by decide)) ev_c (rv_eq rfl))) (int_eqV _ _)) (fun hb => ev_is ev_c ?_) (fun hb => ?_) fun H2 e2 => ?_
  · rw [hsg, if_pos (of_decide_eq_true hb)]
    rfl
  · rw [hsg, if_neg (of_decide_eq_false hb)]
    rfl
  refine q_asg (call_mix (ev_var rfl) (ev_op (ev_var rfl) ev_c rv_I0)) fun H3 e3 => ?_
  refine q_asg (ev_op (ev_var rfl) (ev_mod (ev_var rfl) (ev_lenS (ev_var rfl) hsl.2) (by omega)) (rv_sign hsl.1 hsl.2)) fun H4 e4 => ?_
  have fa := fm (mixF c (k + 2)) (show (0 : Int) < (t.length : Int) + 1 by omega)
  obtain ⟨a, ea⟩ : ∃ a : Nat, (mixF c (k + 2)).fmod ((t.length : Int) + 1) = (a : Int) := ⟨((mixF c (k + 2)).fmod ((t.length : Int) + 1)).toNat, by omega⟩
  refine q_asg (v := .int (a : Int)) (ev_is (ev_mod (call_mix (ev_var rfl) (ev_op (ev_var rfl) ev_c rv_I0)) (ev_op (ev_lenS (ev_var rfl) (by omega)) ev_c rv_I0) (by omega)) (congrArg V.int ea)) fun H5 e5 => ?_
  have al : a ≤ t.length := by omega
  refine q_asg (ev_mod (ev_fdiv (call_mix (ev_var rfl) (ev_var rfl)) ev_c (by decide)) ev_c (by decide)) fun H6 e6 => ?_
  have e06 := ((((e1.trans e2).trans e3).trans e4).trans e5).trans e6
  have c0 := cut_lo t a
  have c1 := cut_hi t a
  have ch1 : ∀ j : Nat, cutS t (some ((a : Int) + (j : Int))) none = cutS t (some ((a + j : Nat) : Int)) none := fun j => by push_cast; rfl
  have c2 := cut_hi t (a + 1)
  have c3 := cut_hi t (a + 2)
  have e11 : cutS t (some ((a : Int) + 1)) none = cutS t (some ((a + 1 : Nat) : Int)) none := ch1 1
  have e12 : cutS t (some ((a : Int) + 2)) none = cutS t (some ((a + 2 : Nat) : Int)) none := ch1 2
  refine q_when (et_test (ev_op (ev_var rfl) ev_c rv_I0)) (fun hb H7 e7 => ?_) fun hb H7 e7 => ?_
  · refine s_retV (ev_op (ev_op (ev_slS (ev_var rfl) eo_none (eo_some (ev_var rfl)) (by omega)) (ev_var rfl) (rv_addS ?_)) (ev_slS (ev_var rfl) (eo_some (ev_var rfl)) eo_none (by omega)) (rv_addS ?_)) (RetV.goV (hy _ ?_) (e06.trans e7))
    · show _ + 1 ≤ _
      omega
    · rw [len_app]
      show _ + 1 + _ ≤ _
      omega
    · rw [len_app, len_app]
      show _ + 1 + _ ≤ _
      omega
  refine q_when (et_test (ev_op (ev_var rfl) ev_c rv_I0)) (fun hb H8 e8 => ?_) fun hb H8 e8 => ?_
  · refine s_retV (ev_op (ev_op (ev_slS (ev_var rfl) eo_none (eo_some (ev_var rfl)) (by omega)) (ev_var rfl) (rv_addS ?_)) (ev_slS (ev_var rfl) (eo_some (ev_op (ev_var rfl) ev_c rv_I0)) eo_none (by omega)) (rv_addS ?_)) (RetV.goV (hy _ ?_) ((e06.trans e7).trans e8))
    · show _ + 1 ≤ _
      omega
    · rw [len_app, e11]
      show _ + 1 + _ ≤ _
      omega
    · rw [len_app, len_app, e11]
      show _ + 1 + _ ≤ _
      omega
  refine q_when (et_is (et_test (ev_op (ev_var rfl) ev_c (rv_eq rfl))) (int_eqV _ _)) (fun hb H9 e9 => ?_) fun hb H9 e9 => ?_
  · refine s_retV (ev_op (ev_slS (ev_var rfl) eo_none (eo_some (ev_var rfl)) (by omega)) (ev_slS (ev_var rfl) (eo_some (ev_op (ev_var rfl) ev_c rv_I0)) eo_none (by omega)) (rv_addS ?_)) (RetV.goV (hy _ ?_) (((e06.trans e7).trans e8).trans e9))
    · rw [e11]
      omega
    · rw [len_app, e11]
      omega
  have e09 := ((e06.trans e7).trans e8).trans e9
  refine q_when (et_is (et_test (ev_op (ev_var rfl) ev_c (rv_eq rfl))) (int_eqV _ _)) (fun hb H10 e10 => ?_) fun hb H10 e10 => ?_
  · have cb : (cutS t (some (a : Int)) (some ((a : Int) + 2))).length ≤ 2 := by
      have := cut_len t a (a + 2)
      have e : ((a + 2 : Nat) : Int) = (a : Int) + 2 := by push_cast; rfl
      rw [e] at this
      omega
    have cr := revT_len cb
    refine q_asg (ev_slS (ev_var rfl) (eo_some (ev_var rfl)) (eo_some (ev_op (ev_var rfl) ev_c rv_I0)) (by omega)) fun H11 e11' => ?_
    refine s_retV (ev_op (ev_op (ev_slS (ev_var rfl) eo_none (eo_some (ev_var rfl)) (by omega)) (ev_rev (ev_var rfl) cb) (rv_addS ?_)) (ev_slS (ev_var rfl) (eo_some (ev_op (ev_var rfl) ev_c rv_I0)) eo_none (by omega)) (rv_addS ?_)) (RetV.goV (hy _ ?_) ((e09.trans e10).trans e11'))
    · omega
    · rw [len_app, e12]
      omega
    · rw [len_app, len_app, e12]
      omega
  have fd := fm ((mixF c (k + 1)).fdiv 100) (show (0 : Int) < 12 by decide)
  obtain ⟨d, ed⟩ : ∃ d : Nat, ((mixF c (k + 1)).fdiv 100).fmod 12 = (d : Int) := ⟨(((mixF c (k + 1)).fdiv 100).fmod 12).toNat, by omega⟩
  refine q_asg (v := .int ((a + d : Nat) : Int)) (ev_is (ev_op (ev_var rfl) (ev_mod (ev_fdiv (ev_var rfl) ev_c (by decide)) ev_c (by decide)) rv_I0) ?_) fun H11 e11' => ?_
  · rw [ed]
    push_cast
    rfl
  have e011 := (e09.trans e10).trans e11'
  have g0 := cut_lo t (a + d)
  have g1 := cut_hi t (a + d)
  refine q_when (et_is (et_test (ev_op (ev_var rfl) ev_c (rv_eq rfl))) (int_eqV _ _)) (fun hb H12 e12' => ?_) fun hb H12 e12' => ?_
  · refine s_retV (ev_op (ev_slS (ev_var rfl) eo_none (eo_some (ev_var rfl)) (by omega)) (ev_slS (ev_var rfl) (eo_some (ev_var rfl)) eo_none (by omega)) (rv_addS ?_)) (RetV.goV (hy _ ?_) (e011.trans e12'))
    · omega
    · rw [len_app]
      omega
  · refine s_retV (ev_op (ev_slS (ev_var rfl) eo_none (eo_some (ev_var rfl)) (by omega)) (ev_slS (ev_var rfl) (eo_some (ev_var rfl)) eo_none (by omega)) (rv_addS ?_)) (RetV.goV (hy _ ?_) (e011.trans e12'))
    · omega
    · rw [len_app]
      omega
end
end Mk
set_option maxHeartbeats 4000000
/-! The law: a frame written. -/
namespace Mk
open PySem PySem.Spec PyProof.Rows L2 Evl TL
def numS (i : Int) : Str := Str.ofString (toString i)
def rowS (q : Int × Int) : Str := numS q.1 ++ "," ++ numS q.2
def partsS : Raw → List Str
  | .cl zs => zs
  | .pc a b x l => [numS a, numS b, numS (x.length : Int), numS (if l then 1 else 0)]
  | .gt rs => rs.map rowS
  | .nu _ ns => ns.map numS
def letL : Raw → Str
  | .pc _ _ x _ => x
  | _ => ""
def words9 : List Str := ["piece", "got", "credit", "whole", "reset", "ask", "answer", "early", "close"]
def letterC (w : Str) : Nat := ((wtab.find? fun q => decide (q.2 = w)).map (·.1)).getD 0
def wr (f : Raw) : Str := (⟨#[letterC f.word]⟩ : Str) ++ Txt.join "," (partsS f) ++ ":" ++ letL f ++ ";"
theorem words9_at {w : Str} (h : Wd w) : ∃ j : Nat, words9[j]? = some w ∧ ((words9.take j).all fun z => !decide (z = w)) = true ∧ (tl "pgcwrqnex")[j]? = some (letterC w) ∧ wordOf (letterC w) = some w := by
  unfold Wd NuW at h
  rcases h with rfl | rfl | rfl | rfl | rfl | rfl | rfl | rfl | rfl
  · exact ⟨8, rfl, by decide +kernel, by decide +kernel, by decide +kernel⟩
  · exact ⟨0, rfl, by decide +kernel, by decide +kernel, by decide +kernel⟩
  · exact ⟨1, rfl, by decide +kernel, by decide +kernel, by decide +kernel⟩
  · exact ⟨2, rfl, by decide +kernel, by decide +kernel, by decide +kernel⟩
  · exact ⟨3, rfl, by decide +kernel, by decide +kernel, by decide +kernel⟩
  · exact ⟨4, rfl, by decide +kernel, by decide +kernel, by decide +kernel⟩
  · exact ⟨5, rfl, by decide +kernel, by decide +kernel, by decide +kernel⟩
  · exact ⟨6, rfl, by decide +kernel, by decide +kernel, by decide +kernel⟩
  · exact ⟨7, rfl, by decide +kernel, by decide +kernel, by decide +kernel⟩
theorem numS_len {i : Int} (h : numB i = true) : (numS i).length ≤ 13 := by
  have := (int_small h).1
  rw [PyData.shown_int] at this
  exact this
theorem parts_len {f : Raw} (h : f.ok = true) : (partsS f).length ≤ 8 ∧ ∀ z ∈ partsS f, z.length ≤ 27 := by
  cases f with
  | cl zs =>
    match zs, h with
    | [z], h =>
      have h : wordB z = true := h
      unfold wordB at h
      simp only [Bool.and_eq_true, decide_eq_true_eq] at h
      refine ⟨by simp [partsS], fun y hy => ?_⟩
      have : y = z := by simpa [partsS] using hy
      subst this
      omega
  | pc a b x l =>
    have h : pieceB a b x l = true := h
    unfold pieceB at h
    simp only [Bool.and_eq_true, decide_eq_true_eq] at h
    obtain ⟨h1, h2, h3, h4, _⟩ := h
    refine ⟨by simp [partsS], fun y hy => ?_⟩
    have l1 := numS_len (lane_num h1)
    have l2 := numS_len h2
    have l3 := numS_len (i := (x.length : Int)) (by unfold numB; simp; omega)
    have l4 := numS_len (i := if l then 1 else 0) (by cases l <;> decide)
    have hm : y = numS a ∨ y = numS b ∨ y = numS (x.length : Int) ∨ y = numS (if l then 1 else 0) := by simpa [partsS] using hy
    rcases hm with rfl | rfl | rfl | rfl <;> omega
  | gt rs =>
    have h : gotB rs = true := h
    obtain ⟨h8, hr⟩ := got_rows h
    refine ⟨by show (rs.map rowS).length ≤ 8; rw [List.length_map]; exact h8, fun y hy => ?_⟩
    have key : ∀ (rs : List (Int × Int)) (a : Option Int), rowsB a rs = true → ∀ q ∈ rs, numB q.1 = true ∧ numB q.2 = true := fun rs => by
      induction rs with
      | nil => intro a _ q hq; cases hq
      | cons e r ih =>
        obtain ⟨a, b⟩ := e
        intro ah h q hq
        unfold rowsB at h
        simp only [Bool.and_eq_true] at h
        obtain ⟨h1, h2, _, _, h5⟩ := h
        rcases List.mem_cons.mp hq with rfl | hq
        · exact ⟨h1, h2⟩
        · exact ih _ h5 q hq
    obtain ⟨q, hq, rfl⟩ := List.mem_map.mp (show y ∈ rs.map rowS from hy)
    have := key rs none hr q hq
    have l1 := numS_len this.1
    have l2 := numS_len this.2
    unfold rowS
    rw [len_app, len_app]
    show _ + 1 + _ ≤ _
    omega
  | nu w ns =>
    match ns, h with
    | [a], h =>
      have h : (!two w && numB a) = true := h
      simp only [Bool.and_eq_true] at h
      refine ⟨by simp [partsS], fun y hy => ?_⟩
      have : y = numS a := by simpa [partsS] using hy
      subst this
      have := numS_len h.2
      omega
    | [a, b], h =>
      have h : (two w && (laneB a && numB b)) = true := h
      simp only [Bool.and_eq_true] at h
      refine ⟨by simp [partsS], fun y hy => ?_⟩
      have l1 := numS_len (lane_num h.2.1)
      have l2 := numS_len h.2.2
      have hm : y = numS a ∨ y = numS b := by simpa [partsS] using hy
      rcases hm with rfl | rfl <;> omega
theorem letL_len {f : Raw} (h : f.ok = true) : (letL f).length ≤ 64 := by
  cases f with
  | pc a b x l =>
    have h : pieceB a b x l = true := h
    unfold pieceB at h
    simp only [Bool.and_eq_true, decide_eq_true_eq] at h
    exact h.2.2.2.1
  | cl => exact (by decide +kernel : ("" : Str).length ≤ 64)
  | gt => exact (by decide +kernel : ("" : Str).length ≤ 64)
  | nu => exact (by decide +kernel : ("" : Str).length ≤ 64)
theorem sum_le (zs : List Str) (m : Nat) (h : ∀ z ∈ zs, z.length ≤ m) : (zs.map (·.length)).sum ≤ zs.length * m := by
  induction zs with
  | nil => simp
  | cons z r ih =>
    have h1 := h z (List.mem_cons_self ..)
    have h2 := ih fun y hy => h y (List.mem_cons_of_mem _ hy)
    rw [List.map_cons, List.sum_cons, List.length_cons, Nat.add_mul]
    omega
theorem join_len (y : Str) (zs : List Str) : (Txt.join y zs).length ≤ (zs.map (·.length)).sum + zs.length * y.length := by
  rw [join_eq]
  exact PySem.StrLaws.join_length_le y zs
theorem wr_len {f : Raw} (h : f.ok = true) : (Txt.join "," (partsS f)).length ≤ 224 ∧ (wr f).length ≤ 300 := by
  have p := parts_len h
  have s := sum_le (partsS f) 27 p.2
  have j := join_len "," (partsS f)
  have one : (("," : Str)).length = 1 := by decide +kernel
  rw [one] at j
  have l := letL_len h
  have e : (partsS f).length * 27 ≤ 8 * 27 := Nat.mul_le_mul p.1 (Nat.le_refl _)
  refine ⟨by omega, ?_⟩
  unfold wr
  rw [len_app, len_app, len_app, len_app]
  show 1 + _ + 1 + _ + 1 ≤ _
  omega
section
variable {P : Program} {w : World} {K : PySem.W.Frag} {mg : Str → Option Value} {base : Heap} {k : Nat} {σ : L2.St} {H : Hp} {te tb : TE}
variable {D : Ends} {tz tu : TS}
/-- a comprehension whose items' values are known one by one, over anything walked that makes nothing -/
theorem el_it {J : It} {n : Nat} {G : Hp → Prop} {Y : Nat → Hp → V → Hp → Prop} {j : Nat} {vs : List Nat} {Q : VK} {H1 : Hp} (w : Walk J n G Y) (ys : List V) (hl : ys.length = n) (hn : n ≤ 40000) (hG : ∀ H2, Ex H1 H2 → G H2) (hY : ∀ i H x H', Y i H x H' → H' = H)
    (hw : ∀ x, wipe ((wipe σ vs).set j (some x)) vs = wipe σ vs) (he : ∀ (i : Nat) (x y : V) H2, Ex H1 H2 → Y i H2 x H2 → ys[i]? = some y → Ev te ((wipe σ vs).set j (some x)) H2 y) (q : ∀ p H2, H1 p = none → Ex H1 H2 → H2 p = some (.lst ys) → Q (.ref p) H2) :
    ∀ D, H1 D = none → ∃ W : Nat → Nat → Hp → Prop, (∃ m, W 0 m (upd H1 D (.lst []))) ∧ ∀ i m H, W i m H → (J.stop i H ∧ Q (.ref D) H) ∨ (J.go i H ∧ ∃ Nx : Hp → Prop, (∀ H', Nx H' → ∃ m', m' < m ∧ W (i + 1) m' H') ∧ ∀ x H', J.yld i H x H' → gName j x (wipe σ vs) H' fun σ2 H2 => wipe σ2 vs = wipe σ vs ∧ tYes σ2 H2 fun b H3 =>
      if b = true then te σ2 H3 fun y H4 => ∃ acc, H4 D = some (.lst acc) ∧ acc.length < sizeLine ∧ Nx (upd H4 D (.lst (acc ++ [y]))) else Nx H3) := fun Dl hD => by
  refine lc_it w (fun i H2 => Ex H1 H2 ∧ H2 Dl = some (.lst (ys.take i))) ⟨Ex.new hD, upd_same⟩ (fun i H2 _ p => hG H2 p.1) (fun i x H2 H3 hi p y => ?_) fun H2 p => q Dl H2 hD p.1 (by have := p.2; rw [← hl, List.take_length] at this; exact this)
  obtain rfl := hY _ _ _ _ y
  refine ⟨hw x, ?_⟩
  obtain ⟨v, hv⟩ : ∃ v, ys[i]? = some v := by
    rw [List.getElem?_eq_getElem (by omega)]
    exact ⟨_, rfl⟩
  show te ((wipe σ vs).set j (some x)) H3 fun y H4 => ∃ acc, H4 Dl = some (.lst acc) ∧ acc.length < sizeLine ∧ (Ex H1 (upd H4 Dl (.lst (acc ++ [y]))) ∧ (upd H4 Dl (.lst (acc ++ [y]))) Dl = some (.lst (ys.take (i + 1))))
  refine he i x v H3 p.1 y hv H3 (Ex.refl H3) _ fun H4 e4 => ⟨_, e4 Dl _ p.2, sz_lt (by rw [List.length_take]; omega), (p.1.trans e4).mut hD, ?_⟩
  rw [List.take_add_one, hv]
  exact upd_same
theorem el_lcU {xs ys : List V} {tl : TE} {j : Nat} {vs : List Nat} (h : EvU tl σ H xs) (hl : ys.length = xs.length) (hn : xs.length ≤ 40000) (hw : ∀ x, wipe ((wipe σ vs).set j (some x)) vs = wipe σ vs)
    (he : ∀ (i : Nat) (x y : V) H1, Ex H H1 → xs[i]? = some x → ys[i]? = some y → Ev te ((wipe σ vs).set j (some x)) H1 y) : EvL (tLc (iTup K tl) (gName j) tYes te vs) σ H ys := fun H1 e1 Q q => h H1 e1 _ fun p H2 hp e2 h2 => ⟨p, rfl, ⟨xs, st_of h2⟩,
  el_it walk_tup ys hl hn (fun H3 e3 => ex_t e3 (st_of h2)) (fun i H x H' y => y.1) hw (fun i x y H3 e3 hy => he i x y H3 ((e1.trans e2).trans e3) hy.2) fun p H3 hp e3 h3 => q p H3 (fresh_back e2 hp) (e2.trans e3) h3⟩
theorem el_lcS {xs ys : List V} {a : Addr} {tl : TE} {j : Nat} {vs : List Nat} (h : Ev tl σ H (.ref a)) (ha : SqL K H a xs) (hl : ys.length = xs.length) (hn : xs.length ≤ 40000) (hw : ∀ x, wipe ((wipe σ vs).set j (some x)) vs = wipe σ vs)
    (he : ∀ (i : Nat) (x y : V) H1, Ex H H1 → xs[i]? = some x → ys[i]? = some y → Ev te ((wipe σ vs).set j (some x)) H1 y) : EvL (tLc (iList K tl) (gName j) tYes te vs) σ H ys := fun H1 e1 Q q => h H1 e1 _ fun H2 e2 => ⟨a, rfl, ⟨xs, ex_l (e1.trans e2) ha⟩,
  el_it walk_list ys hl hn (fun H3 e3 => ex_l ((e1.trans e2).trans e3) ha) (fun i H x H' y => y.1) hw (fun i x y H3 e3 hy => he i x y H3 ((e1.trans e2).trans e3) hy.2) fun p H3 hp e3 h3 => q p H3 (fresh_back e2 hp) (e2.trans e3) h3⟩
/-- str(part) -/
theorem ev_strD {v : V} {d : PyData} (h : Ev te σ H v) (hd : Dp K H v d) (f : d.showable = true ∧ d.hasDict = false ∧ d.depth ≤ 60 ∧ d.shown.length ≤ sizeLine) (hn : d ≠ .none) : Ev (tCB (rStrD K) (tCons te tNil)) σ H (.str (strD d)) := ev_cb (ea_cons h ea_nil) fun H1 e Q q => ⟨v, rfl, by
  have f1 := f.1
  cases hd with
  | non => exact absurd rfl hn
  | bl b => exact .inr (.inr (.inl ⟨b, rfl, q H1 (Ex.refl H1)⟩))
  | int i =>
    simp only [PyData.showable] at f1
    exact .inl ⟨i, rfl, of_decide_eq_true f1, q H1 (Ex.refl H1)⟩
  | str x => exact .inr (.inl ⟨x, rfl, q H1 (Ex.refl H1)⟩)
  | lst hq a => exact .inr (.inr (.inr ⟨_, _, rfl, .lst (ex_l e hq) (dpAll_ex e a), f.1, f.2.1, f.2.2.1, f.2.2.2, q H1 (Ex.refl H1)⟩))
  | tup hq a => exact .inr (.inr (.inr ⟨_, _, rfl, .tup (ex_t e hq) (dpAll_ex e a), f.1, f.2.1, f.2.2.1, f.2.2.2, q H1 (Ex.refl H1)⟩))⟩
abbrev rStrI : List V → Hp → VK → Prop := fun xs H Q => ∃ i, xs = [.int i] ∧ i.natAbs.log2 < 1920 ∧ Q (.str (toString i)) H
theorem ev_strI {i : Int} (h : Ev te σ H (.int i)) (hi : numB i = true) : Ev (tCB rStrI (tCons te tNil)) σ H (.str (numS i)) := ev_cb (ea_cons h ea_nil) fun H1 e Q q => ⟨i, rfl, (int_small hi).2, q H1 (Ex.refl H1)⟩
theorem ev_strN {i : Int} (h : Ev te σ H (.int i)) (hi : numB i = true) : Ev (tCB (rStrD K) (tCons te tNil)) σ H (.str (numS i)) := ev_cb (ea_cons h ea_nil) fun H1 e Q q => ⟨_, rfl, .inl ⟨i, rfl, (int_small hi).2, q H1 (Ex.refl H1)⟩⟩
abbrev rJoin (K : PySem.W.Frag) : V → List V → Hp → VK → Prop := fun x xs H Q => ∃ a p, ∃ ys : List Str, x = .str a ∧ xs = [.ref p] ∧ (SqL K H p (ys.map V.str) ∨ SqT K H p (ys.map V.str)) ∧ (ys.map (·.length)).sum + ys.length * a.length ≤ 16777216 ∧ Q (.str (Txt.join a ys)) H
theorem ev_join {a : Str} {p : Addr} {ys : List Str} {ta : TE} (h : Ev te σ H (.str a)) (hp : Ev ta σ H (.ref p)) (hq : SqL K H p (ys.map V.str)) (hz : (ys.map (·.length)).sum + ys.length * a.length ≤ 16777216) : Ev (tBM K "str" (rJoin K) te (tCons ta tNil)) σ H (.str (Txt.join a ys)) := fun H1 e1 Q q =>
  h H1 e1 _ fun H2 e2 => ⟨rfl, hp H2 (e1.trans e2) _ fun H3 e3 => ⟨a, p, ys, rfl, rfl, .inl (ex_l ((e1.trans e2).trans e3) hq), hz, q H3 (e2.trans e3)⟩⟩
/-- text in a written list: where -/
theorem ev_index {zs : List Str} {ta : TA} {vs : List V} {z : Str} {j : Nat} {tb : TE} (h : EvA ta σ H vs) (hv : vs = zs.map V.str) (hb : Ev tb σ H (.str z)) (hj : zs[j]? = some z) (hm : ((zs.take j).all fun y => !decide (y = z)) = true) (hz : zs.length ≤ 1000) : Ev (tBM K "list" (rIndex K) (tLst ta) (tCons tb tNil)) σ H (.int (j : Int)) := fun H1 e1 Q q => by
  subst hv
  refine el_lst h (by rw [List.length_map]; omega) H1 e1 _ fun p H2 hp e2 h2 => ⟨.inl ⟨rfl, _, sq_of h2⟩, hb H2 (e1.trans e2) _ fun H3 e3 => ⟨p, _, .str z, j, .str z, rfl, rfl, sq_of (e3 p _ h2), rfl, ?_, by rw [List.getElem?_map, hj]; rfl, by show decide (z = z) = true; simp, fun m z' hmj hz' => ?_, q H3 (e2.trans e3)⟩⟩
  · rw [List.all_eq_true]
    intro v hv
    obtain ⟨y, _, rfl⟩ := List.mem_map.mp hv
    rfl
  · rw [List.getElem?_map] at hz'
    cases hy : zs[m]? with
    | none => rw [hy] at hz'; cases hz'
    | some y =>
      rw [hy] at hz'
      cases hz'
      have : y ∈ zs.take j := by
        refine List.mem_of_getElem? (i := m) ?_
        rw [List.getElem?_take, if_pos hmj]
        exact hy
      have := List.all_eq_true.mp hm y this
      show decide (y = z) = false
      simpa using this
end
end Mk
set_option maxHeartbeats 4000000
/-! The law: a frame written, the walk. -/
namespace Mk
open PySem PySem.Spec PyProof.Rows L2 Evl TL
section
variable {P : Program} {w : World} {K : PySem.W.Frag} {mg : Str → Option Value} {base : Heap} {k : Nat} {σ : L2.St} {H : Hp} {te tb : TE}
variable {D : Ends} {tz tu : TS}
def spWritten (K : PySem.W.Frag) : Sp := fun vs H Q _ => ∃ v f, vs = [v] ∧ Dp K H v (Raw.data f) ∧ f.ok = true ∧ f.fit ∧ RetV (.str (wr f)) H Q
theorem eu_tail {x : V} {xs : List V} {a : Addr} (h : Ev te σ H (.ref a)) (ha : SqT K H a (x :: xs)) : EvU (tSl (rSlT K) te (tPart (tC (.int 1))) tNoPart) σ H xs := fun H1 e1 Q q => h H1 e1 _ fun H2 e2 => ⟨1, rfl, a, _, rfl, ex_t (e1.trans e2) ha, by
    intro z
    have h1 : HT.sIx (x :: xs).length 0 (some ((1 : Nat) : Int)) = min 1 (x :: xs).length := HT.sIx_nat _ _ _
    have z1 : HT.sIx (x :: xs).length 0 (some ((1 : Nat) : Int)) = 0 := z.1
    rw [h1, List.length_cons] at z1
    omega, fun p hp => q p _ (fresh_back e2 hp) (e2.trans (Ex.new hp)) (by
    have h1 : HT.sIx (x :: xs).length 0 (some ((1 : Nat) : Int)) = min 1 (x :: xs).length := HT.sIx_nat _ _ _
    have e : cutV (x :: xs) (some 1) none = xs := by
      show ((x :: xs).drop (HT.sIx (x :: xs).length 0 (some ((1 : Nat) : Int)))).take ((x :: xs).length - HT.sIx (x :: xs).length 0 (some ((1 : Nat) : Int))) = xs
      rw [h1, List.length_cons, show min 1 (xs.length + 1) = 1 by omega]
      show xs.take (xs.length + 1 - 1) = xs
      rw [Nat.add_sub_cancel, List.take_length]
    rw [e]
    exact upd_same)⟩
theorem okLawWritten (D : DefAt K mg "_law_written" sLawWritten) (T : Tx K mg) : CalG P w K mg base CX0 1 "_law_written" ["_law_frame_here"] (spWritten K) := by
  refine calG_of D scLawWritten (fun _ _ _ _ _ _ us hl => match us, hl with | [_], _ => rfl) (fun vs H Q E ⟨v, f, e, _⟩ => by rw [e]; rfl) fun f cdv A outer s H vs Q E hr hcalm h => ?_
  obtain ⟨v, r, rfl, hd, hok, hf, h⟩ := h
  obtain ⟨p, xs, rfl, hp, hx⟩ := dp_tup hd
  refine ⟨_, ((pss_cons (ps_set (i := 1) scLawWritten.nd rfl (Or.inl rfl) (pe_ix ix_tup (pv 0) pe_int (fun _ _ => rfl)))
      (pss_cons (ps_set (i := 2) scLawWritten.nd rfl (Or.inl rfl) pe_str)
      (pss_cons (ps_setLc (i := 3) (own := [("_law_part", 5)]) (g := gName 5) (tt := tYes) rfl scLawWritten.nd rfl rfl (sw_true rfl rfl rfl (by decide +kernel)) (pi_tup (pe_slice sl_tup (pv 0) (po_some pe_int) po_none)) (blkOk_by (own := [("_law_part", 5)]) (N := nLawWritten) (sc := defScope sLawWritten) (by decide +kernel)) (fun _ _ _ _ _ => pg_name (i := 5) scLawWritten.nd rfl (Or.inl rfl)) (fun _ _ _ _ _ => pts_nil) (fun _ _ _ _ _ => (pe_callTy (show CallR _ (.type "str") (rStrD K) from call_strD hcalm hr.units) (by rfl) T.b_str (by decide +kernel) (pa_cons (pv 5) pa_nil))))
      (pss_cut (ps_if (pt_cmpR op_eq (pv 1) pe_str (nomark _)) (pss_cons (ps_set (i := 2) scLawWritten.nd rfl (Or.inl rfl) (pe_ix ix_tup (pv 0) pe_int (fun _ _ => rfl)))
      (pss_one (ps_set (i := 3) scLawWritten.nd rfl (Or.inl rfl) (pe_lst (pa_cons (pe_callTy (call_strD hcalm hr.units) (by rfl) T.b_str (by decide +kernel) (pa_cons (pe_ix ix_tup (pv 0) pe_int (fun _ _ => rfl)) pa_nil)) (pa_cons (pe_callTy (call_strD hcalm hr.units) (by rfl) T.b_str (by decide +kernel) (pa_cons (pe_ix ix_tup (pv 0) pe_int (fun _ _ => rfl)) pa_nil)) (pa_cons (pe_callTy call_str_int (by rfl) T.b_str (by decide +kernel) (pa_cons (pe_callB call_len (by rfl) T.b_len (by decide +kernel) (pa_cons (pv 2) pa_nil)) pa_nil)) (pa_cons (pe_callTy call_str_int (by rfl) T.b_str (by decide +kernel) (pa_cons (pe_callTy call_int1 (by rfl) T.b_int (by decide +kernel) (pa_cons (pe_ix ix_tup (pv 0) pe_int (fun _ _ => rfl)) pa_nil)) pa_nil)) pa_nil)))))))) pss_nil)
      (pss_cut (ps_if (pt_cmpR op_eq (pv 1) pe_str (nomark _)) (pss_one (ps_setLc (i := 3) (own := [("_law_row", 6)]) (g := gName 6) (tt := tYes) rfl scLawWritten.nd rfl rfl (sw_true rfl rfl rfl (by decide +kernel)) (pi_list (pe_ix ix_tup (pv 0) pe_int (fun _ _ => rfl))) (blkOk_by (own := [("_law_row", 6)]) (N := nLawWritten) (sc := defScope sLawWritten) (by decide +kernel)) (fun _ _ _ _ _ => pg_name (i := 6) scLawWritten.nd rfl (Or.inl rfl)) (fun _ _ _ _ _ => pts_nil) (fun _ _ _ _ _ => (pe_op op_add_str (pe_op op_add_str (pe_callTy (show CallR _ (.type "str") (rStrD K) from call_strD hcalm hr.units) (by rfl) T.b_str (by decide +kernel) (pa_cons (pe_ix (show IxR _ (rIxT K) from ix_tup) (pv 6) pe_int (fun _ _ => rfl)) pa_nil)) pe_str) (pe_callTy (show CallR _ (.type "str") (rStrD K) from call_strD hcalm hr.units) (by rfl) T.b_str (by decide +kernel) (pa_cons (pe_ix (show IxR _ (rIxT K) from ix_tup) (pv 6) pe_int (fun _ _ => rfl)) pa_nil)))))) pss_nil)
      (pss_cons (ps_set (i := 4) scLawWritten.nd rfl (Or.inl rfl) (pe_bm PySem.F.plainAttrs_list PySem.F.slot_list_index PySem.F.type_list_index mt_index (pe_lst (pa_cons pe_str (pa_cons pe_str (pa_cons pe_str (pa_cons pe_str (pa_cons pe_str (pa_cons pe_str (pa_cons pe_str (pa_cons pe_str (pa_cons pe_str pa_nil)))))))))) (pa_cons (pv 1) pa_nil)))
      (pss_one (ps_ret (pe_op op_add_str (pe_op op_add_str (pe_op op_add_str (pe_op op_add_str (pe_ix ix_str pe_str (pv 4) (fun _ _ => rfl)) (pe_bm PySem.F.plainAttrs_str PySem.F.slot_str_join PySem.F.type_str_join mt_join pe_str (pa_cons (pv 3) pa_nil))) pe_str) (pv 2)) pe_str)))))))))), ?_⟩
  obtain ⟨v0, ys, rfl, h0, ht⟩ := dpAll_cons hx
  obtain rfl := dp_str h0
  have hl : ys.length = r.parts.length := dpAll_len ht
  obtain ⟨j, wj1, wj2, wj3, wj4⟩ := words9_at (word_of_raw hf)
  have pl := parts_len hok
  refine q_asg (st_ref (i := 0) (ev_var rfl) hp rfl) fun H1 e1 => ?_
  refine q_asg ev_c fun H2 e2 => ?_
  have e02 := e1.trans e2
  have pn : ∀ d ∈ r.parts, d ≠ PyData.none := by
    intro d hdm e
    subst e
    cases r with
    | cl zs =>
      obtain ⟨z, _, e⟩ := List.mem_map.mp (show PyData.none ∈ zs.map PyData.str from hdm)
      cases e
    | pc a b x l => simp [Raw.parts] at hdm
    | gt rs => simp [Raw.parts] at hdm
    | nu w ns =>
      obtain ⟨z, _, e⟩ := List.mem_map.mp (show PyData.none ∈ ns.map PyData.int from hdm)
      cases e
  have plen : r.parts.length ≤ 8 := by
    cases r with
    | cl zs => show (zs.map PyData.str).length ≤ 8; rw [List.length_map]; exact pl.1
    | pc a b x l => exact (by decide : 4 ≤ 8)
    | gt rs => exact (by decide : 1 ≤ 8)
    | nu w ns =>
      show (ns.map PyData.int).length ≤ 8
      rw [List.length_map]
      have : (ns.map numS).length ≤ 8 := pl.1
      rw [List.length_map] at this
      exact this
  refine q_asgL (xs := (r.parts.map strD).map V.str) (el_lcU (K := K) (eu_tail (ev_var rfl) (ex_t e02 hp)) (by rw [List.length_map, List.length_map, hl]) (by omega) (fun _ => rfl) fun i x y H3 e3 hi hy => ?_) fun q H3 hq e3 h3 => ?_
  · obtain ⟨d, hd1, hd2⟩ := dpAll_get ht hi
    rw [List.getElem?_map, List.getElem?_map, hd1] at hy
    cases hy
    have dm := List.mem_of_getElem? hd1
    exact ev_strD (ev_var rfl) (dp_ex (e02.trans e3) hd2) (shown_part hok dm) (pn d dm)
  have e03 := e02.trans e3
  have hp3 := ex_t e03 hp
  refine q_cut (M := fun σ' H' => Ex H H' ∧ ∃ (q : Addr) (a b c : Option V), σ' = [some (.ref p), some (.str r.word), some (.str (letL r)), some (.ref q), a, b, c] ∧ ((∀ rs, r ≠ .gt rs) → H' q = some (.lst ((partsS r).map V.str)))) ?_ fun σ' H4 z => ?_
  · refine s_when (et_strEq (ev_var rfl) ev_c) (fun hb H4 e4 => ?_) fun hb H4 e4 => ?_
    · cases r with
      | cl => exact absurd (of_decide_eq_true hb) (show ¬ ("close" : Str) = "piece" by decide +kernel)
      | gt => exact absurd (of_decide_eq_true hb) (show ¬ ("got" : Str) = "piece" by decide +kernel)
      | nu w ns => exact absurd hb (by rw [show decide ((Raw.nu w ns).word = "piece") = false from (nu_facts hf.1).1]; simp)
      | pc a b x l =>
        have hok' : pieceB a b x l = true := hok
        unfold pieceB at hok'
        simp only [Bool.and_eq_true, decide_eq_true_eq] at hok'
        obtain ⟨o1, o2, o3, o4, _⟩ := hok'
        obtain ⟨_, _, rfl, h1, t⟩ := dpAll_cons ht
        obtain ⟨_, _, rfl, h2, t⟩ := dpAll_cons t
        obtain ⟨_, _, rfl, h3', t⟩ := dpAll_cons t
        obtain ⟨_, _, rfl, h4, t⟩ := dpAll_cons t
        obtain rfl := dpAll_nil t
        obtain rfl := dp_int h1
        obtain rfl := dp_int h2
        obtain rfl := dp_str h3'
        obtain rfl := dp_bl h4
        have hp4 := ex_t e4 hp3
        refine q_asg (st_ref (i := 3) (ev_var rfl) hp4 rfl) fun H5 e5 => ?_
        have hp5 := ex_t e5 hp4
        refine s_asgL (el_lst (ea_cons (ev_strN (st_ref (i := 1) (ev_var rfl) hp5 rfl) (lane_num o1)) (ea_cons (ev_strN (st_ref (i := 2) (ev_var rfl) hp5 rfl) o2) (ea_cons (ev_strI (ev_lenS (ev_var rfl) (by omega)) (by unfold numB; simp; omega)) (ea_cons (ev_strI (i := if l then 1 else 0) (ev_cb (ea_cons (st_ref (i := 4) (ev_var rfl) hp5 rfl) ea_nil) fun H1 e Q q => .inr ⟨l, rfl, q H1 (Ex.refl H1)⟩) (by cases l <;> decide)) ea_nil)))) (by simp)) fun q' H6 hq' e6 h6 => ?_
        exact ⟨((e03.trans e4).trans e5).trans e6, q', _, _, _, rfl, fun _ => h6⟩
    · have np : ∀ a b x l, r ≠ .pc a b x l := fun a b x l e => by
        subst e
        exact absurd hb (by simp [Raw.word])
      have el : letL r = "" := by
        cases r with
        | pc a b x l => exact absurd rfl (np a b x l)
        | cl => rfl
        | gt => rfl
        | nu => rfl
      refine ⟨e03.trans e4, q, _, _, _, by rw [el]; rfl, fun ng => ?_⟩
      have := e4 q _ h3
      have ep : r.parts.map strD = partsS r := by
        cases r with
        | pc a b x l => exact absurd rfl (np a b x l)
        | gt rs => exact absurd rfl (ng rs)
        | cl zs =>
          show (zs.map PyData.str).map strD = zs
          rw [List.map_map]
          exact List.map_id _
        | nu w ns =>
          show (ns.map PyData.int).map strD = ns.map numS
          rw [List.map_map]
          rfl
      rw [ep] at this
      exact this
  obtain ⟨e04, q4, a4, b4, c4, rfl, hq4⟩ := z
  have hp4 := ex_t e04 hp
  refine q_cut (M := fun σ' H' => Ex H H' ∧ ∃ (q : Addr) (a b c : Option V), σ' = [some (.ref p), some (.str r.word), some (.str (letL r)), some (.ref q), a, b, c] ∧ H' q = some (.lst ((partsS r).map V.str))) ?_ fun σ' H5 z => ?_
  · refine s_when (et_strEq (ev_var rfl) ev_c) (fun hb H5 e5 => ?_) fun hb H5 e5 => ?_
    · cases r with
      | cl => exact absurd (of_decide_eq_true hb) (show ¬ ("close" : Str) = "got" by decide +kernel)
      | pc => exact absurd (of_decide_eq_true hb) (show ¬ ("piece" : Str) = "got" by decide +kernel)
      | nu w ns => exact absurd hb (by rw [show decide ((Raw.nu w ns).word = "got") = false from (nu_facts hf.1).2.1]; simp)
      | gt rs =>
        obtain ⟨h8, hr8⟩ := got_rows (show gotB rs = true from hok)
        obtain ⟨v1, _, rfl, h1, t⟩ := dpAll_cons ht
        obtain rfl := dpAll_nil t
        obtain ⟨pl', xs', rfl, hq', hx'⟩ := dp_lst h1
        have hp5 := ex_t e5 hp4
        have lx : xs'.length = rs.length := by rw [dpAll_len hx', List.length_map]
        have key : ∀ (rs : List (Int × Int)) (a : Option Int), rowsB a rs = true → ∀ q ∈ rs, numB q.1 = true ∧ numB q.2 = true := fun rs => by
          induction rs with
          | nil => intro a _ q hq; cases hq
          | cons e r ih =>
            obtain ⟨a, b⟩ := e
            intro ah h q hq
            unfold rowsB at h
            simp only [Bool.and_eq_true] at h
            obtain ⟨h1, h2, _, _, h5⟩ := h
            rcases List.mem_cons.mp hq with rfl | hq
            · exact ⟨h1, h2⟩
            · exact ih _ h5 q hq
        refine s_asgL (xs := (rs.map rowS).map V.str) (el_lcS (K := K) (st_ref (i := 1) (ev_var rfl) hp5 rfl) (ex_l (e04.trans e5) hq') (by rw [List.length_map, List.length_map, lx]) (by omega) (fun _ => rfl) fun i x y H6 e6 hi hy => ?_) fun q' H6 hq' e6 h6 => ⟨(e04.trans e5).trans e6, q', _, _, _, rfl, h6⟩
        obtain ⟨qr, hqr, dq⟩ := rows_get hx' hi
        rw [List.getElem?_map, List.getElem?_map, hqr] at hy
        cases hy
        obtain ⟨a, ea, ha⟩ := row_at (dp_ex ((e04.trans e5).trans e6) dq)
        subst ea
        have nn := key rs none hr8 qr (List.mem_of_getElem? hqr)
        have l1 := numS_len nn.1
        have l2 := numS_len nn.2
        refine ev_op (ev_op (ev_strN (st_ref (i := 0) (ev_var rfl) ha rfl) nn.1) ev_c (rv_addS ?_)) (ev_strN (st_ref (i := 1) (ev_var rfl) ha rfl) nn.2) (rv_addS ?_)
        · show _ + 1 ≤ _
          omega
        · rw [len_app]
          show _ + 1 + _ ≤ _
          omega
    · refine ⟨e04.trans e5, q4, _, _, _, rfl, e5 q4 _ (hq4 fun rs e => ?_)⟩
      subst e
      exact absurd hb (by simp [Raw.word])
  obtain ⟨e05, q5, a5, b5, c5, rfl, hq5⟩ := z
  refine q_asg (ev_index (zs := words9) (ea_cons ev_c (ea_cons ev_c (ea_cons ev_c (ea_cons ev_c (ea_cons ev_c (ea_cons ev_c (ea_cons ev_c (ea_cons ev_c (ea_cons ev_c ea_nil))))))))) rfl (ev_var rfl) wj1 wj2 (by decide)) fun H6 e6 => ?_
  have ws := wr_len hok
  have ll := letL_len hok
  have s27 := sum_le (partsS r) 27 pl.2
  have e27 : (partsS r).length * 27 ≤ 8 * 27 := Nat.mul_le_mul pl.1 (Nat.le_refl _)
  refine s_retV (ev_op (ev_op (ev_op (ev_op (ev_op ev_c (ev_var rfl) (rv_ixS (by decide +kernel) (at_nat wj3))) (ev_join ev_c (ev_var rfl) (sq_of (e6 q5 _ hq5)) ?_) (rv_addS ?_)) ev_c (rv_addS ?_)) (ev_var rfl) (rv_addS ?_)) ev_c (rv_addS ?_)) (RetV.goV h (e05.trans e6))
  · show _ + (partsS r).length * 1 ≤ _
    omega
  · show 1 + _ ≤ _
    omega
  · rw [len_app]
    show 1 + _ + 1 ≤ _
    omega
  · rw [len_app, len_app]
    show 1 + _ + 1 + _ ≤ _
    omega
  · rw [len_app, len_app, len_app]
    show 1 + _ + 1 + _ + 1 ≤ _
    omega
end
end Mk
set_option maxHeartbeats 4000000
/-! What is written is read back. -/
namespace Mk
open PySem PySem.Spec PyProof.Rows L2 Evl TL
def figs : Raw → List Str
  | .gt rs => rs.flatMap fun q => [numS q.1, numS q.2]
  | f => partsS f
theorem dg_to {c : Nat} (h : 48 ≤ c ∧ c ≤ 57) : dgB c = true := by
  have e : ("0123456789" : Str).cps.toList = [48, 49, 50, 51, 52, 53, 54, 55, 56, 57] := by decide +kernel
  unfold dgB
  rw [e]
  apply decide_eq_true
  have d : c = 48 ∨ c = 49 ∨ c = 50 ∨ c = 51 ∨ c = 52 ∨ c = 53 ∨ c = 54 ∨ c = 55 ∨ c = 56 ∨ c = 57 := by omega
  rcases d with rfl | rfl | rfl | rfl | rfl | rfl | rfl | rfl | rfl | rfl <;> simp
theorem num_head : ∀ (k n : Nat), n ≤ k → (numL n).head? = some 48 → n = 0
  | 0, n, h, _ => by omega
  | k + 1, n, h, hh => by
    by_cases h10 : n < 10
    · rw [numL_lt h10] at hh
      have : 48 + n = 48 := Option.some.inj hh
      omega
    · rw [numL_step (by omega)] at hh
      have hne := numL_ne (n / 10)
      have : (numL (n / 10)).head? = some 48 := by
        cases hq : numL (n / 10) with
        | nil => exact absurd hq hne
        | cons a r => rw [hq] at hh; exact hh
      have := num_head k (n / 10) (by omega) this
      omega
theorem tl_numS (n : Nat) : tl (numS (n : Int)) = numL n := tl_num n
theorem fig_num {i : Int} (h : numB i = true) : figS (numS i) = some i := by
  have h0 := h
  unfold numB at h
  simp at h
  obtain ⟨n, rfl⟩ : ∃ n : Nat, i = (n : Int) := ⟨i.toNat, by omega⟩
  have hn : n ≤ 1000000000000 := by omega
  have l : (numS (n : Int)).length = (numL n).length := by rw [len_tl, tl_numS]
  have b : figB (numS (n : Int)) = true := by
    unfold figB
    rw [l, tl_numS, numL_val]
    have l1 : 1 ≤ (numL n).length := by
      have := numL_ne n
      cases h : numL n with
      | nil => exact absurd h this
      | cons => simp
    have l13 : (numL n).length ≤ 13 := numL_len (by decide) (by omega)
    have ad : (numL n).all dgB = true := List.all_eq_true.mpr fun c hc => dg_to (numL_digits n c hc)
    have z : (decide ((numL n).head? = some 48) && !decide (numS (n : Int) = "0")) = false := by
      by_cases hh : (numL n).head? = some 48
      · have := num_head n n (Nat.le_refl _) hh
        subst this
        have : numS ((0 : Nat) : Int) = "0" := by decide +kernel
        rw [this]
        simp
      · rw [decide_eq_false hh]
        rfl
    rw [decide_eq_true l1, decide_eq_true l13, ad, z, decide_eq_true hn]
    rfl
  rw [figS_some b, tl_numS, numL_val]
theorem nums_all : ∀ {ns : List Int}, (∀ n ∈ ns, numB n = true) → numsOf (ns.map numS) = some ns
  | [], _ => rfl
  | n :: r, h => by
    rw [List.map_cons, numsOf, fig_num (h n (List.mem_cons_self ..)), nums_all fun m hm => h m (List.mem_cons_of_mem _ hm)]
theorem num_signs {i : Int} (h : numB i = true) : ∀ c ∈ tl (numS i), 48 ≤ c ∧ c ≤ 57 := by
  unfold numB at h
  simp at h
  obtain ⟨n, rfl⟩ : ∃ n : Nat, i = (n : Int) := ⟨i.toNat, by omega⟩
  rw [tl_numS]
  exact numL_digits n
def clear (z : Str) : Prop := ∀ c ∈ tl z, c ≠ 44 ∧ c ≠ 58
theorem num_clear {i : Int} (h : numB i = true) : clear (numS i) := fun c hc => by
  have := num_signs h c hc
  omega
theorem rows_nums : ∀ {rs : List (Int × Int)} {a : Option Int}, rowsB a rs = true → ∀ q ∈ rs, numB q.1 = true ∧ numB q.2 = true
  | [], _, _, q, hq => by cases hq
  | (a, b) :: r, ah, h, q, hq => by
    unfold rowsB at h
    simp only [Bool.and_eq_true] at h
    obtain ⟨h1, h2, _, _, h5⟩ := h
    rcases List.mem_cons.mp hq with rfl | hq
    · exact ⟨h1, h2⟩
    · exact rows_nums h5 q hq
/-- the ints of a frame, as the text has them -/
def intsF : Raw → List Int
  | .cl _ => []
  | .pc a b x l => [a, b, (x.length : Int), if l then 1 else 0]
  | .gt rs => rs.flatMap fun q => [q.1, q.2]
  | .nu _ ns => ns
theorem pairs_back : ∀ rs : List (Int × Int), pairs (rs.flatMap fun q => [q.1, q.2]) = rs
  | [] => rfl
  | (a, b) :: r => by
    show pairs (a :: b :: r.flatMap fun q => [q.1, q.2]) = _
    rw [pairs, pairs_back r]
theorem flat_even : ∀ rs : List (Int × Int), (rs.flatMap fun q => [q.1, q.2]).length = 2 * rs.length
  | [] => rfl
  | (a, b) :: r => by
    show (a :: b :: r.flatMap fun q => [q.1, q.2]).length = _
    rw [List.length_cons, List.length_cons, flat_even r, List.length_cons]
    omega
theorem figs_ints {f : Raw} (h : ∀ zs, f ≠ .cl zs) : figs f = (intsF f).map numS := by
  cases f with
  | cl zs => exact absurd rfl (h zs)
  | pc a b x l => rfl
  | gt rs =>
    show (rs.flatMap fun q => [numS q.1, numS q.2]) = (rs.flatMap fun q => [q.1, q.2]).map numS
    induction rs with
    | nil => rfl
    | cons q r ih => rw [List.flatMap_cons, List.flatMap_cons, List.map_append, ih fun zs => by simp]; rfl
  | nu w ns => rfl
theorem ints_ok {f : Raw} (h : f.ok = true) : ∀ n ∈ intsF f, numB n = true := by
  cases f with
  | cl zs => intro n hn; cases hn
  | pc a b x l =>
    have h : pieceB a b x l = true := h
    unfold pieceB at h
    simp only [Bool.and_eq_true, decide_eq_true_eq] at h
    obtain ⟨h1, h2, h3, h4, _⟩ := h
    intro n hn
    have hm : n = a ∨ n = b ∨ n = (x.length : Int) ∨ n = (if l then 1 else 0) := by simpa [intsF] using hn
    rcases hm with rfl | rfl | rfl | rfl
    · exact lane_num h1
    · exact h2
    · unfold numB
      simp
      omega
    · cases l <;> decide
  | gt rs =>
    intro n hn
    obtain ⟨q, hq, hm⟩ := List.mem_flatMap.mp (show n ∈ rs.flatMap fun q => [q.1, q.2] from hn)
    have := rows_nums (got_rows (show gotB rs = true from h)).2 q hq
    have hm : n = q.1 ∨ n = q.2 := by simpa using hm
    rcases hm with rfl | rfl
    · exact this.1
    · exact this.2
  | nu w ns =>
    match ns, h with
    | [a], h =>
      have h : (!two w && numB a) = true := h
      simp only [Bool.and_eq_true] at h
      intro n hn
      have : n = a := by simpa [intsF] using hn
      subst this
      exact h.2
    | [a, b], h =>
      have h : (two w && (laneB a && numB b)) = true := h
      simp only [Bool.and_eq_true] at h
      intro n hn
      have : n = a ∨ n = b := by simpa [intsF] using hn
      rcases this with rfl | rfl
      · exact lane_num h.2.1
      · exact h.2.2
theorem figs_clear {f : Raw} (h : f.ok = true) : figs f ≠ [] ∧ ∀ z ∈ figs f, clear z := by
  cases f with
  | cl zs =>
    match zs, h with
    | [z], h =>
      have h : wordB z = true := h
      unfold wordB at h
      simp only [Bool.and_eq_true, decide_eq_true_eq] at h
      refine ⟨by simp [figs, partsS], fun y hy => ?_⟩
      have : y = z := by simpa [figs, partsS] using hy
      subst this
      intro c hc
      have e : ("abcdefghijklmnopqrstuvwxyz" : Str).cps.toList.all (fun c => decide (97 ≤ c)) = true := by decide +kernel
      have := of_decide_eq_true (List.all_eq_true.mp e c (of_decide_eq_true (List.all_eq_true.mp h.2 c hc)))
      omega
  | pc a b x l =>
    have e := figs_ints (f := .pc a b x l) fun zs => by simp
    refine ⟨by rw [e]; simp [intsF], fun z hz => ?_⟩
    rw [e] at hz
    obtain ⟨n, hn, rfl⟩ := List.mem_map.mp hz
    exact num_clear (ints_ok h n hn)
  | gt rs =>
    have e := figs_ints (f := .gt rs) fun zs => by simp
    have hg : gotB rs = true := h
    unfold gotB at hg
    simp only [Bool.and_eq_true, decide_eq_true_eq] at hg
    refine ⟨?_, fun z hz => ?_⟩
    · rw [e]
      intro z
      have := congrArg List.length z
      rw [List.length_map, show intsF (.gt rs) = rs.flatMap fun q => [q.1, q.2] from rfl, flat_even] at this
      simp at this
      omega
    · rw [e] at hz
      obtain ⟨n, hn, rfl⟩ := List.mem_map.mp hz
      exact num_clear (ints_ok h n hn)
  | nu w ns =>
    have e := figs_ints (f := .nu w ns) fun zs => by simp
    refine ⟨?_, fun z hz => ?_⟩
    · match ns, h with
      | [a], h => simp [figs, partsS]
      | [a, b], h => simp [figs, partsS]
    · rw [e] at hz
      obtain ⟨n, hn, rfl⟩ := List.mem_map.mp hz
      exact num_clear (ints_ok h n hn)
theorem join_rows : ∀ rs : List (Int × Int), joinL [44] ((rs.map rowS).map tl) = joinL [44] ((rs.flatMap fun q => [numS q.1, numS q.2]).map tl)
  | [] => rfl
  | [q] => by
    show tl (rowS q) = joinL [44] [tl (numS q.1), tl (numS q.2)]
    unfold rowS
    rw [tl_append, tl_append, comma]
    simp [joinL]
  | q :: p :: r => by
    have ih := join_rows (p :: r)
    show joinL [44] (tl (rowS q) :: tl (rowS p) :: (r.map rowS).map tl) = joinL [44] (tl (numS q.1) :: tl (numS q.2) :: tl (numS p.1) :: tl (numS p.2) :: (r.flatMap fun q => [numS q.1, numS q.2]).map tl)
    have ih : joinL [44] (tl (rowS p) :: (r.map rowS).map tl) = joinL [44] (tl (numS p.1) :: tl (numS p.2) :: (r.flatMap fun q => [numS q.1, numS q.2]).map tl) := ih
    simp only [joinL] at ih ⊢
    rw [ih]
    unfold rowS
    rw [tl_append, tl_append, comma]
    simp
theorem tl_joined (f : Raw) : tl (Txt.join "," (partsS f)) = joinL [44] ((figs f).map tl) := by
  rw [join_eq, tl_join, comma]
  cases f with
  | gt rs => exact join_rows rs
  | cl => rfl
  | pc => rfl
  | nu => rfl
theorem join_split {f : Raw} (h : f.ok = true) {z : Str} (hz : tl z = joinL [44] ((figs f).map tl)) : Txt.split z "," = figs f := by
  have c := figs_clear h
  apply map_tl_inj
  rw [split_spl1, hz]
  refine spl_join (by simpa using c.1) fun p hp => ?_
  obtain ⟨y, hy, rfl⟩ := List.mem_map.mp hp
  intro hm
  exact (c.2 y hy 44 hm).1 rfl
theorem join_free : ∀ ps : List (List Nat), (∀ p ∈ ps, 58 ∉ p) → 58 ∉ joinL [44] ps
  | [], _ => by simp [joinL]
  | [p], h => h p (List.mem_cons_self ..)
  | p :: q :: r, h => by
    have ih := join_free (q :: r) fun y hy => h y (List.mem_cons_of_mem _ hy)
    have h0 := h p (List.mem_cons_self ..)
    show 58 ∉ p ++ ([44] ++ joinL [44] (q :: r))
    intro hm
    rcases List.mem_append.mp hm with hm | hm
    · exact h0 hm
    · rcases List.mem_append.mp hm with hm | hm
      · simp at hm
      · exact ih hm
theorem joined_free {f : Raw} (h : f.ok = true) : 58 ∉ joinL [44] ((figs f).map tl) := join_free _ fun p hp => by
  obtain ⟨y, hy, rfl⟩ := List.mem_map.mp hp
  intro hm
  exact ((figs_clear h).2 y hy 58 hm).2 rfl
end Mk
set_option maxHeartbeats 4000000
/-! What is written is read back: all frames. -/
namespace Mk
open PySem PySem.Spec PyProof.Rows L2 Evl TL
/-- the first colon -/
theorem find_at {t : Str} {a k : Nat} (ha : a ≤ k) (hk : (tl t)[k]? = some 58) (hno : ∀ v, a ≤ v → v < k → (tl t)[v]? ≠ some 58) : Txt.find3 t ":" (a : Int) = (k : Int) := by
  have kl : k < t.length := by
    rw [len_tl]
    by_cases q : k < (tl t).length
    · exact q
    · rw [List.getElem?_eq_none (by omega)] at hk
      cases hk
  have gd : ∀ v, v < t.length → t.cps.getD v 0 = ((tl t)[v]?).getD 0 := fun v hv => by
    have h1 : v < t.cps.size := hv
    show t.cps.getD v 0 = (t.cps.toList[v]?).getD 0
    rw [Array.getElem?_toList, Array.getD_eq_getD_getElem?]
  have fi : fromIndex t.length (a : Int) = a := by
    unfold fromIndex
    rw [if_neg (by omega)]
    omega
  rw [colon]
  rcases StrLaws.find3_spec t 58 (a : Int) with ⟨h1, h2⟩ | ⟨k', h1, h2, h3, h4, h5⟩
  · rw [fi] at h2
    have := h2 k ha kl
    rw [gd k kl, hk] at this
    exact absurd rfl this
  · rw [fi] at h2 h5
    rw [h1]
    by_cases e : k' = k
    · rw [e]
    · exfalso
      by_cases lt : k' < k
      · rw [gd k' h3] at h4
        refine hno k' h2 lt ?_
        rw [List.getElem?_eq_getElem (by rw [← len_tl]; exact h3)] at h4 ⊢
        exact congrArg some h4
      · have := h5 k ha (by omega)
        rw [gd k kl, hk] at this
        exact absurd rfl this
theorem wr_list (f : Raw) : tl (wr f) = letterC f.word :: (joinL [44] ((figs f).map tl) ++ 58 :: (tl (letL f) ++ [59])) := by
  unfold wr
  rw [tl_append, tl_append, tl_append, tl_append, tl_joined, show tl (":" : Str) = [58] by decide +kernel, show tl (";" : Str) = [59] by decide +kernel]
  show [letterC f.word] ++ _ ++ [58] ++ _ ++ [59] = _
  simp
theorem nu_not {w : Str} (h : NuW w) : w ≠ "close" ∧ w ≠ "piece" ∧ w ≠ "got" := by
  have := nu_facts h
  exact ⟨of_decide_eq_false this.2.2.1, of_decide_eq_false this.1, of_decide_eq_false this.2.1⟩
theorem ltrs_letL {f : Raw} : ltrs f = (tl (letL f)).length := by
  cases f with
  | pc a b x l => exact len_tl x
  | cl => exact (by decide +kernel : 0 = (tl ("" : Str)).length)
  | gt => exact (by decide +kernel : 0 = (tl ("" : Str)).length)
  | nu => exact (by decide +kernel : 0 = (tl ("" : Str)).length)
theorem raw_back {f : Raw} (h : f.ok = true) (hf : f.fit) {rest : Str} (hr : tl (cutS rest none (some (ltrs f : Int))) = tl (letL f)) : rawP f.word (figs f) rest = some f := by
  unfold rawP
  cases f with
  | cl zs => exact if_pos rfl
  | pc a b x l =>
    rw [if_neg (show ¬ (Raw.pc a b x l).word = "close" from (by decide +kernel : ¬ ("piece" : Str) = "close")), figs_ints (fun zs => by simp), nums_all (ints_ok h)]
    show (if ("piece" : Str) = "piece" then pieceP [a, b, (x.length : Int), if l then 1 else 0] rest else _) = _
    rw [if_pos rfl]
    show (if (if l then (1 : Int) else 0) > 1 then none else some (Raw.pc a b (cutS rest none (some (x.length : Int))) (decide ((if l then (1 : Int) else 0) = 1)))) = _
    have e : cutS rest none (some (x.length : Int)) = x := ext_tl hr
    rw [e]
    cases l <;> rfl
  | gt rs =>
    rw [if_neg (show ¬ (Raw.gt rs).word = "close" from (by decide +kernel : ¬ ("got" : Str) = "close")), figs_ints (fun zs => by simp), nums_all (ints_ok h)]
    show (if ("got" : Str) = "piece" then _ else if ("got" : Str) = "got" then (if (rs.flatMap fun q => [q.1, q.2]).length / 2 * 2 ≠ (rs.flatMap fun q => [q.1, q.2]).length then none else some (Raw.gt (pairs (rs.flatMap fun q => [q.1, q.2])))) else _) = _
    rw [if_neg (by decide +kernel), if_pos rfl, flat_even, pairs_back, if_neg (by omega)]
  | nu w ns =>
    obtain ⟨n1, n2, n3⟩ := nu_not hf.1
    rw [if_neg (show ¬ (Raw.nu w ns).word = "close" from n1), figs_ints (fun zs => by simp), nums_all (ints_ok h)]
    show (if w = "piece" then _ else if w = "got" then _ else some (Raw.nu w ns)) = _
    rw [if_neg n2, if_neg n3]
theorem say_back {f : Raw} : sayB f (figs f) = true := by
  cases f with
  | pc a b x l => exact decide_eq_true (show Str.ofString (toString (x.length : Int)) = numS (x.length : Int) from rfl)
  | cl => rfl
  | gt => rfl
  | nu => rfl
theorem step_back {t : Str} {p s : List Nat} {f : Raw} (h : f.ok = true) (hf : f.fit) (ht : tl t = p ++ (tl (wr f) ++ s)) : stepP t p.length = some (f, p.length + (tl (wr f)).length) := by
  obtain ⟨j, _, _, _, wo⟩ := words9_at (word_of_raw hf)
  have wl := wr_list f
  have J := joined_free h
  generalize hJ : joinL [44] ((figs f).map tl) = JL at wl J
  have hLl : (tl (letL f)).length ≤ 64 := by
    have := letL_len h
    rw [len_tl] at this
    exact this
  generalize hL : tl (letL f) = L at wl hLl
  -- the text, part by part
  have ht1 : tl t = p ++ (letterC f.word :: (JL ++ 58 :: (L ++ 59 :: s))) := by
    rw [ht, wl]
    simp
  have d1 : (tl t).drop (p.length + 1) = JL ++ 58 :: (L ++ 59 :: s) := by
    rw [ht1, ← List.drop_drop, List.drop_left]
    rfl
  have d2 : (tl t).drop (p.length + 1 + JL.length + 1) = L ++ 59 :: s := by
    rw [← List.drop_drop, ← List.drop_drop, d1, List.drop_left]
    rfl
  have d3 : (tl t).drop (p.length + 1 + JL.length + 1 + L.length) = 59 :: s := by
    rw [← List.drop_drop, d2, List.drop_left]
  have c0 : (tl t)[p.length]? = some (letterC f.word) := by
    rw [ht1, List.getElem?_append_right (Nat.le_refl _), Nat.sub_self]
    rfl
  have gd : ∀ i, (tl t)[p.length + 1 + i]? = (JL ++ 58 :: (L ++ 59 :: s))[i]? := fun i => by
    rw [← d1, List.getElem?_drop]
  have hfind : Txt.find3 t ":" (p.length : Int) = ((p.length + 1 + JL.length : Nat) : Int) := by
    refine find_at (by omega) ?_ fun v h1 h2 => ?_
    · rw [gd, List.getElem?_append_right (Nat.le_refl _), Nat.sub_self]
      rfl
    · by_cases e : v = p.length
      · subst e
        rw [c0]
        intro z
        have z := Option.some.inj z
        rw [z] at wo
        exact absurd wo (by rw [show wordOf 58 = none by decide +kernel]; simp)
      · obtain ⟨i, rfl⟩ : ∃ i, v = p.length + 1 + i := ⟨v - (p.length + 1), by omega⟩
        rw [gd, List.getElem?_append_left (by omega)]
        intro z
        exact J (List.mem_of_getElem? z)
  have hw : words t p.length (p.length + 1 + JL.length) = figs f := by
    unfold words
    refine join_split h ?_
    rw [show ((p.length : Nat) : Int) + 1 = ((p.length + 1 : Nat) : Int) by push_cast; rfl, tl_cut, d1, hJ, show p.length + 1 + JL.length - (p.length + 1) = JL.length by omega, List.take_left]
  generalize hk : p.length + 1 + JL.length = k at *
  have k1 : ((k : Int) + 1) = ((k + 1 : Nat) : Int) := by push_cast; rfl
  have el : ltrs f = L.length := by rw [ltrs_letL, hL]
  unfold stepP
  rw [c0]
  show (if Txt.find3 t ":" (p.length : Int) < 0 then none else match wordOf (letterC f.word) with
    | none => none
    | some x => stepK t p.length (Txt.find3 t ":" (p.length : Int)).toNat x) = _
  rw [hfind, if_neg (by omega), wo]
  show stepK t p.length k f.word = _
  unfold stepK
  rw [hw, raw_back h hf (rest := cutS t (some ((k : Int) + 1)) (some ((k : Int) + 1 + 64))) ?_]
  · have hs : cutS t (some ((k : Int) + 1 + (ltrs f : Int))) (some ((k : Int) + 1 + (ltrs f : Int) + 1)) = ";" := by
      apply ext_tl
      rw [show (k : Int) + 1 + (ltrs f : Int) = ((k + 1 + ltrs f : Nat) : Int) by push_cast; rfl, show ((k + 1 + ltrs f : Nat) : Int) + 1 = ((k + 1 + ltrs f + 1 : Nat) : Int) by push_cast; rfl, tl_cut, el, d3, show k + 1 + L.length + 1 - (k + 1 + L.length) = 1 by omega]
      exact (by decide +kernel : [59] = tl (";" : Str))
    show (if (f.ok && (sayB f (figs f) && decide (cutS t (some ((k : Int) + 1 + (ltrs f : Int))) (some ((k : Int) + 1 + (ltrs f : Int) + 1)) = ";"))) = true then some (f, k + 1 + ltrs f + 1) else none) = _
    rw [h, say_back, hs, decide_eq_true rfl, if_pos (show (true && (true && true)) = true from rfl), el, wl, ← hk]
    congr 2
    simp
    omega
  · rw [tl_cut0, k1, show ((k + 1 : Nat) : Int) + 64 = ((k + 1 + 64 : Nat) : Int) by push_cast; rfl, tl_cut, d2, List.take_take, el, hL, show min L.length (k + 1 + 64 - (k + 1)) = L.length by omega, List.take_left]
theorem run_back {t : Str} : ∀ (fs : List Raw) (p : List Nat) (k : Nat), (∀ f ∈ fs, f.ok = true ∧ f.fit) → tl t = p ++ (fs.map fun f => tl (wr f)).flatten → t.length < p.length + k → runF (stepP t) t.length k p.length = some fs
  | [], p, k, _, ht, hk => by
    refine runF_end ?_
    rw [len_tl, ht]
    simp
  | f :: r, p, k, h, ht, hk => by
    have h0 := h f (List.mem_cons_self ..)
    rw [List.map_cons, List.flatten_cons] at ht
    have st := step_back h0.1 h0.2 ht
    have wpos : 0 < (tl (wr f)).length := by
      rw [wr_list]
      simp
    have lt : p.length < t.length := by
      rw [len_tl, ht, List.length_append, List.length_append]
      omega
    cases k with
    | zero => omega
    | succ k =>
      rw [runF_step lt, st]
      have ih := run_back (t := t) r (p ++ tl (wr f)) k (fun g hg => h g (List.mem_cons_of_mem _ hg)) (by rw [ht]; simp) (by rw [List.length_append]; omega)
      rw [List.length_append] at ih
      show Option.map _ (runF (stepP t) t.length k (p.length + (tl (wr f)).length)) = _
      rw [ih]
      rfl
/-- the text of some frames -/
def textF (fs : List Raw) : Str := Txt.join "" (fs.map wr)
theorem tl_textF : ∀ fs : List Raw, tl (textF fs) = (fs.map fun f => tl (wr f)).flatten := fun fs => by
  unfold textF
  rw [join_eq, tl_join, show tl ("" : Str) = [] by decide +kernel]
  induction fs with
  | nil => rfl
  | cons f r ih =>
    cases r with
    | nil => simp [joinL]
    | cons g r =>
      have ih : joinL [] (tl (wr g) :: (r.map wr).map tl) = ((g :: r).map fun f => tl (wr f)).flatten := ih
      show tl (wr f) ++ ([] ++ joinL [] (tl (wr g) :: (r.map wr).map tl)) = _
      rw [ih]
      simp
theorem parse_back {fs : List Raw} (h : ∀ f ∈ fs, f.ok = true ∧ f.fit) : parse (textF fs) = some fs := by
  unfold parse
  exact run_back fs [] _ h (by rw [tl_textF]; rfl) (by simp)
/-- what is read is good -/
theorem run_ok {t : Str} (hl : t.length ≤ 9000) : ∀ (k a : Nat) (fs : List Raw), runF (stepP t) t.length k a = some fs → fs.length ≤ k ∧ ∀ f ∈ fs, f.ok = true ∧ f.fit
  | 0, a, fs, h => by
    cases h
    exact ⟨Nat.le_refl _, fun f hf => by cases hf⟩
  | k + 1, a, fs, h => by
    rw [runF] at h
    split at h
    · cases hs : stepP t a with
      | none => rw [hs] at h; cases h
      | some q =>
        obtain ⟨f, b⟩ := q
        rw [hs] at h
        have h : (runF (stepP t) t.length k b).map (f :: ·) = some fs := h
        cases hr : runF (stepP t) t.length k b with
        | none => rw [hr] at h; cases h
        | some gs =>
          rw [hr] at h
          cases h
          have ih := run_ok hl k b gs hr
          refine ⟨by simp; exact ih.1, fun g hg => ?_⟩
          rcases List.mem_cons.mp hg with rfl | hg
          · unfold stepP at hs
            split at hs
            · cases hs
            · rename_i c hc
              split at hs
              · cases hs
              · split at hs
                · cases hs
                · rename_i x hx
                  unfold stepK at hs
                  split at hs
                  · cases hs
                  · rename_i f' hraw
                    split at hs
                    · rename_i hb
                      cases hs
                      rw [Bool.and_eq_true] at hb
                      refine ⟨hb.1, rawP_fit (word_wd hx) hraw ?_ (fun z hz => ?_) ?_⟩
                      · have := (words_len t a (Txt.find3 t ":" (a : Int)).toNat).1
                        omega
                      · have := (words_len t a (Txt.find3 t ":" (a : Int)).toNat).2 z hz
                        omega
                      · have := cutS_length t (some (((Txt.find3 t ":" (a : Int)).toNat : Int) + 1)) (some (((Txt.find3 t ":" (a : Int)).toNat : Int) + 1 + 64))
                        omega
                    · cases hs
          · exact ih.2 g hg
    · cases h
      exact ⟨Nat.zero_le _, fun f hf => by cases hf⟩
theorem parse_ok {t : Str} (hl : t.length ≤ 9000) {fs : List Raw} (h : parse t = some fs) : fs.length ≤ 10000 ∧ ∀ f ∈ fs, f.ok = true ∧ f.fit := by
  have := run_ok hl (t.length + 1) 0 fs h
  exact ⟨by omega, this.2⟩
end Mk
set_option maxHeartbeats 4000000
/-! The law: told, due. -/
namespace Mk
open PySem PySem.Spec PyProof.Rows L2 Evl TL
/-- what isinstance asks of the refusal -/
structure TR (K : PySem.W.Frag) (mg : Str → Option Value) : Prop where
  c : ExcC K (He.ga K "BadPacket")
  k1 : PySem.W.kitOne K (.ref (He.ga K "BadPacket")) (.ref (He.ga K "BadFigures")) = some false
  k2 : PySem.W.kitOne K (.ref (He.ga K "BadPacket")) (.ref (He.ga K "BadShort")) = some false
  k3 : PySem.W.kitOne K (.ref (He.ga K "BadPacket")) (.ref (He.ga K "LaneError")) = some true
  gS : mg "BadShort" = some (.ref (He.ga K "BadShort"))
  gL : mg "LaneError" = some (.ref (He.ga K "LaneError"))
def toldD : Option (List Raw) → PyData
  | none => .tuple [.str "refused", .bool true]
  | some fs => .tuple [.str "told", .str (framesD fs).shown]
section
variable {P : Program} {w : World} {K : PySem.W.Frag} {mg : Str → Option Value} {base : Heap} {k : Nat} {σ : L2.St} {H : Hp} {te tb : TE}
variable {D : Ends} {tz tu : TS}
theorem en_refused {ta : TE} (h : Ev ta σ H (.bl true)) : EvN K (tTup (tCons (tC (.str "refused")) (tCons ta tNil))) σ H (toldD none) := en_tup (eu_tup (ea_cons ev_c (ea_cons h ea_nil)) (by simp)) fun _ => .cons (.str _) (.cons (.bl _) .nil)
theorem en_told {fs : List Raw} {v : V} (h : Ev te σ H v) (hd : Dp K H v (framesD fs)) (hs : (framesD fs).showable = true ∧ (framesD fs).hasDict = false ∧ (framesD fs).depth ≤ 60 ∧ (framesD fs).shown.length ≤ sizeLine) : EvN K (tTup (tCons (tC (.str "told")) (tCons (tCB (rRepr K) (tCons te tNil)) tNil))) σ H (toldD (some fs)) :=
  en_tup (eu_tup (ea_cons ev_c (ea_cons (ev_cb (ea_cons h ea_nil) fun H1 e Q q => by
    obtain ⟨a, xs, rfl, _, _⟩ := dp_lst hd
    exact ⟨a, _, rfl, dp_ex e hd, hs.1, hs.2.1, hs.2.2.1, hs.2.2.2, q H1 (Ex.refl H1)⟩) ea_nil)) (by simp)) fun _ => .cons (.str _) (.cons (.str _) .nil)
def spTold (K : PySem.W.Frag) : Sp := fun vs H Q _ => ∃ v, vs = [v] ∧ ((NoStr K v H ∧ RetN K (toldD none) H Q) ∨ ∃ t, v = .str t ∧ t.length ≤ 9000 ∧ RetN K (toldD (parse t)) H Q)
def spDue (K : PySem.W.Frag) : Sp := fun vs H Q _ => ∃ t, vs = [.str t] ∧ t.length ≤ 9000 ∧ RetN K (toldD (parse t)) H Q
theorem okLawDue (D : DefAt K mg "_law_due" sLawDue) (T : Tx K mg) (GLawFramesIn : Cal P w K mg base CX0 5 "_law_frames_in" ["_law_text"] (spFramesIn K)) : CalG P w K mg base CX0 6 "_law_due" ["_law_text"] (spDue K) := by
  refine calG_of D scLawDue (fun _ _ _ _ _ _ us hl => match us, hl with | [_], _ => rfl) (fun vs H Q E ⟨v, e, _⟩ => by rw [e]; rfl) fun f cdv A outer s H vs Q E hr hcalm h => ?_
  obtain ⟨t, rfl, hz, h⟩ := h
  refine ⟨_, ((pss_cons (ps_set (i := 1) scLawDue.nd rfl (Or.inl rfl) (pe_cal GLawFramesIn (hr.mono (by decide)) rfl pass0 (pa_cons (pv 0) pa_nil)))
      (pss_cons (ps_if (pt_cmpR op_isN (pv 1) pe_non (nomark _)) (pss_one (ps_ret (pe_tup (pa_cons pe_str (pa_cons pe_bl pa_nil))))) pss_nil)
      (pss_one (ps_ret (pe_tup (pa_cons pe_str (pa_cons (pe_callB (call_reprD hcalm hr.units) (by rfl) T.b_repr (by decide +kernel) (pa_cons (pv 1) pa_nil)) pa_nil)))))))), ?_⟩
  refine q_asgC (ea_cons (ev_var rfl) ea_nil) fun H1 e1 => ⟨t, rfl, hz, fun fs hp v H2 e2 hd => ?_, fun hp H2 e2 => ?_⟩
  · rw [hp] at h
    obtain ⟨pv, xs, rfl, _, _⟩ := dp_lst hd.dp
    refine q_when (b := false) (et_test (ev_op (ev_var rfl) ev_c fun H1 _ _ q => ⟨rfl, q H1 (Ex.refl H1)⟩)) (fun z => by cases z) fun _ H3 e3 => ?_
    have ok := parse_ok hz hp
    exact s_retR (en_told (ev_var rfl) (dp_ex e3 hd.dp) (shown_frames ok.2 ok.1)) (h.go ((e1.trans e2).trans e3))
  · rw [hp] at h
    refine q_when (b := true) (et_test (ev_op (ev_var rfl) ev_c fun H1 _ _ q => ⟨rfl, q H1 (Ex.refl H1)⟩)) (fun _ H3 e3 => ?_) fun z => by cases z
    exact s_retR (en_refused ev_c) (h.go ((e1.trans e2).trans e3))
theorem ev_isE {D0 a q : Addr} {b : Bool} {ta : TE} (h : Ev te σ H (.ref a)) (hq : Ev ta σ H (.ref q)) (hk : PySem.W.kitOne K (.ref D0) (.ref q) = some b) : Ev (tCB (rIsE K D0 a) (tCons te (tCons ta tNil))) σ H (.bl b) := ev_cb (ea_cons h (ea_cons hq ea_nil)) fun H1 e Q q => ⟨_, _, b, rfl, fun u h => h, hk, q H1 (Ex.refl H1)⟩
def tsTold (K : PySem.W.Frag) (a : Addr) : TS := tSeq (tAsg (tOrV (tCB (rIsE K (He.ga K "BadPacket") a) (tCons (tVar 2) (tCons (tC (.ref (He.ga K "BadFigures"))) tNil))) (tCB (rIsE K (He.ga K "BadPacket") a) (tCons (tVar 2) (tCons (tC (.ref (He.ga K "BadShort"))) tNil)))) (gName 3))
  (tRet (tTup (tCons (tC (.str "refused")) (tCons (tAndV (tCB (rIsE K (He.ga K "BadPacket") a) (tCons (tVar 2) (tCons (tC (.ref (He.ga K "LaneError"))) tNil))) (tNotV (tVar 3))) tNil))))
theorem takes_none {X : Cx} : L2.Takes X (fun _ _ _ _ => False) := fun u s' x => by
  obtain ⟨a, B, sI, pins, σ, H, cls, d, e, I, nb, up, sky, na, os, ag, w⟩ := x
  exact w.elim
theorem okLawTold (D : DefAt K mg "_law_told" sLawTold) (T : Tx K mg) (R : TR K mg) (GReadFrames : Cal P w K mg base (L2.CX P w) 5 "read_frames" ["text"] (spReadFrames K)) : CalG P w K mg base CX0 6 "_law_told" ["_law_thing"] (spTold K) := by
  refine calG_of D scLawTold (fun _ _ _ _ _ _ us hl => match us, hl with | [_], _ => rfl) (fun vs H Q E ⟨v, e, _⟩ => by rw [e]; rfl) fun f cdv A outer s H vs Q E hr hcalm h => ?_
  obtain ⟨v, rfl, h⟩ := h
  refine ⟨_, (pss_cons (ps_try_as (i := 2) (c := .ref (He.ga K "BadPacket")) (Wout := fun _ _ _ _ => False)
      (tb := fun W => tAsg (tCallS (spReadFrames K) (WE W) (tCons (tVar 0) tNil)) (gName 1))
      (ts := fun a cls d => fun D σ H => (cls = .ref (He.ga K "BadPacket") ∧ d = none) ∧ tsTold K a D σ H)
      rfl rfl scLawTold.nd rfl rfl ⟨rfl, by decide, Or.inl T.eP.gc⟩ takes_none
      (fun W pn xe tk po => pss_one (ps_set (i := 1) scLawTold.nd rfl (Or.inl rfl) (pe_calS GReadFrames (hr.mono (by decide)) rfl (fun σ => L2.passAt tk σ) (pa_cons (pv 0) pa_nil))))
      (fun a oe cls d pn hz hf => pss_given fun hcd => by
        obtain ⟨rfl, rfl⟩ := hcd
        exact (pss_cons (ps_set (i := 3) scLawTold.nd rfl (Or.inl rfl) (pe_or (pe_callB (call_isE R.c hz hf) (by rfl) T.b_isinstance (by decide +kernel) (pa_cons (pv 2) (pa_cons (pe_glob (v := .ref (He.ga K "BadFigures")) rfl T.eF.gc rfl) pa_nil))) (pe_one (pe_callB (call_isE R.c hz hf) (by rfl) T.b_isinstance (by decide +kernel) (pa_cons (pv 2) (pa_cons (pe_glob (v := .ref (He.ga K "BadShort")) rfl R.gS rfl) pa_nil))))))
          (pss_one (ps_ret (pe_tup (pa_cons pe_str (pa_cons (pe_and (pe_callB (call_isE R.c hz hf) (by rfl) T.b_isinstance (by decide +kernel) (pa_cons (pv 2) (pa_cons (pe_glob (v := .ref (He.ga K "LaneError")) rfl R.gL rfl) pa_nil))) (pe_one (pe_not (pv 3)))) pa_nil))))))))
      (pss_one (ps_ret (pe_tup (pa_cons pe_str (pa_cons (pe_callB (call_reprD hcalm hr.units) (by rfl) T.b_repr (by decide +kernel) (pa_cons (pv 1) pa_nil)) pa_nil)))))), ?_⟩
  -- the refusal
  have ref : ∀ (a : Addr) (x1 x3 : Option V) (v0 : Option V) (H2 : Hp) (D : Ends), D.rt = Q → RetN K (toldD none) H2 Q → tsTold K a D [v0, x1, some (.ref a), x3] H2 := fun a x1 x3 v0 H2 D hD hk => by
    refine q_asg (v := .bl false) (ev_is (ev_orV (ev_isE (ev_var rfl) ev_c R.k1) fun _ => ev_isE (ev_var rfl) ev_c R.k2) rfl) fun H3 e3 => ?_
    refine s_retR (K := K) (en_refused (ev_is (ev_andV (ev_isE (ev_var rfl) ev_c R.k3) fun _ => ev_notV (ev_var rfl)) rfl)) ?_
    rw [hD]
    exact hk.go e3
  have caught : ∀ H2, Ex H H2 → RetN K (toldD none) H Q → wAs K (.ref (He.ga K "BadPacket")) 2 (fun a cls d => fun D σ H => (cls = .ref (He.ga K "BadPacket") ∧ d = none) ∧ tsTold K a D σ H) (fun _ _ _ _ => False) { nx := fun σ' H' => tRet (tTup (tCons (tC (.str "told")) (tCons (tCB (rRepr K) (tCons (tVar 1) tNil)) tNil))) { nx := fun _ H' => Q .non H', rt := Q } σ' H', rt := Q } (.ref (He.ga K "BadPacket")) none (start nLawTold [v]) H2 := fun H2 e2 hk =>
    ⟨true, T.eP.ec, fun _ a ha => ⟨⟨rfl, rfl⟩, ref a _ _ _ H2 _ rfl (hk.go e2)⟩, fun z => by cases z⟩
  show tAsg (tCallS (spReadFrames K) _ (tCons (tVar 0) tNil)) (gName 1) _ _ _
  refine ⟨v, rfl, v, rfl, ?_⟩
  rcases h with ⟨hno, hk⟩ | ⟨t, rfl, hz, hk⟩
  · exact .inl ⟨hno, fun H2 e2 => caught H2 e2 hk⟩
  · refine .inr ⟨t, rfl, hz, fun fs hp v H2 e2 hd => ?_, fun hp H2 e2 => ?_⟩
    · rw [hp] at hk
      have ok := parse_ok hz hp
      exact s_retR (D := { nx := fun _ H' => Q .non H', rt := Q }) (en_told (ev_var rfl) hd.dp (shown_frames ok.2 ok.1)) (hk.go e2)
    · rw [hp] at hk
      exact caught H2 e2 hk
end
end Mk
set_option maxHeartbeats 4000000
/-! Signs of what is shown. -/
namespace Mk
open PySem PySem.Spec PyProof.Rows L2 Evl TL
def lowL (l : List Nat) : Prop := ∀ c ∈ l, c < 0x110000
def low (x : Str) : Prop := lowL (tl x)
theorem lowL_app {a b : List Nat} (h : lowL a) (g : lowL b) : lowL (a ++ b) := fun c hc => by
  rcases List.mem_append.mp hc with h1 | h1
  · exact h c h1
  · exact g c h1
theorem low_app {a b : Str} (h : low a) (g : low b) : low (a ++ b) := by
  unfold low
  rw [tl_append]
  exact lowL_app h g
theorem char_low (c : Char) : c.toNat < 0x110000 := by
  have h := c.valid
  have e : c.toNat = c.val.toNat := rfl
  rcases h with h | h
  · have h : c.val.toNat < 0xd800 := h
    omega
  · have h : 0xdfff < c.val.toNat ∧ c.val.toNat < 0x110000 := h
    omega
theorem low_of (s : String) : low (Str.ofString s) := by
  unfold low
  rw [tl_ofString]
  intro c hc
  obtain ⟨d, _, rfl⟩ := List.mem_map.mp hc
  exact char_low d
theorem low_lit {x : Str} (h : (tl x).all (fun c => decide (c < 0x110000)) = true) : low x := fun c hc => of_decide_eq_true (List.all_eq_true.mp h c hc)
theorem char_list (q c : Nat) (hq : q < 200) (hc : c < 0x110000) : lowL (Builtin.Str.reprChar q c) := by
  have hx : ∀ (n : Nat), lowL (List.replicate n 48 ++ (Nat.toDigits 16 c).map Char.toNat) := fun n => lowL_app (fun d hd => by rw [(List.mem_replicate.mp hd).2]; decide) fun d hd => by
    obtain ⟨e, _, rfl⟩ := List.mem_map.mp hd
    exact char_low e
  have two : ∀ a b : Nat, a < 0x110000 → b < 0x110000 → lowL [a, b] := fun a b ha hb d hd => by
    have : d = a ∨ d = b := by simpa using hd
    rcases this with rfl | rfl <;> assumption
  unfold Builtin.Str.reprChar
  dsimp only
  repeat' split
  · exact two _ _ (by decide) hc
  · exact two _ _ (by decide) (by decide)
  · exact two _ _ (by decide) (by decide)
  · exact two _ _ (by decide) (by decide)
  · intro d hd
    rw [List.mem_singleton.mp hd]
    exact hc
  · exact lowL_app (two _ _ (by decide) (by decide)) (hx _)
  · exact lowL_app (two _ _ (by decide) (by decide)) (hx _)
  · exact lowL_app (two _ _ (by decide) (by decide)) (hx _)
theorem fold_low (q : Nat) (hq : q < 200) : ∀ (l : List Nat) (acc : Array Nat), lowL l → lowL acc.toList → lowL (l.foldl (fun out c => out ++ (Builtin.Str.reprChar q c).toArray) acc).toList
  | [], acc, _, h => h
  | c :: r, acc, hl, h => fold_low q hq r _ (fun d hd => hl d (List.mem_cons_of_mem _ hd)) (by
    rw [Array.toList_append]
    exact lowL_app h (char_list q c hq (hl c (List.mem_cons_self ..))))
theorem quote_low (x : Str) : reprQuote x < 200 := by
  unfold reprQuote
  split <;> decide
theorem low_repr {x : Str} (h : low x) : low (reprText x) := by
  unfold low reprText
  show lowL ((x.cps.foldl (fun out c => out ++ (Builtin.Str.reprChar (reprQuote x) c).toArray) #[reprQuote x]).push (reprQuote x)).toList
  rw [Array.toList_push, ← Array.foldl_toList]
  have hq := quote_low x
  have one : lowL [reprQuote x] := fun d hd => by
    rw [List.mem_singleton.mp hd]
    omega
  exact lowL_app (fold_low _ hq _ _ h one) one
theorem low_from : ∀ (ts : List Str) (k : Nat) (acc : Str), low acc → (∀ t ∈ ts, low t) → low (textFrom k acc ts)
  | [], k, acc, h, _ => h
  | t :: r, k, acc, h, ht => by
    show low (textFrom (k + 1) (acc ++ _ ++ t) r)
    refine low_from r (k + 1) _ (low_app (low_app h ?_) (ht t (List.mem_cons_self ..))) fun u hu => ht u (List.mem_cons_of_mem _ hu)
    exact low_of _
theorem low_list {ts : List Str} (h : ∀ t ∈ ts, low t) : low (listText ts) := low_app (low_from ts 0 _ (low_of "[") h) (low_of "]")
theorem low_join (sep : Str) (hs : low sep) : ∀ ts : List Str, (∀ t ∈ ts, low t) → low (Str.join sep ts)
  | [], _ => low_of ""
  | [t], h => h t (List.mem_cons_self ..)
  | t :: u :: r, h => low_app (low_app (h t (List.mem_cons_self ..)) hs) (low_join sep hs (u :: r) fun v hv => h v (List.mem_cons_of_mem _ hv))
theorem low_tuple {ts : List Str} (h : ∀ t ∈ ts, low t) : low (tupleText ts) := low_app (low_app (low_of "(") (low_join _ (low_of ", ") ts h)) (low_of _)
mutual
theorem low_shown : ∀ d : PyData, d.canLay0 = true → low d.shown
  | .none, _ => low_of "None"
  | .bool b, _ => by
    rw [PyData.shown_bool]
    cases b
    · exact low_of "False"
    · exact low_of "True"
  | .int i, _ => by
    rw [PyData.shown_int]
    exact low_of _
  | .str x, h => by
    rw [PyData.shown_str]
    refine low_repr fun c hc => ?_
    simp only [PyData.canLay0] at h
    unfold PyData.strOk at h
    rw [← Array.all_toList, List.all_eq_true] at h
    exact of_decide_eq_true (h c hc)
  | .list xs, h => by
    simp only [PyData.canLay0] at h
    simp only [PyData.shown]
    exact low_list (low_all xs h)
  | .tuple xs, h => by
    simp only [PyData.canLay0] at h
    simp only [PyData.shown]
    exact low_tuple (low_all xs h)
  | .dict _, h => by
    simp only [PyData.canLay0] at h
    cases h
theorem low_all : ∀ ds : List PyData, PyData.canLayAll0 ds = true → ∀ t ∈ PyData.shownAll ds, low t
  | [], _, t, ht => by
    simp only [PyData.shownAll] at ht
    cases ht
  | d :: r, h, t, ht => by
    simp only [PyData.canLayAll0, Bool.and_eq_true] at h
    simp only [PyData.shownAll] at ht
    rcases List.mem_cons.mp ht with rfl | ht
    · exact low_shown d h.1
    · exact low_all r h.2 t ht
end
theorem ok_str {x : Str} (h : low x) : PyData.strOk x = true := by
  unfold PyData.strOk
  rw [← Array.all_toList, List.all_eq_true]
  exact fun c hc => decide_eq_true (h c hc)
theorem shaped_told {o : Option (List Raw)} (h : ∀ fs, o = some fs → ∀ f ∈ fs, f.ok = true ∧ f.fit) : SeqAt.shaped (toldD o) = true := by
  unfold SeqAt.shaped
  cases o with
  | none => decide +kernel
  | some fs =>
    have l := ok_str (low_shown _ (lay_frames (h fs rfl)))
    have a : (toldD (some fs)).canLay0 = true := by
      show PyData.canLay0 (.tuple [.str "told", .str (framesD fs).shown]) = true
      simp only [PyData.canLay0, PyData.canLayAll0, l, Bool.and_true]
      decide +kernel
    have b : (toldD (some fs)).depth ≤ 64 := by
      show PyData.depth (.tuple [.str "told", .str (framesD fs).shown]) ≤ 64
      simp [PyData.depth, PyData.depthAll]
    rw [a, decide_eq_true b]
    rfl
theorem eqv_told (o : Option (List Raw)) : PyData.eqv (toldD o) (toldD o) = true := by
  cases o with
  | none => decide +kernel
  | some fs =>
    show PyData.eqv (.tuple [.str "told", .str (framesD fs).shown]) (.tuple [.str "told", .str (framesD fs).shown]) = true
    simp [PyData.eqv, PyData.eqvAll]
end Mk
set_option maxHeartbeats 4000000
/-! The law. -/
namespace Mk
open PySem PySem.Spec PyProof.Rows L2 Evl TL
def framesL (ns : List Int) (k : Nat) : List Raw := (List.range ((mixF (cellF ns (6 * k)) 0).fmod 5).toNat).map fun j => frameF (cellF ns (6 * k + 1 + j))
theorem framesL_ok (ns : List Int) (k : Nat) : ∀ f ∈ framesL ns k, f.ok = true ∧ f.fit := fun f hf => by
  obtain ⟨j, _, rfl⟩ := List.mem_map.mp hf
  exact frameW_ok _ _
theorem framesL_len (ns : List Int) (k : Nat) : (framesL ns k).length ≤ 4 := by
  have f := fm (mixF (cellF ns (6 * k)) 0) (show (0 : Int) < 5 by decide)
  unfold framesL
  rw [List.length_map, List.length_range]
  omega
theorem text_sum (fs : List Raw) (h : ∀ f ∈ fs, f.ok = true ∧ f.fit) : ((fs.map wr).map (·.length)).sum ≤ fs.length * 300 := by
  have := sum_le (fs.map wr) 300 fun z hz => by
    obtain ⟨f, hf, rfl⟩ := List.mem_map.mp hz
    exact (wr_len (h f hf).1).2
  rw [List.length_map] at this
  exact this
theorem text_len (fs : List Raw) (h : ∀ f ∈ fs, f.ok = true ∧ f.fit) : (textF fs).length ≤ fs.length * 300 := by
  have s := text_sum fs h
  have j := join_len "" (fs.map wr)
  have e : ("" : Str).length = 0 := by decide +kernel
  rw [e, Nat.mul_zero] at j
  unfold textF
  omega
theorem six {i : Int} (h : 0 ≤ i ∧ i < 6) : 1 ≤ pickI [12, 13, 14, 20, 40, 4400] i ∧ pickI [12, 13, 14, 20, 40, 4400] i ≤ 4400 := by
  have d : i = 0 ∨ i = 1 ∨ i = 2 ∨ i = 3 ∨ i = 4 ∨ i = 5 := by omega
  rcases d with rfl | rfl | rfl | rfl | rfl | rfl <;> decide
section
variable {P : Program} {w : World} {K : PySem.W.Frag} {mg : Str → Option Value} {base : Heap} {k : Nat} {σ : L2.St} {H H' : Hp} {te tb : TE}
variable {D : Ends} {tz tu : TS}
theorem NoStr.mono {v : V} (h : NoStr K v H) (e : Ex H H') : NoStr K v H' := by
  obtain ⟨T, k, t⟩ := h
  exact ⟨T, k, fun H1 e1 => t H1 (e.trans e1)⟩
theorem ns_non : NoStr K .non H := ⟨"NoneType", by decide +kernel, fun _ _ => .base .non⟩
theorem ns_int (i : Int) : NoStr K (.int i) H := ⟨"int", by decide +kernel, fun _ _ => .base (.int i)⟩
theorem ns_bl (b : Bool) : NoStr K (.bl b) H := ⟨"bool", by decide +kernel, fun _ _ => .base (.bl b)⟩
theorem ns_lst {a : Addr} {xs : List V} (h : SqL K H a xs) : NoStr K (.ref a) H := ⟨"list", by decide +kernel, fun H1 e => tyx_L (ex_l e h)⟩
theorem ns_tup {a : Addr} {xs : List V} (h : SqT K H a xs) : NoStr K (.ref a) H := ⟨"tuple", by decide +kernel, fun H1 e => tyx_T (ex_t e h)⟩
theorem ns_dic {a : Addr} {kvs : List (Key × V)} (h : H a = some (.dK kvs)) : NoStr K (.ref a) H := ⟨"dict", by decide +kernel, fun H1 e => .base (.dK (e a _ h))⟩
/-- gives a value that is no text -/
def EvP (K : PySem.W.Frag) (te : TE) (σ : L2.St) (H : Hp) : Prop := ∀ H1, Ex H H1 → ∀ Q : VK, (∀ v H2, Ex H1 H2 → NoStr K v H2 → Q v H2) → te σ H1 Q
def EvPA (K : PySem.W.Frag) (ta : TA) (σ : L2.St) (H : Hp) (n : Nat) : Prop := ∀ H1, Ex H H1 → ∀ Q : List V → Hp → Prop, (∀ vs H2, Ex H1 H2 → vs.length = n → (∀ v ∈ vs, NoStr K v H2) → Q vs H2) → ta σ H1 Q
theorem epa_nil : EvPA K tNil σ H 0 := fun H1 _ _ q => q [] H1 (Ex.refl H1) rfl fun v hv => by cases hv
theorem epa_cons {tr : TA} {n : Nat} (h : EvP K te σ H) (hr : EvPA K tr σ H n) : EvPA K (tCons te tr) σ H (n + 1) := fun H1 e1 _ q => h H1 e1 _ fun v H2 e2 hv => hr H2 (e1.trans e2) _ fun vs H3 e3 hl hvs => q (v :: vs) H3 (e2.trans e3) (by rw [List.length_cons, hl]) fun u hu => by
  rcases List.mem_cons.mp hu with rfl | hu
  · exact hv.mono e3
  · exact hvs u hu
theorem ep_v {v : V} (h : Ev te σ H v) (hv : ∀ H1, Ex H H1 → NoStr K v H1) : EvP K te σ H := fun H1 e1 _ q => h H1 e1 _ fun H2 e2 => q v H2 e2 (hv H2 (e1.trans e2))
theorem ep_lst {xs : List V} (h : EvL te σ H xs) : EvP K te σ H := fun H1 e1 _ q => h H1 e1 _ fun p H2 _ e2 h2 => q _ H2 e2 (ns_lst (sq_of h2))
theorem ep_tup {xs : List V} (h : EvU te σ H xs) : EvP K te σ H := fun H1 e1 _ q => h H1 e1 _ fun p H2 _ e2 h2 => q _ H2 e2 (ns_tup (st_of h2))
theorem ep_dic : EvP K tDNewK σ H := fun H1 e1 _ q p hp => q _ _ (Ex.new hp) (ns_dic upd_same)
theorem ep_pick {ta : TA} {n : Nat} {i : Int} (h : EvPA K ta σ H n) (hi : Ev tb σ H (.int i)) (h0 : 0 ≤ i ∧ i < (n : Int)) (hn : n ≤ 1000) : EvP K (tOp (rIxL K) (tLst ta) tb) σ H := fun H1 e1 _ q => h H1 e1 _ fun vs H2 e2 hl hvs => ⟨sz_of (by omega), fun p hp => hi _ ((e1.trans e2).trans (Ex.new hp)) _ fun H3 e3 => by
  have lt : i.toNat < vs.length := by omega
  refine ⟨p, vs, i, vs[i.toNat], rfl, rfl, sq_of (e3 p _ upd_same), ?_, ?_⟩
  · have ei : ((i.toNat : Nat) : Int) = i := by omega
    have := at_nat (List.getElem?_eq_getElem lt)
    rw [ei] at this
    exact this
  · exact q _ H3 ((e2.trans (Ex.new hp)).trans e3) ((hvs _ (List.getElem_mem lt)).mono ((Ex.new hp).trans e3))⟩
theorem q_asgP {i : Nat} (h : EvP K te σ H) (k : ∀ v H1, Ex H H1 → NoStr K v H1 → tz D (σ.set i (some v)) H1) : tSeq (tAsg te (gName i)) tz D σ H := h H (Ex.refl H) _ k
theorem et_neD {d e : PyData} (hd : EvN K te σ H d) (he : EvN K tb σ H e) (sd : SeqAt.shaped d = true) (se : SeqAt.shaped e = true) : EvT (tTest (tOp (rNeD K) te tb)) σ H (!PyData.eqv d e) := et_test fun H1 e1 Q q => hd H1 e1 _ fun v H2 e2 dv => he H2 (e1.trans e2) _ fun u H3 e3 du => ⟨d, e, dp_ex e3 dv.dp, du.dp, sd, se, q H3 (e2.trans e3)⟩
theorem et_same {o : Option (List Raw)} (hd : EvN K te σ H (toldD o)) (he : EvN K tb σ H (toldD o)) (h : ∀ fs, o = some fs → ∀ f ∈ fs, f.ok = true ∧ f.fit) : EvT (tTest (tOp (rNeD K) te tb)) σ H false := by
  have := et_neD hd he (shaped_told h) (shaped_told h)
  rw [eqv_told] at this
  exact this
theorem ev_joinL {a : Str} {ys : List Str} {ta : TE} (h : Ev te σ H (.str a)) (hl : EvL ta σ H (ys.map V.str)) (hz : (ys.map (·.length)).sum + ys.length * a.length ≤ 16777216) : Ev (tBM K "str" (rJoin K) te (tCons ta tNil)) σ H (.str (Txt.join a ys)) := fun H1 e1 Q q =>
  h H1 e1 _ fun H2 e2 => ⟨rfl, hl H2 (e1.trans e2) _ fun p H3 hp e3 h3 => ⟨a, p, ys, rfl, rfl, .inl (sq_of h3), hz, q H3 (e2.trans e3)⟩⟩
theorem en_toldT {t : Str} {E : XK} (h : Ev te σ H (.str t)) (hz : t.length ≤ 9000) : EvN K (tCall (spTold K) [] E (tCons te tNil)) σ H (toldD (parse t)) := en_call (ea_cons h ea_nil) fun H1 e Q q E => ⟨_, rfl, .inr ⟨t, rfl, hz, fun v H2 e2 hd => q v H2 e2 hd⟩⟩
theorem en_toldO {v : V} {E : XK} (h : Ev te σ H v) (hv : NoStr K v H) : EvN K (tCall (spTold K) [] E (tCons te tNil)) σ H (toldD none) := en_call (ea_cons h ea_nil) fun H1 e Q q E => ⟨_, rfl, .inl ⟨hv.mono e, fun v H2 e2 hd => q v H2 e2 hd⟩⟩
theorem en_dueT {t : Str} {E : XK} (h : Ev te σ H (.str t)) (hz : t.length ≤ 9000) : EvN K (tCall (spDue K) [] E (tCons te tNil)) σ H (toldD (parse t)) := en_call (ea_cons h ea_nil) fun H1 e Q q E => ⟨t, rfl, hz, fun v H2 e2 hd => q v H2 e2 hd⟩
theorem told_due {t : Str} {ta : TE} {E E' : XK} (h : Ev te σ H (.str t)) (h' : Ev ta σ H (.str t)) (hz : t.length ≤ 9000) : EvT (tTest (tOp (rNeD K) (tCall (spTold K) [] E (tCons te tNil)) (tCall (spDue K) [] E' (tCons ta tNil)))) σ H false :=
  et_same (en_toldT h hz) (en_dueT h' hz) fun fs hp => (parse_ok hz hp).2
theorem ev_mulS {z : Str} {n : Int} {ta : TE} (h : Ev te σ H (.str z)) (hn : Ev ta σ H (.int n)) (h1 : z.length = 1) (h2 : 1 ≤ n ∧ n ≤ 100000) : Ev (tOp rMulS te ta) σ H (.str (Txt.mul z n)) := ev_op h hn fun H1 e Q q => ⟨z, n, rfl, rfl, h1, h2.1, h2.2, q H1 (Ex.refl H1)⟩
theorem s_asgC {i : Nat} {sp : Sp} {E : XK} {ta : TA} {vs : List V} (h : EvA ta σ H vs) (k : ∀ H1, Ex H H1 → sp (vs ++ []) H1 (fun v H2 => D.nx (σ.set i (some v)) H2) E) : tAsg (tCall sp [] E ta) (gName i) D σ H := h H (Ex.refl H) _ k
def spLaw (K : PySem.W.Frag) : Sp := fun vs H Q _ => ∃ (a : Addr) (ns : List Int), vs = [.ref a] ∧ SqL K H a (ns.map V.int) ∧ RetV (.bl true) H Q
theorem fnG_fun {f : Addr} {fd : FuncData} {CX : CXT} {x : Str} {st : Stmt} {N ps : List Str} {sp : Sp} (F : FunD K x x (defArgs st) (defBody st) (defScope st) [] [] f fd) (S : FnScope N ps (defScope st)) (len : ∀ vs H Q E, sp vs H Q E → vs.length = ps.length)
    (body : ∀ (cdv : Value) (A : Around) (outer : List Env) (s : Shared) (H : Hp) (vs : List V) (Q : VK) (E : XK), Room k (A.deeper (envOfC x (defScope st) s.heap.objs.size f cdv)) → (A.deeper (envOfC x (defScope st) s.heap.objs.size f cdv)).guards = some [] → sp vs H Q E →
      ∃ t, PSs (cxOf CX P w K mg base N x (defScope st) f cdv A outer s H E) (defBody st) t ∧ t { nx := fun _ H' => Q .non H', rt := Q } (start N vs) H) : FnG P w K mg base CX (k + 1) f fd ps sp := by
  obtain ⟨oc, od, dV, kV, doc, pm, an, cdv, ct, osl, rfl, lk, hcd, _, _⟩ := id F.ex
  exact fnG_of lk hcd S len fun A outer s H vs Q E hr hg h => body cdv A outer s H vs Q E hr hg h
theorem okLaw {f : Addr} {fd : FuncData} (F : FunD K "law" "law" (defArgs sLaw) (defBody sLaw) (defScope sLaw) [] [] f fd) (T : Tx K mg) (GLawCell : Cal P w K mg base CX0 1 "_law_cell" ["_law_script", "_law_k"] (spCell K)) (GLawMix : Cal P w K mg base CX0 1 "_law_mix" ["_law_cell_here", "_law_k"] spMix)
    (GLawFrame : Cal P w K mg base CX0 3 "_law_frame" ["_law_cell_here"] (spFrameC K)) (GLawWritten : CalG P w K mg base CX0 1 "_law_written" ["_law_frame_here"] (spWritten K)) (GLawBent : Cal P w K mg base CX0 2 "_law_bent" ["_law_text", "_law_cell_here", "_law_k"] spBent)
    (GLawTold : CalG P w K mg base CX0 6 "_law_told" ["_law_thing"] (spTold K)) (GLawDue : CalG P w K mg base CX0 6 "_law_due" ["_law_text"] (spDue K)) : FnG P w K mg base CX0 7 f fd ["_law_script"] (spLaw K) := by
  refine fnG_fun F scLaw (fun vs H Q E ⟨v, ns, e, _⟩ => by rw [e]; rfl) fun cdv A outer s H vs Q E hr hcalm h => ?_
  obtain ⟨a, ns, rfl, ha, hy⟩ := h
  have hu64 := hr.units
  refine ⟨_, ((pss_cons (ps_for (passes_of rfl) rfl (pi_range1 rfl T.b_range (pa_cons pe_int pa_nil)) (pg_name (i := 1) scLaw.nd rfl (Or.inr rfl)) (pss_cons (ps_set (i := 2) scLaw.nd rfl (Or.inl rfl) (pe_cal GLawCell (hr.mono (by decide)) rfl pass0 (pa_cons (pv 0) (pa_cons (pe_op op_mul pe_int (pv 1)) pa_nil))))
      (pss_cons (ps_setLc (i := 3) (own := [("_law_j", 9)]) (g := gName 9) (tt := tYes) rfl scLaw.nd rfl rfl (sw_true rfl rfl rfl (by decide +kernel)) (pi_range1 rfl T.b_range (pa_cons (pe_op op_modN (pe_cal GLawMix (hr.mono (by decide)) rfl pass0 (pa_cons (pv 2) (pa_cons pe_int pa_nil))) pe_int) pa_nil)) (blkOk_by (own := [("_law_j", 9)]) (N := nLaw) (sc := defScope sLaw) (by decide +kernel)) (fun _ _ _ _ _ => pg_name (i := 9) scLaw.nd rfl (Or.inl rfl)) (fun _ _ _ _ _ => pts_nil) (fun _ _ _ _ _ => (pe_cal GLawFrame (hr.mono (by decide)) rfl pass0 (pa_cons (pe_cal GLawCell (hr.mono (by decide)) rfl pass0 (pa_cons (pv 0) (pa_cons (pe_op op_add (pe_op op_add (pe_op op_mul pe_int (pv 1)) pe_int) (pv 9)) pa_nil))) pa_nil))))
      (pss_cons (ps_set (i := 4) scLaw.nd rfl (Or.inl rfl) (pe_bm PySem.F.plainAttrs_str PySem.F.slot_str_join PySem.F.type_str_join mt_join pe_str (pa_cons (pe_lc (own := [("_law_frame_here", 10)]) (g := gName 10) (tt := tYes) rfl scLaw.nd (pi_list (pv 3)) (blkOk_by (own := [("_law_frame_here", 10)]) (N := nLaw) (sc := defScope sLaw) (by decide +kernel)) (fun _ _ _ _ _ => pg_name (i := 10) scLaw.nd rfl (Or.inl rfl)) (fun _ _ _ _ _ => pts_nil) (fun _ _ _ _ _ => (pe_calG GLawWritten (hr.mono (by decide)) hcalm rfl pass0 (pa_cons (pv 10) pa_nil)))) pa_nil)))
      (pss_cons (ps_set (i := 5) scLaw.nd rfl (Or.inl rfl) (pv 4))
      (pss_cons (ps_for (passes_of rfl) rfl (pi_range1 rfl T.b_range (pa_cons (pe_op op_add pe_int (pe_op op_modN (pe_cal GLawMix (hr.mono (by decide)) rfl pass0 (pa_cons (pv 2) (pa_cons pe_int pa_nil))) pe_int)) pa_nil)) (pg_name (i := 6) scLaw.nd rfl (Or.inl rfl)) (pss_one (ps_set (i := 5) scLaw.nd rfl (Or.inl rfl) (pe_cal GLawBent (hr.mono (by decide)) rfl pass0 (pa_cons (pv 5) (pa_cons (pv 2) (pa_cons (pe_op op_add pe_int (pe_op op_mul pe_int (pv 6))) pa_nil)))))))
      (pss_cons (ps_set (i := 7) scLaw.nd rfl (Or.inl rfl) (pe_ix ix_list (pe_lst (pa_cons pe_non (pa_cons pe_int (pa_cons pe_bl (pa_cons (pe_lst (pa_cons pe_str pa_nil)) (pa_cons (pe_tup (pa_cons pe_str pa_nil)) (pa_cons pe_dnewK (pa_cons (pv 3) (pa_cons pe_int pa_nil))))))))) (pe_op op_modN (pe_cal GLawMix (hr.mono (by decide)) rfl pass0 (pa_cons (pv 2) (pa_cons pe_int pa_nil))) pe_int) (fun _ _ => rfl)))
      (pss_cons (ps_for (passes_of rfl) rfl (pi_range1 rfl T.b_range (pa_cons pe_int pa_nil)) (pg_name (i := 6) scLaw.nd rfl (Or.inl rfl)) (pss_cons (ps_if (pt_cmpR (op_neD hu64) (pe_calG GLawTold (hr.mono (by decide)) hcalm rfl pass0 (pa_cons (pv 4) pa_nil)) (pe_tup (pa_cons pe_str (pa_cons (pe_callB (call_reprD hcalm hr.units) (by rfl) T.b_repr (by decide +kernel) (pa_cons (pv 3) pa_nil)) pa_nil))) (nomark _)) (pss_one (ps_ret pe_bl)) pss_nil)
      (pss_one (ps_if (PW.pt (pw_or (pt_cmpR (op_neD hu64) (pe_calG GLawTold (hr.mono (by decide)) hcalm rfl pass0 (pa_cons (pv 5) pa_nil)) (pe_calG GLawDue (hr.mono (by decide)) hcalm rfl pass0 (pa_cons (pv 5) pa_nil)) (nomark _)) (pw_or1 (pt_cmpR (op_neD hu64) (pe_calG GLawTold (hr.mono (by decide)) hcalm rfl pass0 (pa_cons (pv 7) pa_nil)) (pe_tup (pa_cons pe_str (pa_cons pe_bl pa_nil))) (nomark _))))) (pss_one (ps_ret pe_bl)) pss_nil))))
      (pss_cons (ps_set (i := 8) scLaw.nd rfl (Or.inl rfl) (pe_op op_add_str (pe_op op_add_str pe_str (pe_op op_mulS (pe_ix ix_str pe_str (pe_op op_add pe_int (pe_op op_modN (pv 1) pe_int)) (fun _ _ => rfl)) (pe_ix ix_list (pe_lst (pa_cons pe_int (pa_cons pe_int (pa_cons pe_int (pa_cons pe_int (pa_cons pe_int (pa_cons pe_int pa_nil))))))) (pe_op op_modN (pe_cal GLawMix (hr.mono (by decide)) rfl pass0 (pa_cons (pv 2) (pa_cons pe_int pa_nil))) pe_int) (fun _ _ => rfl)))) pe_str))
      (pss_one (ps_if (PW.pt (pw_or (pt_cmpR (op_neD hu64) (pe_calG GLawTold (hr.mono (by decide)) hcalm rfl pass0 (pa_cons (pv 8) pa_nil)) (pe_calG GLawDue (hr.mono (by decide)) hcalm rfl pass0 (pa_cons (pv 8) pa_nil)) (nomark _)) (pw_or1 (pt_cmpR (op_neD hu64) (pe_calG GLawTold (hr.mono (by decide)) hcalm rfl pass0 (pa_cons (pe_op op_add_str (pv 4) (pv 8)) pa_nil)) (pe_calG GLawDue (hr.mono (by decide)) hcalm rfl pass0 (pa_cons (pe_op op_add_str (pv 4) (pv 8)) pa_nil)) (nomark _))))) (pss_one (ps_ret pe_bl)) pss_nil)))))))))))
      (pss_one (ps_ret pe_bl)))), ?_⟩
  refine q_forR1 (ea_cons ev_c ea_nil) ⟨by decide, by decide⟩ (fun i σ' H' => Ex H H' ∧ ∃ x1 x2 x3 x4 x5 x6 x7 x8 x9 x10, σ' = [some (.ref a), x1, x2, x3, x4, x5, x6, x7, x8, x9, x10]) (fun H1 e1 => ⟨e1, _, _, _, _, _, _, _, _, _, _, rfl⟩) (fun i σ' H0 hi z => ?_) fun σ' H' z => ?_
  rotate_left
  · obtain ⟨ex, _, _, _, _, _, _, _, _, _, _, rfl⟩ := z
    exact s_retV ev_c (RetV.goV hy ex)
  obtain ⟨e0, x1, x2, x3, x4, x5, x6, x7, x8, x9, x10, rfl⟩ := z
  have i10 : i < 10 := by omega
  have fok := framesL_ok ns i
  have flen := framesL_len ns i
  have tlen := text_len (framesL ns i) fok
  have tsum := text_sum (framesL ns i) fok
  have t1200 : (textF (framesL ns i)).length ≤ 1200 := by
    have : (framesL ns i).length * 300 ≤ 4 * 300 := Nat.mul_le_mul flen (Nat.le_refl _)
    omega
  refine q_asg (v := .int (cellF ns (6 * i))) (ev_call (ea_cons (ev_var rfl) (ea_cons (ev_is (ev_mulC ev_c (ev_var rfl) (.inl (by decide))) (w := .int ((6 * i : Nat) : Int)) (by push_cast; rfl)) ea_nil)) fun H1 e Q q E => ⟨a, ns, 6 * i, rfl, ex_l (e0.trans e) ha, by omega, fun H2 e2 => q H2 e2⟩) fun H1 e1 => ?_
  have e01 := e0.trans e1
  have m5 := fm (mixF (cellF ns (6 * i)) 0) (show (0 : Int) < 5 by decide)
  refine q_asgN (K := K) (d := framesD (framesL ns i)) ?_ fun v3 H2 e2 hd3 => ?_
  · unfold framesD framesL
    rw [List.map_map]
    refine en_lcR1 _ (ea_cons (ev_mod (call_mix (ev_var rfl) ev_c) ev_c (by decide)) ea_nil) (by omega) (by omega) (fun _ => rfl) fun j H2 e2 hj => ?_
    exact en_call (ea_cons (ev_call (ea_cons (ev_var rfl) (ea_cons (ev_is (ev_op (ev_op (ev_mulC ev_c (ev_var rfl) (.inl (by decide))) ev_c rv_I0) (ev_var rfl) rv_I0) (w := .int ((6 * i + 1 + j : Nat) : Int)) (by push_cast; rfl)) ea_nil)) fun H1 e Q q E => ⟨a, ns, 6 * i + 1 + j, rfl, ex_l ((e01.trans e2).trans e) ha, by omega, fun H2 e2 => q H2 e2⟩) ea_nil) fun H1 e Q q E => ⟨_, rfl, fun v H2 e2 hd => q v H2 e2 hd⟩
  have e02 := e01.trans e2
  obtain ⟨p3, xs, rfl, hp3, hx3⟩ := dp_lst hd3.dp
  have lxs : xs.length = (framesL ns i).length := by rw [dpAll_len hx3, List.length_map]
  refine q_asg (v := .str (textF (framesL ns i))) (ev_joinL (ys := (framesL ns i).map wr) ev_c (el_lcS (K := K) (ev_var rfl) hp3 (by rw [List.length_map, List.length_map, lxs]) (by omega) (fun _ => rfl) fun j x y H3 e3 hx hy => ?_) ?_) fun H3 e3 => ?_
  · obtain ⟨d, hd, dx⟩ := dpAll_get hx3 hx
    rw [List.getElem?_map] at hd
    cases hf : (framesL ns i)[j]? with
    | none => rw [hf] at hd; cases hd
    | some f =>
      rw [hf] at hd
      cases hd
      rw [List.getElem?_map, List.getElem?_map, hf] at hy
      cases hy
      have ok := fok f (List.mem_of_getElem? hf)
      exact ev_call (ea_cons (ev_var rfl) ea_nil) fun H1 e Q q E => ⟨_, f, rfl, dp_ex (e3.trans e) dx, ok.1, ok.2, fun H2 e2 => q H2 e2⟩
  · have : (("" : Str)).length = 0 := by decide +kernel
    rw [this]
    have : (framesL ns i).length * 300 ≤ 4 * 300 := Nat.mul_le_mul flen (Nat.le_refl _)
    omega
  have e03 := e02.trans e3
  refine q_asg (ev_var rfl) fun H4 e4 => ?_
  have e24 := e3.trans e4
  have m3 := fm (mixF (cellF ns (6 * i)) 1) (show (0 : Int) < 3 by decide)
  refine q_forR1 (ea_cons (ev_op ev_c (ev_mod (call_mix (ev_var rfl) ev_c) ev_c (by decide)) rv_I0) ea_nil) ⟨by omega, by omega⟩ (fun j σ' H' => Ex H2 H' ∧ ∃ r y, σ' = [some (.ref a), some (.int (i : Int)), some (.int (cellF ns (6 * i))), some (.ref p3), some (.str (textF (framesL ns i))), some (.str r), y, x7, x8, x9, x10] ∧ r.length ≤ 1200 + 20 * j) (fun H5 e5 => ⟨e24.trans e5, _, _, rfl, by omega⟩) (fun j σ' H' hj z => ?_) fun σ' H5 z => ?_
  · obtain ⟨ex, r, y, rfl, hr⟩ := z
    refine s_asgC (ea_cons (ev_var rfl) (ea_cons (ev_var rfl) (ea_cons (ev_op ev_c (ev_mulC ev_c (ev_var rfl) (.inl (by decide))) rv_I0) ea_nil))) fun H6 e6 => ?_
    exact ⟨r, _, _, rfl, by omega, fun r' hr' H7 e7 => ⟨(ex.trans e6).trans e7, r', _, rfl, by omega⟩⟩
  obtain ⟨e25, r, y, rfl, hr⟩ := z
  have hr : r.length ≤ 1300 := by omega
  have hp5 := ex_l e25 hp3
  refine q_asgP (K := K) (ep_pick (n := 8) (epa_cons (ep_v ev_c fun _ _ => ns_non) (epa_cons (ep_v ev_c fun _ _ => ns_int _) (epa_cons (ep_v ev_c fun _ _ => ns_bl _) (epa_cons (ep_lst (el_lst (ea_cons ev_c ea_nil) (by simp))) (epa_cons (ep_tup (eu_tup (ea_cons ev_c ea_nil) (by simp))) (epa_cons ep_dic (epa_cons (ep_v (ev_var rfl) fun H1 e => ns_lst (ex_l e hp5)) (epa_cons (ep_v ev_c fun _ _ => ns_int _) epa_nil)))))))) (ev_mod (call_mix (ev_var rfl) ev_c) ev_c (by decide)) (fm _ (by decide)) (by decide)) fun v7 H6 e6 h7 => ?_
  have e26 := e25.trans e6
  have hshow := shown_frames fok (by omega)
  have hx6 := dpAll_ex e26 hx3
  refine q_forR1 (ea_cons ev_c ea_nil) ⟨by decide, by decide⟩ (fun j σ' H' => Ex H6 H' ∧ ∃ y, σ' = [some (.ref a), some (.int (i : Int)), some (.int (cellF ns (6 * i))), some (.ref p3), some (.str (textF (framesL ns i))), some (.str r), y, some v7, x8, x9, x10]) (fun H7 e7 => ⟨e7, _, rfl⟩) (fun j σ' H7 hj z => ?_) fun σ' H7 z => ?_
  · obtain ⟨e67, y, rfl⟩ := z
    have dfs : Dp K H7 (.ref p3) (framesD (framesL ns i)) := .lst (ex_l (e26.trans e67) hp3) (dpAll_ex e67 hx6)
    refine q_when (b := false) (et_same (o := some (framesL ns i)) (by rw [← parse_back fok]; exact en_toldT (ev_var rfl) (by omega)) (en_told (ev_var rfl) dfs hshow) fun fs hfs => by cases hfs; exact fok) (fun z => by cases z) fun _ H8 e8 => ?_
    refine s_when (b := false) (et_or (a := false) (b := false) (told_due (ev_var rfl) (ev_var rfl) (by omega)) fun _ => et_same (o := none) (en_toldO (ev_var rfl) (h7.mono (e67.trans e8))) (en_refused ev_c) fun fs hfs => by cases hfs) (fun z => by cases z) fun _ H9 e9 => ⟨(e67.trans e8).trans e9, _, rfl⟩
  obtain ⟨e67, y, rfl⟩ := z
  have i9 := fm (i : Int) (show (0 : Int) < 9 by decide)
  obtain ⟨g, hg⟩ : ∃ g, (tl "0123456789")[(1 + (i : Int).fmod 9).toNat]? = some g := by
    have : (1 + (i : Int).fmod 9).toNat < (tl "0123456789").length := by
      have : (tl "0123456789").length = 10 := by decide +kernel
      omega
    rw [List.getElem?_eq_getElem this]
    exact ⟨_, rfl⟩
  have n6 := six (fm (mixF (cellF ns (6 * i)) 30) (show (0 : Int) < 6 by decide))
  have ml : (Txt.mul (⟨#[g]⟩ : Str) (pickI [12, 13, 14, 20, 40, 4400] ((mixF (cellF ns (6 * i)) 30).fmod 6))).length ≤ 4400 := PyProof.Rows.len_mul_one rfl n6.2
  generalize hmul : Txt.mul (⟨#[g]⟩ : Str) (pickI [12, 13, 14, 20, 40, 4400] ((mixF (cellF ns (6 * i)) 30).fmod 6)) = mt at ml
  have fl : (("w" : Str) ++ mt ++ ":;").length ≤ 4403 := by
    rw [len_app, len_app]
    show 1 + _ + 2 ≤ _
    omega
  refine q_asg (v := .str (("w" : Str) ++ mt ++ ":;")) (ev_op (ev_op ev_c (ev_is (ev_mulS (z := ⟨#[g]⟩) (ev_op ev_c (ev_is (ev_op ev_c (ev_mod (ev_var rfl) ev_c (by decide)) rv_I0) (w := .int (((1 + (i : Int).fmod 9).toNat : Nat) : Int)) (congrArg V.int (by omega))) (rv_ixS (by decide +kernel) (at_nat hg))) (ev_pick (ns := [12, 13, 14, 20, 40, 4400]) (ea_cons ev_c (ea_cons ev_c (ea_cons ev_c (ea_cons ev_c (ea_cons ev_c (ea_cons ev_c ea_nil)))))) rfl (ev_mod (call_mix (ev_var rfl) ev_c) ev_c (by decide)) (fm _ (by decide)) (by decide)) rfl ⟨n6.1, by omega⟩) (congrArg V.str hmul)) (rv_addS ?_)) ev_c (rv_addS ?_)) fun H8 e8 => ?_
  · show 1 + _ ≤ _
    omega
  · rw [len_app]
    show 1 + _ + 2 ≤ _
    omega
  have tf : ((textF (framesL ns i)) ++ (("w" : Str) ++ mt ++ ":;")).length ≤ 9000 := by
    rw [len_app]
    omega
  refine s_when (b := false) (et_or (a := false) (b := false) (told_due (ev_var rfl) (ev_var rfl) (by omega)) fun _ => told_due (ev_op (ev_var rfl) (ev_var rfl) (rv_addS (by omega))) (ev_op (ev_var rfl) (ev_var rfl) (rv_addS (by omega))) tf) (fun z => by cases z) fun _ H9 e9 => ⟨(((e02.trans e26).trans e67).trans e8).trans e9, _, _, _, _, _, _, _, _, _, _, rfl⟩
end
end Mk
set_option maxHeartbeats 0
/-! The head: what the top has left, by names. -/
namespace Mk
open PySem PySem.Spec PyProof.Rows L2
def dd (x : String) (st : Stmt) : He.DefD := ⟨(Str.ofString x, none), Str.ofString x, Str.ofString x, defArgs st, defBody st, defScope st, [], []⟩
def fnL0 : List He.DefD := [dd "is_whole" sIsWhole, dd "is_number" sIsNumber, dd "is_letters" sIsLetters, dd "is_word" sIsWord, dd "is_lane" sIsLane, dd "show_number" sShowNumber, dd "read_number" sReadNumber, dd "are_piece" sArePiece, dd "are_got" sAreGot, dd "is_frame" sIsFrame, dd "numbers_in" sNumbersIn, dd "rows_in" sRowsIn]
def fnL1 : List He.DefD := [dd "piece_in" sPieceIn, dd "frame_in" sFrameIn, dd "read_frames" sReadFrames, dd "_law_cell" sLawCell, dd "_law_mix" sLawMix, dd "_law_letters" sLawLetters, dd "_law_number" sLawNumber, dd "_law_word" sLawWord, dd "_law_rows" sLawRows, dd "_law_frame" sLawFrame, dd "_law_written" sLawWritten, dd "_law_is_number" sLawIsNumber]
def fnL2 : List He.DefD := [dd "_law_is_lane" sLawIsLane, dd "_law_are_rows" sLawAreRows, dd "_law_is_piece" sLawIsPiece, dd "_law_is" sLawIs, dd "_law_figures" sLawFigures, dd "_law_made" sLawMade, dd "_law_frames_in" sLawFramesIn, dd "_law_bent" sLawBent, dd "_law_told" sLawTold, dd "_law_due" sLawDue, dd "law" sLaw]
def fnL : List He.DefD := fnL0 ++ (fnL1 ++ (fnL2))
def faL0 : List He.Fa := [.glo "LaneError", .glo "BadShort", .glo "BadFigures", .glo "BadPacket", .glo "WORDS", .free "isinstance", .free "int", .free "bool", .free "str", .free "list", .free "tuple", .free "all"]
def faL1 : List He.Fa := [.free "len", .free "range", .free "repr", .free "min", .int "MOST" 1000000000000, .int "LANES" 40, .int "WORD" 8, .int "LONGEST" 13, .int "MOST_LETTERS" 64, .int "MOST_ROWS" 8, .str "SMALL" "abcdefghijklmnopqrstuvwxyz", .exc "BadFigures"]
def faL2 : List He.Fa := [.exc "BadPacket", .exm "BadFigures" "BadFigures" true, .exm "BadPacket" "BadPacket" true, .glo "is_whole", .glo "is_number", .glo "is_letters", .glo "is_word", .glo "is_lane", .glo "show_number", .glo "read_number", .glo "are_piece", .glo "are_got"]
def faL3 : List He.Fa := [.glo "is_frame", .glo "numbers_in", .glo "rows_in", .glo "piece_in", .glo "frame_in", .glo "read_frames", .glo "_law_cell", .glo "_law_mix", .glo "_law_letters", .glo "_law_number", .glo "_law_word", .glo "_law_rows"]
def faL4 : List He.Fa := [.glo "_law_frame", .glo "_law_written", .glo "_law_is_number", .glo "_law_is_lane", .glo "_law_are_rows", .glo "_law_is_piece", .glo "_law_is", .glo "_law_figures", .glo "_law_made", .glo "_law_frames_in", .glo "_law_bent", .glo "_law_told"]
def faL5 : List He.Fa := [.glo "_law_due", .glo "law"]
def faL : List He.Fa := faL0 ++ (faL1 ++ (faL2 ++ (faL3 ++ (faL4 ++ (faL5)))))
def wordsL : List (Str × Str) := [("p", "piece"), ("g", "got"), ("c", "credit"), ("w", "whole"), ("r", "reset"), ("q", "ask"), ("n", "answer"), ("e", "early"), ("x", "close")]
def tsL : List He.Tab := [(fun K => He.ga K "WORDS", wordsL.map (·.1))]
/-- what isinstance asks of the error that was caught -/
def extra (K : PySem.W.Frag) : Bool :=
  He.valsB K (He.ga K "WORDS") (wordsL.map fun q => (q.1, .str q.2)) &&
  (He.eqO (PySem.W.findIn K (.ref (He.ga K "BadPacket")) "__getattribute__") (some (some (.builtin "BaseException.__getattribute__"))) &&
  (He.eqO (PySem.W.findIn K (.ref (He.ga K "BadPacket")) "__getattr__") (some none) &&
  (PySem.W.hasDictIn K (He.ga K "BadPacket") &&
  (He.eqO (PySem.W.findIn K (.ref (He.ga K "BadPacket")) "__class__") (some (some (.builtin "object.__class__"))) &&
  (He.eqO (PySem.W.specialIn K (.builtin "object.__class__") "__get__") (some (some (.builtin "getset_descriptor.__get__"))) &&
  (decide (PySem.W.takesIn K (.builtin "object.__class__") = some true) &&
  (decide (PySem.W.mroIn K (He.ga K "BadPacket") (.type "object") = some true) &&
  (decide (PySem.W.kitOne K (.ref (He.ga K "BadPacket")) (.ref (He.ga K "BadFigures")) = some false) &&
  (decide (PySem.W.kitOne K (.ref (He.ga K "BadPacket")) (.ref (He.ga K "BadShort")) = some false) &&
  decide (PySem.W.kitOne K (.ref (He.ga K "BadPacket")) (.ref (He.ga K "LaneError")) = some true))))))))))
abbrev AlX : Type := He.AlT × Bool
def obsX (K : PySem.W.Frag) : AlX := (He.obsT faL fnL tsL K, extra K)
def valX (w : World) : AlX := (He.valT fnL tsL w, true)
def SaysX (w : World) (K : PySem.W.Frag) : Prop := obsX K = valX w
def obsXG (g : Addr → Option Obj) : AlX := obsX (He.frG g (He.asD g 4))
def hk : PySem.W.Hook where
  α := AlX
  obs := fun s => obsXG s.heap.get?
  val := valX
  says := fun w h => ∃ K : PySem.W.Frag, K.In h ∧ SaysX w K
  of := fun _ _ e => ⟨_, He.frG_in, e⟩
  keeps := fun _ _ _ ⟨K, hK, c⟩ k => ⟨K, PySem.W.Frag.In.keeps hK k, c⟩
abbrev R : PySem.W.OpenRow := PySem.W.OpenLaw.row PySem.Challenge.rw_manylanes_k33_whole_frames_text_spoilt
def ob (s : PySem.W.SharedT) : AlX := obsXG (HandSHeadRun.getT s)
theorem ob_eq (s : PySem.W.SharedT) : ob s = hk.obs s.abs := by
  have e : HandSHeadRun.getT s = s.abs.heap.get? := funext fun a => HandSHeadRun.getT_eq s a
  show obsXG _ = obsXG _
  rw [e]
def nm0 : List PySem.Str := ["LaneError", "BadShort", "BadFigures", "BadPacket", "MOST", "LANES", "WORD", "LONGEST", "MOST_LETTERS", "MOST_ROWS", "SMALL", "WORDS"]
def nm1 : List PySem.Str := ["is_whole", "is_number", "is_letters", "is_word", "is_lane", "show_number", "read_number", "are_piece", "are_got", "is_frame", "numbers_in", "rows_in"]
def nm2 : List PySem.Str := ["piece_in", "frame_in", "read_frames", "_law_cell", "_law_mix", "_law_letters", "_law_number", "_law_word", "_law_rows", "_law_frame", "_law_written", "_law_is_number"]
def nm3 : List PySem.Str := ["_law_is_lane", "_law_are_rows", "_law_is_piece", "_law_is", "_law_figures", "_law_made", "_law_frames_in", "_law_bent", "_law_told", "_law_due"]
def nm : List PySem.Str := nm0 ++ (nm1 ++ (nm2 ++ (nm3)))
theorem headF (w : World) : HandSHeadRun.RunEq R (PySem.W.view R.prog [51]) hk ob 4000 nm (w.withFollow "special-get-raises" false) := by
  intro os
  kernel_rfl
theorem headT (w : World) : HandSHeadRun.RunEq R (PySem.W.view R.prog [51]) hk ob 4000 nm (w.withFollow "special-get-raises" true) := by
  intro os
  kernel_rfl
theorem run (w : World) : HandSHeadRun.RunEq R (PySem.W.view R.prog [51]) hk ob 4000 nm w := PySem.W.byRow2 "special-get-raises" (P := fun w => HandSHeadRun.RunEq R (PySem.W.view R.prog [51]) hk ob 4000 nm w) headF headT w
end Mk
set_option maxHeartbeats 4000000
/-! The join. -/
namespace Mk
open PySem PySem.Spec PyProof.Rows L2 Evl TL
section
variable {P : Program} {w : World} {K : PySem.W.Frag} {mg : Str → Option Value} {base h : Heap}
theorem SaysX.d (c : SaysX w K) : He.SaysD faL fnL K := He.SaysT.d (show He.SaysT faL fnL tsL w K from congrArg (fun z : AlX => z.1) c)
theorem dat (X : K.In h) (G : h.Ns mainGlobals mg) (c : SaysX w K) {i j : Nat} {x : String} {st : Stmt} (hd : fnL[i]? = some (dd x st)) (hg : faL[j]? = some (.glo (Str.ofString x))) : DefAt K mg (Str.ofString x) st := by
  obtain ⟨fd, F⟩ := c.d.def_ i (d := dd x st) hd
  exact ⟨He.ga K (Str.ofString x), fd, F, He.glo_ok X G (c.d.fact j hg)⟩
theorem ext_of (X : K.In h) (G : h.Ns mainGlobals mg) (c : SaysX w K) {i j k : Nat} {x : Str} (hg : faL[i]? = some (.glo x)) (he : faL[j]? = some (.exc x)) (hm : faL[k]? = some (.exm x x true)) : ExT K mg x := by
  obtain ⟨a, b, d, e⟩ := He.exc_ok (c.d.fact j he)
  exact ⟨a, b, d, e, He.glo_ok X G (c.d.fact i hg), He.exm_ok (c.d.fact k hm)⟩
theorem tx_of (X : K.In h) (G : h.Ns mainGlobals mg) (c : SaysX w K) : Tx K mg where
  b_isinstance := He.free_ok X G (c.d.fact 5 rfl)
  b_int := He.free_ok X G (c.d.fact 6 rfl)
  b_bool := He.free_ok X G (c.d.fact 7 rfl)
  b_str := He.free_ok X G (c.d.fact 8 rfl)
  b_list := He.free_ok X G (c.d.fact 9 rfl)
  b_tuple := He.free_ok X G (c.d.fact 10 rfl)
  b_all := He.free_ok X G (c.d.fact 11 rfl)
  b_len := He.free_ok X G (c.d.fact 12 rfl)
  b_range := He.free_ok X G (c.d.fact 13 rfl)
  b_repr := He.free_ok X G (c.d.fact 14 rfl)
  b_min := He.free_ok X G (c.d.fact 15 rfl)
  iMOST := He.int_ok X G (c.d.fact 16 rfl)
  iLANES := He.int_ok X G (c.d.fact 17 rfl)
  iWORD := He.int_ok X G (c.d.fact 18 rfl)
  iLONGEST := He.int_ok X G (c.d.fact 19 rfl)
  iMOST_LETTERS := He.int_ok X G (c.d.fact 20 rfl)
  iMOST_ROWS := He.int_ok X G (c.d.fact 21 rfl)
  sSMALL := He.str_ok X G (c.d.fact 22 rfl)
  eF := ext_of X G c (i := 2) (j := 23) (k := 25) rfl rfl rfl
  eP := ext_of X G c (i := 3) (j := 24) (k := 26) rfl rfl rfl
theorem keys_off {z : Str} : ∀ {l : List DictEntry} {ks : List Str}, l.map He.keyOf = He.keysIn w.params ks → z ∉ ks → l.find? (·.key.isStr z) = none ∧ l.any (·.refKey) = false
  | [], _, _, _ => ⟨rfl, rfl⟩
  | e :: r, [], h, _ => by cases h
  | e :: r, k :: ks, h, hz => by
    have h1 : He.keyOf e :: r.map He.keyOf = some (k, PyData.keyHash w.params k) :: He.keysIn w.params ks := h
    injection h1 with h2 h3
    have ih := keys_off h3 fun m => hz (List.mem_cons_of_mem _ m)
    unfold He.keyOf at h2
    split at h2
    · rename_i x t q
      have h5 := (Prod.mk.inj (Option.some.inj h2)).1
      have hne : (x == z) = false := by
        rw [h5]
        apply beq_false_of_ne
        intro e
        exact hz (by rw [← e]; exact List.mem_cons_self ..)
      refine ⟨?_, ?_⟩
      · rw [List.find?_cons]
        have : e.key.isStr z = false := by rw [q]; exact hne
        rw [this]
        exact ih.1
      · rw [List.any_cons, ih.2, Bool.or_false]
        unfold DictEntry.refKey
        rw [q]
    · cases h2
theorem tw_of (X : K.In h) (G : h.Ns mainGlobals mg) (c : SaysX w K) : TW K w mg := by
  have ct : He.SaysT faL fnL tsL w K := congrArg (fun z : AlX => z.1) c
  have cx : extra K = true := congrArg (fun z : AlX => z.2) c
  have cv : He.valsB K (He.ga K "WORDS") (wordsL.map fun q => (q.1, He.Dv.str q.2)) = true := (Bool.and_eq_true_iff.mp cx).1
  have ck : He.dicW K (He.ga K "WORDS") = some (He.keysIn w.params (wordsL.map (·.1))) := by
    have e : tsL.map (fun t => He.dicW K (t.1 K)) = tsL.map fun t => some (He.keysIn w.params t.2) := congrArg (fun z : He.AlT => z.2) ct
    exact (List.cons.inj e).1
  obtain ⟨es, n, kd⟩ := He.dicW_ok ck
  refine ⟨He.glo_ok X G (c.d.fact 4 rfl), ⟨es, n, kd⟩, fun x y hxy => ?_, fun x hx => ?_⟩
  · have hm := word_mem hxy
    have : ((⟨#[x]⟩ : Str), y) ∈ wordsL := by
      simp only [wtab, List.mem_cons, Prod.mk.injEq, List.not_mem_nil, or_false] at hm
      rcases hm with ⟨rfl, rfl⟩ | ⟨rfl, rfl⟩ | ⟨rfl, rfl⟩ | ⟨rfl, rfl⟩ | ⟨rfl, rfl⟩ | ⟨rfl, rfl⟩ | ⟨rfl, rfl⟩ | ⟨rfl, rfl⟩ | ⟨rfl, rfl⟩ <;> decide +kernel
    exact He.valsB_ok cv (q := (⟨#[x]⟩, .str y)) (List.mem_map.mpr ⟨_, this, rfl⟩)
  · have e0 : wordsL.map (·.1) = ([112, 103, 99, 119, 114, 113, 110, 101, 120] : List Nat).map fun c => (⟨#[c]⟩ : Str) := by decide +kernel
    have off : (⟨#[x]⟩ : Str) ∉ wordsL.map (·.1) := by
      rw [e0]
      intro hm
      obtain ⟨d, hd, e⟩ := List.mem_map.mp hm
      have e2 : d = x := by
        have := congrArg tl e
        have : [d] = [x] := this
        exact (List.cons.inj this).1
      subst e2
      simp only [List.mem_cons, List.not_mem_nil, or_false] at hd
      rcases hd with rfl | rfl | rfl | rfl | rfl | rfl | rfl | rfl | rfl <;> exact absurd hx (by decide +kernel)
    have hk : es.toList.map He.keyOf = He.keysIn w.params (wordsL.map (·.1)) := by
      unfold He.dicW at ck
      rw [kd.at_] at ck
      have ck : (match decide (("dict" : String) = "dict") && ((#[] : Array (Option Value)).isEmpty && !(He.ga K "WORDS" == sysModules)) with
        | true => some (es.toList.map He.keyOf)
        | false => none) = some (He.keysIn w.params (wordsL.map (·.1))) := ck
      split at ck
      · exact Option.some.inj ck
      · cases ck
    obtain ⟨o1, o2⟩ := keys_off hk off
    unfold PySem.W.nsIn
    rw [kd.at_]
    show (match es.toList.find? (·.key.isStr ⟨#[x]⟩) with
      | some e => some (some e.val)
      | none => if es.toList.any (·.refKey) then none else some none) = some none
    rw [o1, o2]
    rfl
theorem tr_of (X : K.In h) (G : h.Ns mainGlobals mg) (c : SaysX w K) (T : Tx K mg) : TR K mg := by
  have cx : extra K = true := congrArg (fun z : AlX => z.2) c
  unfold extra at cx
  simp only [Bool.and_eq_true, decide_eq_true_eq] at cx
  obtain ⟨_, a1, a2, a3, a4, a5, a6, a7, a8, a9, a10⟩ := cx
  exact ⟨⟨He.eqO_ok a1, He.eqO_ok a2, T.eP.bc, a3, He.eqO_ok a4, He.eqO_ok a5, a6, a7⟩, a8, a9, a10, He.glo_ok X G (c.d.fact 1 rfl), He.glo_ok X G (c.d.fact 0 rfl)⟩
theorem law_of (X : K.In h) (G : h.Ns mainGlobals mg) (c : SaysX w K) {f : Addr} {fd : FuncData} (F : FunD K "law" "law" (defArgs sLaw) (defBody sLaw) (defScope sLaw) [] [] f fd) : FnG P w K mg base CX0 7 f fd ["_law_script"] (spLaw K) := by
  have T := tx_of X G c
  have W := tw_of X G c
  have R := tr_of X G c T
  have GIsWhole := okIsWhole (P := P) (w := w) (base := base) (dat X G c (i := 0) (j := 27) rfl rfl) T
  have GIsNumber := okIsNumber (P := P) (w := w) (base := base) (dat X G c (i := 1) (j := 28) rfl rfl) T GIsWhole
  have GIsLane := okIsLane (P := P) (w := w) (base := base) (dat X G c (i := 4) (j := 31) rfl rfl) T GIsWhole
  have GIsLetters := okIsLetters (P := P) (w := w) (base := base) (dat X G c (i := 2) (j := 29) rfl rfl) T
  have GIsWord := okIsWord (P := P) (w := w) (base := base) (dat X G c (i := 3) (j := 30) rfl rfl) T
  have GShowNumber := okShowNumber (P := P) (w := w) (base := base) (dat X G c (i := 5) (j := 32) rfl rfl) T
  have GReadNumber := okReadNumber (P := P) (w := w) (base := base) (dat X G c (i := 6) (j := 33) rfl rfl) T
  have GArePiece := okArePiece (P := P) (w := w) (base := base) (dat X G c (i := 7) (j := 34) rfl rfl) T GIsLane GIsNumber GIsLetters
  have GAreGot := okAreGot (P := P) (w := w) (base := base) (dat X G c (i := 8) (j := 35) rfl rfl) T GIsNumber
  have GIsFrame := okIsFrame (P := P) (w := w) (base := base) (dat X G c (i := 9) (j := 36) rfl rfl) T GIsLane GIsNumber GIsWord GArePiece GAreGot
  have GNumbersIn := okNumbersIn (P := P) (w := w) (base := base) (dat X G c (i := 10) (j := 37) rfl rfl) T GReadNumber
  have GRowsIn := okRowsIn (P := P) (w := w) (base := base) (dat X G c (i := 11) (j := 38) rfl rfl) T
  have GPieceIn := okPieceIn (P := P) (w := w) (base := base) (dat X G c (i := 12) (j := 39) rfl rfl) T
  have GFrameIn := okFrameIn (P := P) (w := w) (base := base) (dat X G c (i := 13) (j := 40) rfl rfl) T GNumbersIn GPieceIn GRowsIn
  have GReadFrames := okReadFrames (P := P) (w := w) (base := base) (dat X G c (i := 14) (j := 41) rfl rfl) T W GFrameIn GIsFrame GShowNumber
  have GLawCell := okLawCell (P := P) (w := w) (base := base) (dat X G c (i := 15) (j := 42) rfl rfl) T
  have GLawMix := okLawMix (P := P) (w := w) (base := base) (dat X G c (i := 16) (j := 43) rfl rfl) T
  have GLawLetters := okLawLetters (P := P) (w := w) (base := base) (dat X G c (i := 17) (j := 44) rfl rfl) T GLawMix
  have GLawNumber := okLawNumber (P := P) (w := w) (base := base) (dat X G c (i := 18) (j := 45) rfl rfl) T GLawMix
  have GLawWord := okLawWord (P := P) (w := w) (base := base) (dat X G c (i := 19) (j := 46) rfl rfl) T GLawMix
  have GLawRows := okLawRows (P := P) (w := w) (base := base) (dat X G c (i := 20) (j := 47) rfl rfl) T GLawMix
  have GLawFrame := okLawFrame (P := P) (w := w) (base := base) (dat X G c (i := 21) (j := 48) rfl rfl) T GLawMix GLawNumber GLawLetters GLawRows GLawWord
  have GLawWritten := okLawWritten (P := P) (w := w) (base := base) (dat X G c (i := 22) (j := 49) rfl rfl) T
  have GLawIsNumber := okLawIsNumber (P := P) (w := w) (base := base) (dat X G c (i := 23) (j := 50) rfl rfl) T
  have GLawIsLane := okLawIsLane (P := P) (w := w) (base := base) (dat X G c (i := 24) (j := 51) rfl rfl) T GLawIsNumber
  have GLawAreRows := okLawAreRows (P := P) (w := w) (base := base) (dat X G c (i := 25) (j := 52) rfl rfl) T GLawIsNumber
  have GLawIsPiece := okLawIsPiece (P := P) (w := w) (base := base) (dat X G c (i := 26) (j := 53) rfl rfl) T GLawIsNumber GLawIsLane
  have GLawIs := okLawIs (P := P) (w := w) (base := base) (dat X G c (i := 27) (j := 54) rfl rfl) T GLawIsNumber GLawIsLane GLawAreRows GLawIsPiece
  have GLawFigures := okLawFigures (P := P) (w := w) (base := base) (dat X G c (i := 28) (j := 55) rfl rfl) T
  have GLawMade := okLawMade (P := P) (w := w) (base := base) (dat X G c (i := 29) (j := 56) rfl rfl) T GLawFigures
  have GLawFramesIn := okLawFramesIn (P := P) (w := w) (base := base) (dat X G c (i := 30) (j := 57) rfl rfl) T GLawFigures GLawMade GLawIs
  have GLawBent := okLawBent (P := P) (w := w) (base := base) (dat X G c (i := 31) (j := 58) rfl rfl) T GLawMix
  have GLawTold := okLawTold (P := P) (w := w) (base := base) (dat X G c (i := 32) (j := 59) rfl rfl) T R GReadFrames
  have GLawDue := okLawDue (P := P) (w := w) (base := base) (dat X G c (i := 33) (j := 60) rfl rfl) T GLawFramesIn
  have GLaw := okLaw (P := P) (w := w) (base := base) F T GLawCell GLawMix GLawFrame GLawWritten GLawBent GLawTold GLawDue
  exact GLaw
end
end Mk
open PySem PySem.W PySem.Calls PyProof.Rows
theorem PySem.Challenge.cw_manylanes_k33_whole_frames_text_spoilt_holds : PySem.Challenge.rw_manylanes_k33_whole_frames_text_spoilt.Holds := by
  w_on; o_law
  refine HandSHeadRun.head_any (r := OpenLaw.row PySem.Challenge.rw_manylanes_k33_whole_frames_text_spoilt) (q := view (OpenLaw.row PySem.Challenge.rw_manylanes_k33_whole_frames_text_spoilt).prog [51]) (H := Mk.hk) (ob := Mk.ob) (M := 4000) (loose := Mk.nm) (d := HandSHeadRun.topDef (OpenLaw.row PySem.Challenge.rw_manylanes_k33_whole_frames_text_spoilt).prog 51) (kwd := []) Mk.ob_eq
    (by kernel_rfl) (fun s => by kernel_rfl) Mk.run (by kernel_rfl) (by kernel_rfl) (by kernel_rfl) (by rfl) (by first | assumption | decide +kernel) (by decide +kernel) ⟨rfl, rfl, rfl, rfl, rfl, by decide +kernel⟩ ?hw ?hc
  case hw => w_witness2
  case hc =>
    refine Mk.walk_ofG (l := PySem.Challenge.rw_manylanes_k33_whole_frames_text_spoilt) (k := 7) (x := "_law_script") rfl (by kernel_rfl) ⟨rfl, by decide, by decide⟩ ?F
    intro w mg fa h Y G hmg0
    obtain ⟨K, KX, c⟩ := Y
    have hmg : mg ("law" : PySem.Str) = some (.ref fa) := by
      have e : (HandSHeadRun.topDef (OpenLaw.row PySem.Challenge.rw_manylanes_k33_whole_frames_text_spoilt).prog 51).name = ("law" : PySem.Str) := by kernel_rfl
      rw [← e]
      exact hmg0
    obtain ⟨fd, F0⟩ := c.d.def_ 34 (d := Mk.dd "law" Mk.sLaw) rfl
    have gl := He.glo_ok KX G (c.d.fact 61 (f := .glo "law") rfl)
    rw [hmg] at gl
    cases gl
    have b := F0.bindsA (ps := ["_law_script"]) fun _ _ _ _ _ _ us hl => match us, hl with | [_], _ => rfl
    refine ⟨K, fd, Mk.spLaw K, KX, fun s v => b s [v] rfl, fun H a ns hl hS => ⟨a, ns, rfl, hS, fun H2 _ => rfl⟩, fun base _ _ => ?_⟩
    exact Mk.law_of KX G c F0
